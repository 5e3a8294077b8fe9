/- Words. -/
import Derived.Test.YtaecjmiobllhmaaGreatGq97
import Derived.Test.YtaecjmiobllhmaaGreatGq36
import Derived.Test.YtaecjmiobllhmaaGreatGq35
set_option linter.unusedVariables false
set_option linter.unusedSimpArgs false
set_option maxRecDepth 100000
set_option maxHeartbeats 16000000
namespace Go.Proofs.YtaecjmiobllhmaaGreat
open Go.Value renaming int→I,string→V,slice→U,pointer→O
open Go.IntKind renaming i64→J
open Tryz renaming prog→pQ
open Go.RowKit Go.Lib Go.ChangeShapes Go.WideShapes Go.ChangeAt Go.Deep
variable {g:Nat}{w:World}{fo fe it se:Sl}{G:Nat→Prop}{l:List Ev}
theorem Mf{W:World}{tmps:Array Value}{a0 a1 a2 a3 a4 a5 a6 a7 a8 b c:Value}(hb:ai W g 36 #[a0,a1,a2,a3,a4,a5,a6,a7,a8])(h2:tmps.getD 4 undef=O (some ⟨g,0,none⟩))(h3:tmps.getD 5 undef=b)(h4:tmps.getD 6 undef=c):
  (results Tryz.f25 tmps).run pQ W=.ok (.tuple #[.agg #[a0,a1,a2,a3,a4,a5,a6,a7,a8],b,c]) W:=by
 obtain⟨c0,c1,c2,c3,c4,c5,c6,c7,c8⟩:=ak hb;have h2':tmps[4]?.getD undef=O (some ⟨g,0,none⟩):=by simpa using h2
 have IR:tmps[5]?.getD undef=b:=by simpa using h3
 have h4':tmps[6]?.getD undef=c:=by simpa using h4
 simp[results,Tryz.results25,h2',IR,h4',go_sem,c0,c1,c2,c3,c4,c5,c6,c7,c8]
theorem Mg{ts:List (Sl×aJ)}{x:St}(hS:aM w G fo fe it se ts x)(hP:di x)(k a b n:Int)(s t:ByteArray)(hs:s.size≤10000)(ht:t.size≤10000):
  Calls pQ 25 #[bE fo fe it se x,.agg #[I J k,I J a,I J b,I J n,V s,V t]] w λr w'=>∃(fo fe it se:Sl) (ts:List (Sl×aJ)) (v:Sl),r=.returned (.tuple #[bE fo fe it se (Hm ah aC x ⟨k,a,b,n,s,t⟩),U v.1 (aB ah aC x ⟨k,a,b,n,s,t⟩).1.length v.2,I J (aB ah aC x ⟨k,a,b,n,s,t⟩).2])∧aM w' (λk=>(G k∧k<w.heap.size)∨w.heap.size≤k) fo fe it se ts (Hm ah aC x ⟨k,a,b,n,s,t⟩)∧aN w' (λk=>w.heap.size≤k) 7 v (aB ah aC x ⟨k,a,b,n,s,t⟩).1.length ((aB ah aC x ⟨k,a,b,n,s,t⟩).1.flatMap Ev.cells)∧aa ac w w':=by
 have hlen:=wO hP ⟨k,a,b,n,s,t⟩;obtain⟨W0,hW0⟩:∃W0,W0=((w.alloc (.cells #[I J x.clock,U fo.1 x.fols.length fo.2,U fe.1 x.fees.length fe.2,U it.1 x.itms.length it.2,U se.1 x.seas.length se.2,I J x.tFol,I J x.tFee,I J x.tItm,I J x.tSea] 36)).alloc (.cells #[I J k,I J a,I J b,I J n,V s,V t] 49)).alloc (.cells #[I J 0,U none 0 0,U none 0 0,U none 0 0,U none 0 0,I J 0,I J 0,I J 0,I J 0] 36):=⟨_,rfl⟩;have dM:Hid (aa ac w W0):=by unfold Hid;rw[hW0];exact(((fR w).alloc _).alloc _).alloc _
 have Pa:Hid (W0.heap.size=w.heap.size+3):=by unfold Hid;rw[hW0];simp
 have mG:Hid (ai W0 w.heap.size 36 #[I J x.clock,U fo.1 x.fols.length fo.2,U fe.1 x.fees.length fe.2,U it.1 x.itms.length it.2,U se.1 x.seas.length se.2,I J x.tFol,I J x.tFee,I J x.tItm,I J x.tSea]):=by unfold Hid;rw[hW0];exact((ai.new w _ _).alloc _).alloc _
 have dw:Hid (ai W0 (w.heap.size+1) 49 #[I J k,I J a,I J b,I J n,V s,V t]):=by
  unfold Hid;rw[hW0];have q1:=ai.new (w.alloc (.cells #[I J x.clock,U fo.1 x.fols.length fo.2,U fe.1 x.fees.length fe.2,U it.1 x.itms.length it.2,U se.1 x.seas.length se.2,I J x.tFol,I J x.tFee,I J x.tItm,I J x.tSea] 36)) 49 #[I J k,I J a,I J b,I J n,V s,V t];rw[show (w.alloc (.cells #[I J x.clock,U fo.1 x.fols.length fo.2,U fe.1 x.fees.length fe.2,U it.1 x.itms.length it.2,U se.1 x.seas.length se.2,I J x.tFol,I J x.tFee,I J x.tItm,I J x.tSea] 36)).heap.size=w.heap.size+1 by simp] at q1;exact q1.alloc _
 have HBr:Hid (ai W0 (w.heap.size+2) 36 #[I J 0,U none 0 0,U none 0 0,U none 0 0,U none 0 0,I J 0,I J 0,I J 0,I J 0]):=by
  unfold Hid;rw[hW0];have q1:=ai.new ((w.alloc (.cells #[I J x.clock,U fo.1 x.fols.length fo.2,U fe.1 x.fees.length fe.2,U it.1 x.itms.length it.2,U se.1 x.seas.length se.2,I J x.tFol,I J x.tFee,I J x.tItm,I J x.tSea] 36)).alloc (.cells #[I J k,I J a,I J b,I J n,V s,V t] 49)) 36 #[I J 0,U none 0 0,U none 0 0,U none 0 0,U none 0 0,I J 0,I J 0,I J 0,I J 0];rw[show ((w.alloc (.cells #[I J x.clock,U fo.1 x.fols.length fo.2,U fe.1 x.fees.length fe.2,U it.1 x.itms.length it.2,U se.1 x.seas.length se.2,I J x.tFol,I J x.tFee,I J x.tItm,I J x.tSea] 36)).alloc (.cells #[I J k,I J a,I J b,I J n,V s,V t] 49)).heap.size=w.heap.size+2 by simp] at q1;exact q1
 have HW:=h_ hW0;obtain⟨r,hr⟩:∃r,aB ah aC x ⟨k,a,b,n,s,t⟩=r:=⟨_,rfl⟩;obtain⟨l,er⟩:=r;obtain⟨m,hm⟩:∃m,l.length=m:=⟨_,rfl⟩;have HDo:Hid (Hm ah aC x ⟨k,a,b,n,s,t⟩=cZ x l):=by unfold Hid Hm;rw[hr]
 have KP:Hid (Calls pQ 21 #[bE fo fe it se x,.agg #[I J k,I J a,I J b,I J n,V s,V t]] W0 λe w'=>∃Av cv,e=.returned (.tuple #[U Av m cv,I J er])∧aN w' (λk=>w.heap.size+2<k) 7 (Av,cv) l.length (l.flatMap Ev.cells)∧aa ac W0 w'):=by
  have q:=yF (hS.nix dM.out) hP k a b n s t hs ht;rw[hr] at q;exact q.mono λe w' ⟨⟨A,c⟩,h1,h2,h3⟩=>⟨A,c,by rw[←hm];exact h1,h2.mono λj hj=>by have:=Pa.out;omega,h3⟩
 rw[hr] at hlen ⊢;rw[HDo.out];dsimp only at hlen ⊢;have HSn:Hid (aM W0 (λk=>(G k∧k<w.heap.size)∨w.heap.size+2<k) fo fe it se ts x):=(hS.old.nix dM.out).mono λj hj=>.inl hj
 have Ut:=h_ hP;have HN:=h_ hm;rw[hm] at hlen ⊢;obtain⟨x0,x1,x2,x3,x4,x5,x6,x7,x8⟩:=ak mG.out;obtain⟨c0,c1,c2,c3,c4,c5⟩:=bn dw.out;clear hS hP hs ht hW0 hr HDo hm;unfold bE;go_enter Tryz.func25,Tryz.ntmps25;show Code.wp pQ (aj 0 (ae Tryz.f25)) _ _ _
 refine aG (k':=1) λK hK=>?_
 conv in bz _=>whnf
 go_wp2;rw[←HW.out];refine aG (k':=2) λK hK=>?_
 conv in bz _=>whnf
 go_wp2_with (first|(go_at_call 21;refine KP.out.mono ?_;rintro e w2 ⟨Av,cv,rfl,dL,hf⟩;have kL:=h_ dL;have Y2:=h_ hf;clear dL hf)|fail);have xf:Hid (ai w2 w.heap.size 36 #[I J x.clock,U fo.1 x.fols.length fo.2,U fe.1 x.fees.length fe.2,U it.1 x.itms.length it.2,U se.1 x.seas.length se.2,I J x.tFol,I J x.tFee,I J x.tItm,I J x.tSea]):=mG.out.frm Y2.out id;have gI:Hid (ai w2 (w.heap.size+2) 36 #[I J 0,U none 0 0,U none 0 0,U none 0 0,U none 0 0,I J 0,I J 0,I J 0,I J 0]):=HBr.out.frm Y2.out id;have J3:=h_ (HSn.out.nix Y2.out);have qx:Hid (aa ac w w2):=dM.out.trans Y2.out;clear x0 x1 x2 x3 x4 x5 x6 x7 x8 c0 c1 c2 c3 c4 c5;refine aG (k':=3) λK hK=>?_
 conv in bz _=>whnf
 go_wp2
 go_loopw [9] (λkv wr=>∃(k:Nat) (fo fe it se:Sl) (ts:List (Sl×aJ)) (z:St),k≤m∧kv=I J k∧z=cZ x (l.take k)∧ai wr w.heap.size 36 #[I J z.clock,U fo.1 z.fols.length fo.2,U fe.1 z.fees.length fe.2,U it.1 z.itms.length it.2,U se.1 z.seas.length se.2,I J z.tFol,I J z.tFee,I J z.tItm,I J z.tSea]∧aM wr (λk=>(G k∧k<w.heap.size)∨w.heap.size+2<k) fo fe it se ts z∧ai wr (w.heap.size+2) 36 #[I J 0,U none 0 0,U none 0 0,U none 0 0,U none 0 0,I J 0,I J 0,I J 0,I J 0]∧aN wr (λk=>w.heap.size+2<k) 7 (Av,cv) l.length (l.flatMap Ev.cells)∧aa ac w wr) (λkv _=>m-(intOf kv).toNat)
 case atStart=>exact⟨0,fo,fe,it,se,ts,x,by omega,rfl,rfl,xf.out,J3.out,gI.out,kL.out,qx.out⟩
 case round=>
  obtain⟨k,fo,fe,it,se,ts,z,hk,rfl,hx,hb,hs,hz,hv,hf⟩:=hrel;have HX:=h_ hx;have HB:=h_ hb;have HS:=h_ hs;have uL:=h_ hz;have HV:=h_ hv;have HF:=h_ hf;have HP:Hid (di z):=by rw[hx];exact qK _ Ut.out
  clear hx hb hs hz hv hf
  by_cases hlt:k<m
  ·have dX:k<l.length:=by rw[HN.out];exact hlt
   obtain⟨b,off,hA,hgb,hbl,hcell⟩:=pO HV.out (aa.refl _ _) dX
   (try dsimp only at hA)
   subst hA;have E7:=h_ (qj (x:=x) dX);obtain⟨ev,hev⟩:∃ev,l[k]=ev:=⟨_,rfl⟩;rw[hev] at hcell E7;have KA:Hid (∀W,aa ac wr W→Calls pQ 14 #[bE fo fe it se z,.agg #[I J ev.kind,I J ev.a,I J ev.b,I J ev.n,V ev.s,V ev.t,V ev.u]] W (pV W (λk=>(G k∧k<w.heap.size)∨w.heap.size+2<k) (bB z ev).1 (bB z ev).2)):=λW hW=>sq (HS.out.nix hW) HP.out.small ev
   obtain⟨x0,x1,x2,x3,x4,x5,x6,x7,x8⟩:=ak HB.out;obtain⟨c0,c1,c2,c3,c4,c5,c6⟩:=hcell ac wr id (aa.refl _ _);have Ua:=HB.out.lt;have HC:Hid (∀W,aa ac wr W→(W.cell? ⟨w.heap.size,0,none⟩=some (I J z.clock)∧W.cell? ⟨w.heap.size,1,none⟩=some (U fo.1 z.fols.length fo.2)∧W.cell? ⟨w.heap.size,2,none⟩=some (U fe.1 z.fees.length fe.2)∧W.cell? ⟨w.heap.size,3,none⟩=some (U it.1 z.itms.length it.2)∧W.cell? ⟨w.heap.size,4,none⟩=some (U se.1 z.seas.length se.2)∧W.cell? ⟨w.heap.size,5,none⟩=some (I J z.tFol)∧W.cell? ⟨w.heap.size,6,none⟩=some (I J z.tFee)∧W.cell? ⟨w.heap.size,7,none⟩=some (I J z.tItm)∧W.cell? ⟨w.heap.size,8,none⟩=some (I J z.tSea))∧W.cell? ⟨b,off+k * 7,none⟩=some (I J ev.kind)∧W.cell? ⟨b,off+k * 7+1,none⟩=some (I J ev.a)∧W.cell? ⟨b,off+k * 7+2,none⟩=some (I J ev.b)∧W.cell? ⟨b,off+k * 7+3,none⟩=some (I J ev.n)∧W.cell? ⟨b,off+k * 7+4,none⟩=some (V ev.s)∧W.cell? ⟨b,off+k * 7+5,none⟩=some (V ev.t)∧W.cell? ⟨b,off+k * 7+6,none⟩=some (V ev.u)):=λW hW=>⟨ak (HB.out.frm hW id),hcell ac W id hW⟩
   clear hcell hev;obtain⟨y,hy⟩:∃y,(bB z ev).1=y:=⟨_,rfl⟩;obtain⟨bb,rI⟩:∃bb,(bB z ev).2=bb:=⟨_,rfl⟩;rw[hy,rI] at KA;have HY:Hid (y=cZ x (l.take (k+1))):=by unfold Hid;rw[E7.out,←HX.out,hy]
   clear hy rI;go_wp2;have xy:¬w.heap.size=b:=by have:w.heap.size+2<b:=hgb;omega
   have QH:¬b=w.heap.size:=λe=>xy e.symm
   refine wp_region_held_drew (S:=λW=>W.cell? ⟨b,off+k * 7,none⟩=some (I J ev.kind)∧W.cell? ⟨b,off+k * 7+1,none⟩=some (I J ev.a)∧W.cell? ⟨b,off+k * 7+2,none⟩=some (I J ev.b)∧W.cell? ⟨b,off+k * 7+3,none⟩=some (I J ev.n)∧W.cell? ⟨b,off+k * 7+4,none⟩=some (V ev.s)∧W.cell? ⟨b,off+k * 7+5,none⟩=some (V ev.t)∧W.cell? ⟨b,off+k * 7+6,none⟩=some (V ev.u)) (by kernel_rfl) (HC.out _ (fR wr).drew).2 λhH=>?_
   refine sx (i:=1) rfl (λ_ _ _ h=>h) hH ?_
   try simp only[lt]
   refine sx (i:=2) rfl (λ_ _ _ h=>h) hH ?_
   try simp only[lt]
   refine sx (i:=3) rfl (λ_ _ _ h=>h) hH ?_
   try simp only[lt]
   refine sx (i:=4) rfl (λ_ _ _ h=>h) hH ?_
   try simp only[lt]
   refine aD (i:=0) rfl (λK hK=>?_);go_simp;refine hK.out _ _ (HC.out _ (fR wr).drew).2 (λhH=>?_);clear hK K
   try simp only[lt]
   refine aD (i:=5) rfl (λK hK=>?_);go_simp;go_at_call 14;refine(KA.out _ (fR _).drew).mono ?_;rintro r w3 ⟨fo',fe',it',se',ts',rfl,hs,hf⟩;have Hj:=h_ hs;have Z1:Hid (aa ac wr w3):=(fR _).drew.trans hf;clear hs hf;have hb1:=HB.out.frm Z1.out id;obtain⟨y0,y1,y2,y3,y4,y5,y6,y7,y8⟩:=ak hb1;have g0:=hb1.frozen 0;have g1:=hb1.frozen 1;have g2:=hb1.frozen 2;have g3:=hb1.frozen 3;have g4:=hb1.frozen 4;have g5:=hb1.frozen 5;have g6:=hb1.frozen 6;have g7:=hb1.frozen 7;have g8:=hb1.frozen 8;unfold bE;dsimp only;refine hK.out _ _ (HC.out _ Z1.out).2 (λhH=>?_);clear hK K
   try simp only[lt]
   refine sx (i:=6) rfl (λ_ _ _ h=>h) hH ?_
   try simp only[lt]
   refine sx (i:=7) rfl (λ_ _ _ h=>h) hH ?_
   try simp only[lt]
   refine sx (i:=8) rfl (λ_ _ _ h=>h) hH ?_
   try simp only[lt]
   refine aD (i:=9) rfl (λK hK=>?_);go_simp;refine hK.out _ _ (by obtain⟨c0,c1,c2,c3,c4,c5,c6⟩:=HC.out _ Z1.out |>.2;simp[*,World.cell?_setCell_far]) (λhH=>?_);clear hK K
   try simp only[lt]
   refine wpAnyH_done (by kernel_rfl) ?_ _
   all_goals
    obtain⟨we,eB⟩:∃we,we=w3.setCells w.heap.size 0 [I J y.clock,U fo'.1 y.fols.length fo'.2,U fe'.1 y.fees.length fe'.2,U it'.1 y.itms.length it'.2,U se'.1 y.seas.length se'.2,I J y.tFol,I J y.tFee,I J y.tItm,I J y.tSea]:=⟨_,rfl⟩
    have eo:ai we w.heap.size 36 #[I J y.clock,U fo'.1 y.fols.length fo'.2,U fe'.1 y.fees.length fe'.2,U it'.1 y.itms.length it'.2,U se'.1 y.seas.length se'.2,I J y.tFol,I J y.tFee,I J y.tItm,I J y.tSea]:=by
     have:=ai.putL [I J y.clock,U fo'.1 y.fols.length fo'.2,U fe'.1 y.fees.length fe'.2,U it'.1 y.itms.length it'.2,U se'.1 y.seas.length se'.2,I J y.tFol,I J y.tFee,I J y.tItm,I J y.tSea] 0 hb1;rw[i7] at this;rw[eB];exact this
    have fe_:aa (λk=>k=w.heap.size) w3 we:=by rw[eB];exact aa.setCells _ 0 (aa.refl _ _) (.inl rfl)
    simp only[World.setCells] at eB;rw[←eB];have QI:aa ac w we:=(HF.out.trans Z1.out).next fe_ (λk hk=>.inr (by omega))
    have QJ:aM we (λk=>(G k∧k<w.heap.size)∨w.heap.size+2<k) fo' fe' it' se' ts' y:=(Hj.out.mono (G':=λk=>(G k∧k<w.heap.size)∨w.heap.size+2<k) λk hk=>by
     rcases hk with hk|hk
     ·exact hk
     ·right
      have h1:=uL.out.lt;have h2:wr.heap.size≤wr.drew.heap.size:=(fR wr).drew.size;have h3:wr.drew.heap.size≤k:=hk;omega).frm fe_ λk hk e=>by rcases hk with hk|hk<;>omega
    have QK:ai we (w.heap.size+2) 36 #[I J 0,U none 0 0,U none 0 0,U none 0 0,U none 0 0,I J 0,I J 0,I J 0,I J 0]:=(uL.out.frm Z1.out id).frm fe_ (by simp);have hve:aN we (λk=>w.heap.size+2<k) 7 (some ⟨b,off,none⟩,cv) l.length (l.flatMap Ev.cells):=(HV.out.nix Z1.out).frm fe_ λk hk e=>by omega
    have H9:=h_ (And.intro eo (And.intro QJ (And.intro QK (And.intro hve QI))));clear eB eo fe_ QI QJ QK hve hb1;go_wp2;go_roundw
    case rel=>exact⟨k+1,fo',fe',it',se',ts',y,by omega,by go_num,HY.out,H9.out⟩
    case measure=>simp[intOf];omega
  ·obtain rfl:k=m:=by omega
   have xg:Hid (z=cZ x l):=by unfold Hid;rw[HX.out,List.take_of_length_le (by rw[HN.out];exact Nat.le_refl _)]
   obtain⟨x0,x1,x2,x3,x4,x5,x6,x7,x8⟩:=ak HB.out;obtain⟨y0,y1,y2,y3,y4,y5,y6,y7,y8⟩:=ak uL.out;have g0:=uL.out.frozen 0;have g1:=uL.out.frozen 1;have g2:=uL.out.frozen 2;have g3:=uL.out.frozen 3;have g4:=uL.out.frozen 4;have g5:=uL.out.frozen 5;have g6:=uL.out.frozen 6;have g7:=uL.out.frozen 7;have g8:=uL.out.frozen 8;go_wp2;simp only[aj,ae,Tryz.f25];go_wp2;obtain⟨we,eB⟩:∃we,we=wr.setCells (w.heap.size+2) 0 [I J z.clock,U fo.1 z.fols.length fo.2,U fe.1 z.fees.length fe.2,U it.1 z.itms.length it.2,U se.1 z.seas.length se.2,I J z.tFol,I J z.tFee,I J z.tItm,I J z.tSea]:=⟨_,rfl⟩
   have eo:ai we (w.heap.size+2) 36 #[I J z.clock,U fo.1 z.fols.length fo.2,U fe.1 z.fees.length fe.2,U it.1 z.itms.length it.2,U se.1 z.seas.length se.2,I J z.tFol,I J z.tFee,I J z.tItm,I J z.tSea]:=by
    have:=ai.putL [I J z.clock,U fo.1 z.fols.length fo.2,U fe.1 z.fees.length fe.2,U it.1 z.itms.length it.2,U se.1 z.seas.length se.2,I J z.tFol,I J z.tFee,I J z.tItm,I J z.tSea] 0 uL.out;rw[i7] at this;rw[eB];exact this
   have fe_:aa (λk=>k=w.heap.size+2) wr we:=by rw[eB];exact aa.setCells _ 0 (aa.refl _ _) (.inl rfl)
   have Ub:Hid (aa ac w we):=HF.out.next fe_ (λk hk=>.inr (by omega))
   have fp:=h_ eo;have QG:Hid (aM we (λk=>(G k∧k<w.heap.size)∨w.heap.size≤k) fo fe it se ts z):=(HS.out.frm fe_ λk hk e=>by rcases hk with hk|hk<;>omega).mono λk hk=>by rcases hk with hk|hk;exact .inl hk;right;omega
   have HVe:Hid (aN we (λk=>w.heap.size≤k) 7 (Av,cv) l.length (l.flatMap Ev.cells)):=(HV.out.frm fe_ λk hk e=>by omega).mono λk hk=>by omega
   simp only[World.setCells] at eB;rw[←eB];refine bodyPost_ret (Mf fp.out rfl rfl rfl) rfl ?_;rw[←xg.out];exact⟨fo,fe,it,se,ts,(Av,cv),rfl,QG.out,HN.out ▸ HVe.out,Ub.out⟩
theorem Mh{Q:Exit→Act→World→Prop}{wr:World}{bx b off k n c m:Nat}{x y:St}{q:Cm}{er:Int}
  (hb:ai wr bx 36 #[I J x.clock,U fo.1 x.fols.length fo.2,U fe.1 x.fees.length fe.2,U it.1 x.itms.length it.2,U se.1 x.seas.length se.2,I J x.tFol,I J x.tFee,I J x.tItm,I J x.tSea]) (hev:∀W,aa ac wr W→(W.cell? ⟨b,off+k * 6,none⟩=some (I J q.kind)∧W.cell? ⟨b,off+k * 6+1,none⟩=some (I J q.a)∧W.cell? ⟨b,off+k * 6+2,none⟩=some (I J q.b)∧W.cell? ⟨b,off+k * 6+3,none⟩=some (I J q.n)∧W.cell? ⟨b,off+k * 6+4,none⟩=some (V q.s)∧W.cell? ⟨b,off+k * 6+5,none⟩=some (V q.t))) (hk:k<n) (hG:∀k,G k→k<wr.heap.size)
  (QZ:∀W,aa ac wr W→Calls pQ 25 #[bE fo fe it se x,.agg #[I J q.kind,I J q.a,I J q.b,I J q.n,V q.s,V q.t]] W λr w'=>∃(fo fe it se:Sl) (ts:List (Sl×aJ)) (v:Sl),r=.returned (.tuple #[bE fo fe it se y,U v.1 m v.2,I J er])∧aM w' (λk=>G k∨W.heap.size≤k) fo fe it se ts y∧aN w' (λk=>W.heap.size≤k) 7 v l.length (l.flatMap Ev.cells)∧aa ac W w')
  {u0 u2 u3 u4 u5 u8 u9 u10 u11 u12 u13 u14 u15 u16 eG eH eI eJ eK eM u23 u24 eO u26 eW u28 eX eY eZ u32 u33 fh fj u36 fk u38 fw fx fy fG fH u44 u45 fJ fK gC gD gw gy gj gl gm gp fM fO fP fQ fU fV fW fX u64 fY fZ gc gg:Value} (hP:∀(e:_) (a:Act) (i:Nat) (v:Value) (w:World),Q (.panic e) (a.put (some i) v) w→Q (.panic e) a w) (hQ:∀(w9:World) (g:Nat) (foy fey ity sey:Sl) (tsy:List (Sl×aJ)) (v:Sl) (OY OZ z44 O0 z46 O1 O2 z49 z50 z51:Value),wr.heap.size≤g→aa ac wr w9→ai w9 g 36 #[I J y.clock,U foy.1 y.fols.length foy.2,U fey.1 y.fees.length fey.2,U ity.1 y.itms.length ity.2,U sey.1 y.seas.length sey.2,I J y.tFol,I J y.tFee,I J y.tItm,I J y.tSea]→aM w9 (λk=>G k∨wr.heap.size≤k) foy fey ity sey tsy y→aN w9 (λk=>wr.heap.size≤k) 7 v l.length (l.flatMap Ev.cells)→Q .normal ⟨#[u0,U (some ⟨b,off,none⟩) n c,u2,u3,u4,u5,O (some ⟨bx,0,none⟩),I J k,u8,u9,O (some ⟨g,0,none⟩),U v.1 m v.2,I J er,u13,u14,u15,u16,eG,eH,eI,eJ,eK,eM,u23,u24,eO,u26,eW,u28,eX,eY,eZ,u32,u33,fh,fj,u36,fk,u38,fw,fx,fy,OY,OZ,z44,O0,z46,O1,O2,z49,z50,z51,gj,gl,gm,gp,fM,fO,fP,fQ,fU,fV,fW,fX,u64,fY,fZ,gc,gg],[]⟩ w9):
  Code.wp pQ (bz (jn (Cy (bz (jn (E2 (Cy (jn (bz (aj 5 (ae Tryz.f6))))))))))) Q ⟨#[u0,U (some ⟨b,off,none⟩) n c,u2,u3,u4,u5,O (some ⟨bx,0,none⟩),I J k,u8,u9,u10,u11,u12,u13,u14,u15,u16,eG,eH,eI,eJ,eK,eM,u23,u24,eO,u26,eW,u28,eX,eY,eZ,u32,u33,fh,fj,u36,fk,u38,fw,fx,fy,fG,fH,u44,u45,fJ,fK,gC,gD,gw,gy,gj,gl,gm,gp,fM,fO,fP,fQ,fU,fV,fW,fX,u64,fY,fZ,gc,gg],[]⟩ wr:=by
 have HC:Hid (∀W,aa ac wr W→(W.cell? ⟨bx,0,none⟩=some (I J x.clock)∧W.cell? ⟨bx,1,none⟩=some (U fo.1 x.fols.length fo.2)∧W.cell? ⟨bx,2,none⟩=some (U fe.1 x.fees.length fe.2)∧W.cell? ⟨bx,3,none⟩=some (U it.1 x.itms.length it.2)∧W.cell? ⟨bx,4,none⟩=some (U se.1 x.seas.length se.2)∧W.cell? ⟨bx,5,none⟩=some (I J x.tFol)∧W.cell? ⟨bx,6,none⟩=some (I J x.tFee)∧W.cell? ⟨bx,7,none⟩=some (I J x.tItm)∧W.cell? ⟨bx,8,none⟩=some (I J x.tSea))∧(W.cell? ⟨b,off+k * 6,none⟩=some (I J q.kind)∧W.cell? ⟨b,off+k * 6+1,none⟩=some (I J q.a)∧W.cell? ⟨b,off+k * 6+2,none⟩=some (I J q.b)∧W.cell? ⟨b,off+k * 6+3,none⟩=some (I J q.n)∧W.cell? ⟨b,off+k * 6+4,none⟩=some (V q.s)∧W.cell? ⟨b,off+k * 6+5,none⟩=some (V q.t))):=λW hW=>⟨ak (hb.frm hW id),hev W hW⟩
 have KA:=h_ QZ;have HP:=h_ hP;have HG:=h_ hG;have HQ:=h_ hQ;have yi:Hid (aa ac wr wr.drew):=(fR wr).drew;have Hp:Hid (aa ac wr (wr.drew.alloc (.cells #[I J 0,U none 0 0,U none 0 0,U none 0 0,U none 0 0,I J 0,I J 0,I J 0,I J 0] 36))):=yi.out.alloc _;have Pa:Hid (wr.heap.size≤wr.drew.heap.size):=yi.out.size;have Ro:(k:Int)<(n:Int):=by omega
 have hk0:(0:Int)≤(k:Int):=Int.natCast_nonneg _;clear hb hev QZ hP hQ hG;simp only[bz,jn,Cy,E2,aj,ae,Tryz.f6];refine wp_region_held_drew (S:=λW=>(W.cell? ⟨bx,0,none⟩=some (I J x.clock)∧W.cell? ⟨bx,1,none⟩=some (U fo.1 x.fols.length fo.2)∧W.cell? ⟨bx,2,none⟩=some (U fe.1 x.fees.length fe.2)∧W.cell? ⟨bx,3,none⟩=some (U it.1 x.itms.length it.2)∧W.cell? ⟨bx,4,none⟩=some (U se.1 x.seas.length se.2)∧W.cell? ⟨bx,5,none⟩=some (I J x.tFol)∧W.cell? ⟨bx,6,none⟩=some (I J x.tFee)∧W.cell? ⟨bx,7,none⟩=some (I J x.tItm)∧W.cell? ⟨bx,8,none⟩=some (I J x.tSea))∧(W.cell? ⟨b,off+k * 6,none⟩=some (I J q.kind)∧W.cell? ⟨b,off+k * 6+1,none⟩=some (I J q.a)∧W.cell? ⟨b,off+k * 6+2,none⟩=some (I J q.b)∧W.cell? ⟨b,off+k * 6+3,none⟩=some (I J q.n)∧W.cell? ⟨b,off+k * 6+4,none⟩=some (V q.s)∧W.cell? ⟨b,off+k * 6+5,none⟩=some (V q.t))) (by kernel_rfl) (HC.out _ yi.out) λhH=>?_
 refine tk (i:=0) HP rfl rfl hH ?_
 try simp only[lt]
 refine tk (i:=1) HP rfl rfl hH ?_
 try simp only[lt]
 refine tk (i:=2) HP rfl rfl hH ?_
 try simp only[lt]
 refine tk (i:=3) HP rfl rfl hH ?_
 try simp only[lt]
 refine tk (i:=4) HP rfl rfl hH ?_
 try simp only[lt]
 refine mA (i:=5) (j:=10) rfl rfl (λK hK=>?_) (λK hK=>?_)
 ·go_simp
  go_at_call 25;refine(KA.out _ yi.out).mono ?_;rintro r w7 ⟨foy,fey,ity,sey,tsy,v,rfl,hs,hv,hf⟩;have OI:=h_ hs;have HV7:=h_ hv;have Z7:=h_ (yi.out.trans hf);have Q0:=h_ hf;clear hs hv hf;unfold bE;dsimp only;refine hK.out _ _ (HC.out _ Z7.out) (λhH=>?_);clear hK K
  try simp only[lt]
  refine tk (i:=6) HP rfl rfl hH ?_
  try simp only[lt]
  refine tk (i:=7) HP rfl rfl hH ?_
  try simp only[lt]
  refine tk (i:=8) HP rfl rfl hH ?_
  try simp only[lt]
  refine tk (i:=9) HP rfl rfl hH ?_
  try simp only[lt]
  refine aD (i:=10) rfl (λK hK=>?_);go_simp;refine hK.out _ _ (HC.out _ (Z7.out.alloc _)) (λhH=>?_);clear hK K
  try simp only[lt]
  refine aD (i:=11) rfl (λK hK=>?_);go_simp;refine hK.out _ _ (HC.out _ (Z7.out.alloc _)) (λhH=>?_);clear hK K
  try simp only[lt]
  refine tk (i:=12) HP rfl rfl hH ?_
  try simp only[lt]
  refine tk (i:=13) HP rfl rfl hH ?_
  try simp only[lt]
  refine wpAnyH_done (by kernel_rfl) ?_ _;exact HQ.out _ _ _ _ _ _ _ _ _ _ _ _ _ _ _ _ _ _ Z7.out.size (Z7.out.alloc _) (ai.new w7 _ _) ((OI.out.nix ((fR w7).alloc _)).mono λk hk=>hk.imp id λh=>by have:=Pa.out;omega) ((HV7.out.nix ((fR w7).alloc _)).mono λk h=>by have:=Pa.out;omega)
 ·go_simp
  refine hK.out _ _ (HC.out _ Hp.out) (λhH=>?_);clear hK K
  try simp only[lt]
  refine aD (i:=5) rfl (λK hK=>?_);go_simp;go_at_call 25;refine(KA.out _ Hp.out).mono ?_;rintro r w7 ⟨foy,fey,ity,sey,tsy,v,rfl,hs,hv,hf⟩;have OI:=h_ hs;have HV7:=h_ hv;have Z7:=h_ (Hp.out.trans hf);have Q0:=h_ hf;clear hs hv hf;unfold bE;dsimp only;refine hK.out _ _ (HC.out _ Z7.out) (λhH=>?_);clear hK K
  try simp only[lt]
  refine tk (i:=6) HP rfl rfl hH ?_
  try simp only[lt]
  refine tk (i:=7) HP rfl rfl hH ?_
  try simp only[lt]
  refine tk (i:=8) HP rfl rfl hH ?_
  try simp only[lt]
  refine tk (i:=9) HP rfl rfl hH ?_
  try simp only[lt]
  refine aD (i:=11) rfl (λK hK=>?_);have nY:ai w7 wr.heap.size 36 #[I J 0,U none 0 0,U none 0 0,U none 0 0,U none 0 0,I J 0,I J 0,I J 0,I J 0]:=(ai.new wr.drew _ _).frm Q0.out id;have g0:=nY.frozen 0;have c0:=(nY.cell 0).trans rfl;have g1:=nY.frozen 1;have c1:=(nY.cell 1).trans rfl;have g2:=nY.frozen 2;have c2:=(nY.cell 2).trans rfl;have g3:=nY.frozen 3;have c3:=(nY.cell 3).trans rfl;have g4:=nY.frozen 4;have c4:=(nY.cell 4).trans rfl;have g5:=nY.frozen 5;have c5:=(nY.cell 5).trans rfl;have g6:=nY.frozen 6;have c6:=(nY.cell 6).trans rfl;have g7:=nY.frozen 7;have c7:=(nY.cell 7).trans rfl;have g8:=nY.frozen 8;have c8:=(nY.cell 8).trans rfl;go_simp;obtain⟨w9,Ct⟩:∃w9,w9=w7.setCells wr.heap.size 0 [I J y.clock,U foy.1 y.fols.length foy.2,U fey.1 y.fees.length fey.2,U ity.1 y.itms.length ity.2,U sey.1 y.seas.length sey.2,I J y.tFol,I J y.tFee,I J y.tItm,I J y.tSea]:=⟨_,rfl⟩
  have Q1:ai w9 wr.heap.size 36 #[I J y.clock,U foy.1 y.fols.length foy.2,U fey.1 y.fees.length fey.2,U ity.1 y.itms.length ity.2,U sey.1 y.seas.length sey.2,I J y.tFol,I J y.tFee,I J y.tItm,I J y.tSea]:=by
   have:=ai.putL [I J y.clock,U foy.1 y.fols.length foy.2,U fey.1 y.fees.length fey.2,U ity.1 y.itms.length ity.2,U sey.1 y.seas.length sey.2,I J y.tFol,I J y.tFee,I J y.tItm,I J y.tSea] 0 nY;rw[i7] at this;rw[Ct];exact this
  have fe_:aa (λk=>k=wr.heap.size) w7 w9:=by rw[Ct];exact aa.setCells _ 0 (aa.refl _ _) (.inl rfl)
  simp only[World.setCells] at Ct;rw[←Ct];have OJ:Hid (aa ac wr w9):=Z7.out.next fe_ (λk hk=>.inr (by omega))
  have Pb:Hid (aM w9 (λk=>G k∨wr.heap.size≤k) foy fey ity sey tsy y):=(OI.out.frm fe_ λk hk e=>by subst e;rcases hk with hk|hk;exact Nat.lt_irrefl _ (HG.out _ hk);simp at hk;omega).mono λk hk=>hk.imp id λh=>by simp at h;omega
  have HV9:Hid (aN w9 (λk=>wr.heap.size≤k) 7 v l.length (l.flatMap Ev.cells)):=(HV7.out.frm fe_ λk hk e=>by subst e;simp at hk;omega).mono λk h=>by simp at h;omega
  have Pc:=h_ Q1;clear fe_ Ct Q1 nY;refine hK.out _ _ (HC.out _ OJ.out) (λhH=>?_);clear hK K
  try simp only[lt]
  refine tk (i:=12) HP rfl rfl hH ?_
  try simp only[lt]
  refine tk (i:=13) HP rfl rfl hH ?_
  try simp only[lt]
  refine wpAnyH_done (by kernel_rfl) ?_ _;exact HQ.out _ _ _ _ _ _ _ _ _ _ _ _ _ _ _ _ _ _ (Nat.le_refl _) OJ.out Pc.out Pb.out HV9.out
theorem Q5{M:Ms}{x:St}(h:aw w g M x):Calls pQ 23 #[O (some ⟨g,0,none⟩)] w λe w'=>∃fo fe it se:Sl,∃ts:List (Sl×aJ),e=.returned (.agg #[I J x.clock,U fo.1 x.fols.length fo.2,U fe.1 x.fees.length fe.2,U it.1 x.itms.length it.2,U se.1 x.seas.length se.2,I J x.tFol,I J x.tFee,I J x.tItm,I J x.tSea])∧aM w' (λk=>w.heap.size≤k) fo fe it se ts x∧aa ac w w':=wD h
theorem EH{cs:List Cm}(h:pE l cs=false):eP l=false∧∀c∈cs,c.s.size≤1000∧c.t.size≤1000:=by
 unfold pE at h;simp only[Bool.or_eq_false_iff,decide_eq_false_iff_not,List.any_eq_false] at h;refine⟨h.1,λc hc=>?_⟩;have:=h.2.2 c hc;unfold kW at this;simp at this;omega
theorem Hg{G G2:Nat→Prop}{v vm:Sl}{cs:List Cm}(hl:nd w G v l)(hm:aN w G2 6 vm cs.length (cs.flatMap Cm.cells))(hI:∀c∈cs,bj c.a∧bj c.b∧bj c.n):
  Calls pQ 6 #[U v.1 l.length v.2,U vm.1 cs.length vm.2] w λe w'=>e=.returned (.bool true)∧aa ac w w':=by
 obtain⟨Av,cv⟩:=v;obtain⟨Am,cm⟩:=vm;dsimp only;obtain⟨lc,hlc⟩:∃lc,pE l cs=lc:=⟨_,rfl⟩;obtain⟨n,hn⟩:∃n,cs.length=n:=⟨_,rfl⟩
 have Q4:Hid (∀W,aa ac w W→Calls pQ 17 #[U Av l.length cv,U Am n cm] W λe w'=>e=.returned (.bool lc)∧aa ac W w'):=λW hW=>by
  have q:=uI (hl.nix hW) cs (hm.nix hW);rw[hlc,hn] at q;exact q
 have KF:Hid (∀W,aa ac w W→eP l=false→Calls pQ 19 #[U Av l.length cv] W λe w'=>∃g M,e=.returned (O (some ⟨g,0,none⟩))∧aw w' g M (cZ m9 l)∧aa ac W w'∧∀k,SF g M k→W.heap.size≤k):=λW hW=>(hl.nix hW).fold
 have KR:Hid (∀W,aa ac w W→eP l=false→Calls pQ 15 #[U Av l.length cv] W λe w'=>∃(fo fe it se:Sl) (ts:List (Sl×aJ)),e=.returned (.agg #[I J (cZ m9 l).clock,U fo.1 (cZ m9 l).fols.length fo.2,U fe.1 (cZ m9 l).fees.length fe.2,U it.1 (cZ m9 l).itms.length it.2,U se.1 (cZ m9 l).seas.length se.2,I J (cZ m9 l).tFol,I J (cZ m9 l).tFee,I J (cZ m9 l).tItm,I J (cZ m9 l).tSea])∧aM w' (λk=>W.heap.size≤k) fo fe it se ts (cZ m9 l)∧aa ac W w'):=λW hW Uz=>by
  have q:=uK (v:=(Av,cv)) l (hl.nix hW).sl (by have:=qo Uz;omega);exact q
 have hmx:n≤maxLen:=by rw[←hn];exact Nat.le_trans hm.cap hm.max
 unfold maxLen at hmx;have HM:=h_ hm;have HN:=h_ hn;have HI:=h_ hI;rw[hn];clear hl hm hI hn
 cases lc with
 | true=>
   generalize l.length=n1 at *;clear hlc KF KR;go_enter Tryz.func6,Tryz.ntmps6;show Code.wp pQ (aj 0 (ae Tryz.f6)) _ _ _
   simp only[aj,ae,Tryz.f6];go_wp2_with (first|(go_at_call 18;have _q:=Z1;refine(pu _).mono ?_;rintro e w2 ⟨rfl,hf⟩;have Z2:Hid (aa ac w w2):=Z1.out.trans hf;clear hf)|(go_at_call 17;refine(Q4.out _ (fR w)).mono ?_;rintro e w1 ⟨rfl,hf⟩;have Z1:=h_ hf;clear hf)|fail);go_ret
   exact⟨rfl,Z2.out⟩
 | false=>
 obtain⟨h1,h2⟩:=EH hlc;have ME:=h_ (λW hW=>KF.out W hW h1);have Pd:=h_ (λW hW=>KR.out W hW h1);have Me:Hid (∀c∈cs,c.s.size≤1000∧c.t.size≤1000):=h2;have HP0:Hid (di (cZ m9 l)):=qK l yS;generalize cZ m9 l=x0 at *;generalize l.length=n1 at *;clear hlc h1 h2 KF KR;go_enter Tryz.func6,Tryz.ntmps6;show Code.wp pQ (aj 0 (ae Tryz.f6)) _ _ _
 refine aG (k':=1) λK hK=>?_
 conv in bz _=>whnf
 go_wp2;refine aG (k':=2) λK hK=>?_
 conv in bz _=>whnf
 go_wp2_with (first|(go_at_call 17;refine(Q4.out _ (fR w)).mono ?_;rintro e w1 ⟨rfl,hf⟩;have Z1:=h_ hf;clear hf)|fail);refine aG (k':=3) λK hK=>?_
 conv in bz _=>whnf
 go_wp2_with (first|(go_at_call 19;refine(ME.out _ Z1.out).mono ?_;rintro e w2 ⟨g,M,rfl,hs,hf,hg⟩;have HG:Hid (∀j,SF g M j→w.heap.size≤j):=(λj hj=>Nat.le_trans Z1.out.size (hg j hj));have H2:=h_ hs;have Z2:Hid (aa ac w w2):=Z1.out.trans hf;clear hs hf hg)|fail);refine aG (k':=4) λK hK=>?_
 conv in bz _=>whnf
 go_wp2_with (first|(go_at_call 15;refine(Pd.out _ Z2.out).mono ?_;rintro e w3 ⟨fo,fe,it,se,ts,rfl,hd,hf⟩;have D3:=h_ hd.old;have Y3:=h_ hf;clear hd hf)|fail);obtain⟨w4,hw4,pN,hb4⟩:=Ff w3 fo fe it se x0;rw[←hw4];have zS:Hid (∀j,SF g M j→j<w2.heap.size):=H2.out.lt;have Jl:Hid (w2.heap.size≤w3.heap.size):=Y3.out.size;obtain⟨gb,hgb⟩:∃gb,w3.heap.size=gb:=⟨_,rfl⟩;have B4:=h_ hb4;have D4:Hid (aM w4 (λj=>w2.heap.size≤j∧¬j=gb) fo fe it se ts x0):=(D3.out.nix pN).mono λj hj=>⟨hj.1,by have:=hj.2;omega⟩
 have H4:=h_ (H2.out.nix (Y3.out.trans pN));have Z4:Hid (aa ac w w4):=Z2.out.trans (Y3.out.trans pN);have HBn:Hid (∀j,SF g M j→¬j=gb):=λj hj e=>by have:=zS.out j hj;have:=Jl.out;omega
 have HGb:Hid (w2.heap.size≤gb):=by have:=Jl.out;unfold Hid;omega
 rw[hgb] at B4 ⊢;clear hw4 pN hb4 D3 Pd ME hgb;refine aG (k':=5) λK hK=>?_
 conv in bz _=>whnf
 go_wp2_with (first|(go_at_call 18;refine(pu _).mono ?_;rintro e w5 ⟨rfl,hf⟩;have H5:=h_ (H4.out.nix hf);have Z5:Hid (aa ac w w5):=Z4.out.trans hf;have B5:=h_ (B4.out.frm hf id);have D5:=h_ (D4.out.nix hf);clear hf)|fail);clear H4 B4 D4;refine aG (k':=6) λK hK=>?_
 conv in bz _=>whnf
 go_wp2
 go_loopw [7] (λkv wr=>∃(k:Nat) (z:St) (fo fe it se:Sl) (ts:List (Sl×aJ)),k≤n∧kv=I J k∧aw wr g M z∧ai wr gb 36 #[I J z.clock,U fo.1 z.fols.length fo.2,U fe.1 z.fees.length fe.2,U it.1 z.itms.length it.2,U se.1 z.seas.length se.2,I J z.tFol,I J z.tFee,I J z.tItm,I J z.tSea]∧aM wr (λj=>w2.heap.size≤j∧¬j=gb) fo fe it se ts z∧aa (λk=>SF g M k∨k=gb) w5 wr) (λkv _=>n-(intOf kv).toNat)
 case atStart=>exact⟨0,x0,fo,fe,it,se,ts,by omega,rfl,H5.out,B5.out,D5.out,aa.refl _ _⟩
 case round=>
  obtain⟨k,z,fo,fe,it,se,ts,hk,rfl,hs,hb,hd,hf⟩:=hrel;have HS:=h_ hs;have HB:=h_ hb;have HD:=h_ hd;have HF:=h_ hf;have HP:Hid (di z):=hs.ok
  have HFw:Hid (aa ac w wr):=Z5.out.next hf λi hi=>.inr (by
   have h1:=Z2.out.size;rcases hi with hi|hi
   ·exact HG.out i hi
   ·have:=HGb.out;omega)
  clear hs hb hd hf
  by_cases hlt:k<n
  ·have dX:k<cs.length:=by rw[HN.out];exact hlt
   obtain⟨b,off,hA,-,hbl,-⟩:=(HM.out.old.nix HFw.out).at_ Cm.clen (by decide) (by omega)
   (try dsimp only at hA)
   subst hA
   have HQc:Hid (∀W,aa ac w W→∀(j:Nat) (u:Value),(cs[k]).cells[j]? =some u→W.cell? ⟨b,off+k * 6+j,none⟩=some u):=λW hW=>by
    obtain⟨b',off',hA',-,-,hcell⟩:=(HM.out.old.nix hW).at_ Cm.clen (by decide) (by omega)
    (try dsimp only at hA')
    injection hA' with hA';injection hA' with e1 e2;subst e1 e2;exact hcell k dX
   have hiq:=HI.out cs[k] (List.getElem_mem dX);have Rv:=Me.out cs[k] (List.getElem_mem dX);obtain⟨q,hq⟩:∃q,cs[k]=q:=⟨_,rfl⟩;rw[hq] at HQc hiq Rv;have HQ6:Hid (∀W,aa ac w W→(W.cell? ⟨b,off+k * 6,none⟩=some (I J q.kind)∧W.cell? ⟨b,off+k * 6+1,none⟩=some (I J q.a)∧W.cell? ⟨b,off+k * 6+2,none⟩=some (I J q.b)∧W.cell? ⟨b,off+k * 6+3,none⟩=some (I J q.n)∧W.cell? ⟨b,off+k * 6+4,none⟩=some (V q.s)∧W.cell? ⟨b,off+k * 6+5,none⟩=some (V q.t))):=λW hW=>Qn (w:=W) (b:=b) (off:=off+k * 6) (c:=q) (HQc.out W hW)
   have RP:Hid (mE q):=⟨hiq.1,hiq.2.1,hiq.2.2,by omega,by omega⟩;have HSq:Hid (q.s.size≤10000∧q.t.size≤10000):=⟨by omega,by omega⟩;clear hq hiq Rv HQc;obtain⟨r,hr⟩:∃r,aB ah aC z q=r:=⟨_,rfl⟩;obtain⟨lr,er⟩:=r;obtain⟨m,Hl⟩:∃m,lr.length=m:=⟨_,rfl⟩;obtain⟨y,hy⟩:∃y,Hm ah aC z q=y:=⟨_,rfl⟩;have RN:Hid (di y):=by rw[←hy];exact NT _ _ HP.out q
   have KDo:Hid (Calls pQ 24 #[O (some ⟨g,0,none⟩),.agg #[I J q.kind,I J q.a,I J q.b,I J q.n,V q.s,V q.t]] wr λe w'=>∃A c,e=.returned (.tuple #[U A m c,I J er])∧aN w' (λk=>wr.heap.size≤k) 7 (A,c) lr.length (lr.flatMap Ev.cells)∧aw w' g M y∧aa (SF g M) wr w'):=by
    have p:=D6 HS.out q.kind q.a q.b q.n q.s q.t RP.out;rw[show (⟨q.kind,q.a,q.b,q.n,q.s,q.t⟩:Cm)=q from rfl,hr,hy] at p;dsimp only at p;exact p.mono λe w' ⟨⟨A,c⟩,h1,h2,h3,h4⟩=>⟨A,c,by rw[←Hl];exact h1,h2,h3,h4⟩
   have KRd:Hid (∀W6,aa (SF g M) wr W6→∀W,aa ac W6 W→Calls pQ 25 #[bE fo fe it se z,.agg #[I J q.kind,I J q.a,I J q.b,I J q.n,V q.s,V q.t]] W λr w'=>∃(fo fe it se:Sl) (ts:List (Sl×aJ)) (v:Sl),r=.returned (.tuple #[bE fo fe it se y,U v.1 m v.2,I J er])∧aM w' (λk=>((w2.heap.size≤k∧¬k=gb)∧k<W6.heap.size)∨W.heap.size≤k) fo fe it se ts y∧aN w' (λk=>W.heap.size≤k) 7 v lr.length (lr.flatMap Ev.cells)∧aa ac W w'):=λW6 hW6 W hW=>by
    have hd6:aM W6 (λj=>w2.heap.size≤j∧¬j=gb) fo fe it se ts z:=HD.out.frm hW6 λj hj DG=>by have:=zS.out j DG;omega
    have p:=Mg (hd6.old.nix hW) HP.out q.kind q.a q.b q.n q.s q.t HSq.out.1 HSq.out.2;rw[show (⟨q.kind,q.a,q.b,q.n,q.s,q.t⟩:Cm)=q from rfl,hr,hy] at p;dsimp only at p;exact p.mono λe w' ⟨fo,fe,it,se,ts,v,h1,h2,h3,h4⟩=>⟨fo,fe,it,se,ts,v,by rw[←Hl];exact h1,h2.mono λj hj=>hj.imp (λh=>h.1) id,h3,h4⟩
   have HNl:=h_ Hl;clear hr Hl hy;obtain⟨x0,x1,x2,x3,x4,x5⟩:=HQ6.out _ HFw.out;go_wp2_with (first|(go_at_call 24;refine KDo.out.mono ?_;rintro e w6 ⟨A6,c6,rfl,hv,hs,hf⟩;have V6:=h_ hv;have H6:=h_ hs;have F6:=h_ hf;clear hv hs hf)|fail);have B6:=h_ (HB.out.frm F6.out λe=>HBn.out gb e rfl);have Z6:Hid (aa ac w w6):=vn HFw.out F6.out HG.out;have HSz6:Hid (gb<w6.heap.size∧gb<wr.heap.size):=⟨B6.out.lt,HB.out.lt⟩;clear x0 x1 x2 x3 x4 x5;refine Mh (bx:=gb) (b:=b) (off:=off) (k:=k) (m:=m) (l:=lr) (er:=er) (q:=q) (x:=z) (y:=y) (G:=λk=>(w2.heap.size≤k∧¬k=gb)∧k<w6.heap.size) B6.out (λW hW=>HQ6.out W (Z6.out.trans hW)) hlt (λk h=>h.2) (KRd.out w6 F6.out) (λ_ _ _ _ _ h=>h) ?_;intro w8 g' foy fey ity sey tsy v8 OY OZ z44 O0 z46 O1 O2 z49 z50 z51 Uw ML nY Q2 hv8;obtain⟨A8,c8⟩:=v8;have EE:=h_ (B6.out.frm ML id);have RO:=h_ nY;have MM:=h_ ML
   have HS8:Hid (aM w8 (λj=>w2.heap.size≤j∧¬j=gb) foy fey ity sey tsy y):=Q2.mono λj hj=>by
    have h1:=HSz6.out.1;have h2:=HGb.out;rcases hj with hj|hj
    ·exact hj.1
    ·exact⟨by omega,by omega⟩
   have HV8:=h_ hv8;clear ML nY Q2 hv8 Uw;obtain⟨x0,x1,x2,x3,x4,x5,x6,x7,x8⟩:=ak EE.out;obtain⟨y0,y1,y2,y3,y4,y5,y6,y7,y8⟩:=ak RO.out;have g0:=EE.out.frozen 0;have g1:=EE.out.frozen 1;have g2:=EE.out.frozen 2;have g3:=EE.out.frozen 3;have g4:=EE.out.frozen 4;have g5:=EE.out.frozen 5;have g6:=EE.out.frozen 6;have g7:=EE.out.frozen 7;have g8:=EE.out.frozen 8;dsimp only;go_wp2;obtain⟨w9,Ct⟩:∃w9,w9=w8.setCells gb 0 [I J y.clock,U foy.1 y.fols.length foy.2,U fey.1 y.fees.length fey.2,U ity.1 y.itms.length ity.2,U sey.1 y.seas.length sey.2,I J y.tFol,I J y.tFee,I J y.tItm,I J y.tSea]:=⟨_,rfl⟩
   have hb9':ai w9 gb 36 #[I J y.clock,U foy.1 y.fols.length foy.2,U fey.1 y.fees.length fey.2,U ity.1 y.itms.length ity.2,U sey.1 y.seas.length sey.2,I J y.tFol,I J y.tFee,I J y.tItm,I J y.tSea]:=by
    have:=ai.putL [I J y.clock,U foy.1 y.fols.length foy.2,U fey.1 y.fees.length fey.2,U ity.1 y.itms.length ity.2,U sey.1 y.seas.length sey.2,I J y.tFol,I J y.tFee,I J y.tItm,I J y.tSea] 0 EE.out;rw[i7] at this;rw[Ct];exact this
   have fe_:aa (λk=>k=gb) w8 w9:=by rw[Ct];exact aa.setCells _ 0 (aa.refl _ _) (.inl rfl)
   simp only[World.setCells] at Ct;rw[←Ct];have Pc:=h_ hb9';have HA9:Hid (aw w9 g M y):=(H6.out.nix MM.out).frm fe_ HBn.out (λk hk e=>EE.out.ne_str (by decide) hk e);have Pb:Hid (aM w9 (λj=>w2.heap.size≤j∧¬j=gb) foy fey ity sey tsy y):=HS8.out.frm fe_ λk hk e=>hk.2 e
   have HVa:Hid (aN w9 (λk=>wr.heap.size≤k) 7 (A6,c6) lr.length (lr.flatMap Ev.cells)):=(V6.out.nix MM.out).frm fe_ λk hk e=>by have:=HSz6.out.2;omega
   have HVb:Hid (aN w9 (λk=>w6.heap.size≤k) 7 (A8,c8) lr.length (lr.flatMap Ev.cells)):=HV8.out.frm fe_ λk hk e=>by have:=HSz6.out.1;omega
   have OJ:Hid (aa (λk=>SF g M k∨k=gb) w5 w9):=((HF.out.trans (F6.out.mono λ_ e=>.inl e)).trans MM.out.nix).trans (fe_.mono λ_ e=>.inr e);clear x0 x1 x2 x3 x4 x5 x6 x7 x8 y0 y1 y2 y3 y4 y5 y6 y7 y8 g0 g1 g2 g3 g4 g5 g6 g7 g8 hb9' fe_ Ct RO EE MM HS8 HV8 KRd KDo V6 H6;have HC:Hid (∀W,aa ac w9 W→W.cell? ⟨gb,0,none⟩=some (I J y.clock)∧W.cell? ⟨gb,1,none⟩=some (U foy.1 y.fols.length foy.2)∧W.cell? ⟨gb,2,none⟩=some (U fey.1 y.fees.length fey.2)∧W.cell? ⟨gb,3,none⟩=some (U ity.1 y.itms.length ity.2)∧W.cell? ⟨gb,4,none⟩=some (U sey.1 y.seas.length sey.2)∧W.cell? ⟨gb,5,none⟩=some (I J y.tFol)∧W.cell? ⟨gb,6,none⟩=some (I J y.tFee)∧W.cell? ⟨gb,7,none⟩=some (I J y.tItm)∧W.cell? ⟨gb,8,none⟩=some (I J y.tSea)):=λW hW=>ak (Pc.out.frm hW id)
   have KT:Hid (∀W,aa ac w9 W→_):=λW hW=>Q5 (HA9.out.nix hW)
   have UA:Hid (∀W,aa ac w9 W→Calls pQ 22 #[U A6 m c6,U A8 m c8] W λe w'=>e=.returned (.bool true)∧aa ac W w'):=λW hW=>by
    have p:=uM lr lr (HVa.out.nix hW) (HVb.out.nix hW);rw[decide_eq_true rfl,HNl.out] at p;exact p
   have KS:Hid (∀W fo' fe' it' se' ts' G',aa ac w9 W→aM W G' fo' fe' it' se' ts' y→Calls pQ 16 #[bE fo' fe' it' se' y,.agg #[I J y.clock,U foy.1 y.fols.length foy.2,U fey.1 y.fees.length fey.2,U ity.1 y.itms.length ity.2,U sey.1 y.seas.length sey.2,I J y.tFol,I J y.tFee,I J y.tItm,I J y.tSea]] W λe w'=>e=.returned (.bool true)∧aa ac W w'):=λW fo' fe' it' se' ts' G' hW hd=>by
    have p:=qO hd (Pb.out.nix hW) RN.out.small RN.out.small;rw[decide_eq_true rfl] at p;exact p
   try simp only[List.append_eq,List.cons_append,List.nil_append]
   go_region_held3 (λW=>W.cell? ⟨gb,0,none⟩=some (I J y.clock)∧W.cell? ⟨gb,1,none⟩=some (U foy.1 y.fols.length foy.2)∧W.cell? ⟨gb,2,none⟩=some (U fey.1 y.fees.length fey.2)∧W.cell? ⟨gb,3,none⟩=some (U ity.1 y.itms.length ity.2)∧W.cell? ⟨gb,4,none⟩=some (U sey.1 y.seas.length sey.2)∧W.cell? ⟨gb,5,none⟩=some (I J y.tFol)∧W.cell? ⟨gb,6,none⟩=some (I J y.tFee)∧W.cell? ⟨gb,7,none⟩=some (I J y.tItm)∧W.cell? ⟨gb,8,none⟩=some (I J y.tSea)) ((refine HC.out _ ?_;repeat' (first|with_reducible exact aa.refl _ _|with_reducible exact Yc.out|with_reducible exact Yb.out|with_reducible exact Ya.out|with_reducible apply aa.drew)))
    (first
     | (go_at_call 16;have _q:=Eb;refine(KS.out _ _ _ _ _ _ _ Yb.out Eb.out).mono ?_;rintro e wc ⟨rfl,hf⟩;have Yc:Hid (aa ac w9 wc):=Yb.out.trans hf;clear hf)
     | (go_at_call 23;have _q:=Ya;refine(KT.out _ Ya.out).mono ?_;rintro e wb ⟨fo',fe',it',se',ts',rfl,hd,hf⟩;have Eb:=h_ hd;have Yb:Hid (aa ac w9 wb):=Ya.out.trans hf;clear hd hf)
     | (go_at_call 22;refine(UA.out _ (fR _).drew).mono ?_;rintro e wa ⟨rfl,hf⟩;have Ya:Hid (aa ac w9 wa):=(fR _).drew.trans hf;clear hf))
   all_goals
    go_wp2;go_roundw
    case rel=>exact⟨k+1,y,foy,fey,ity,sey,tsy,by omega,by go_num,HA9.out.nix Yc.out,Pc.out.frm Yc.out id,Pb.out.nix Yc.out,OJ.out.trans Yc.out.nix⟩
    case measure=>simp[intOf];omega
  ·obtain rfl:k=n:=by omega
   go_wp2;simp only[aj,ae,Tryz.f6];go_wp2;go_ret;exact⟨rfl,HFw.out⟩
section
section
variable {H:Type} {enc:TypeId×Value→H} {W:World} {base:Nat} {sp:Nat→Bool} {held:Bool} {fuel:Nat} {cs:List Value} {x:DataW H×List MemPlace}
theorem UB(h:DataW.trod enc pQ W base sp held fuel 51 cs=some x):∃A n c,∃l:List Cm,cs=[U A n c]∧l.length=n∧aN W (sZ W) 6 (A,c) n (l.flatMap Cm.cells)∧∀o∈l,yz o:=
 P0 Cm.clen (by decide) Tryz.underlying51 (by kernel_rfl) (λh=>Vs h) h
end
end
end Go.Proofs.YtaecjmiobllhmaaGreat
