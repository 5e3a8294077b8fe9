/- Words. -/
import Derived.Test.YtaecjmiobllhmaaGreatGr67
import Derived.Test.YtaecjmiobllhmaaGreatGr64
import Derived.Test.YtaecjmiobllhmaaGreatGr30
set_option linter.unusedVariables false
set_option linter.unusedSimpArgs false
set_option maxRecDepth 100000
set_option maxHeartbeats 16000000
namespace Go.Proofs.YtaecjmiobllhmaaGreat
open Go.Value renaming int→I,string→V,slice→U,pointer→O
open Go.IntKind renaming i64→J
open Tryz renaming prog→pQ
open Go.RowKit Go.Lib
variable {A:Option Addr}{W:World}{tmps:Array Value}
section
section
variable {α:Type} {g:α→Int} {id:Int}
theorem pW(f:α→α):∀(l:List α) (h:qM g id l<l.length),gK g id f l=l.set (qM g id l) (f l[qM g id l])
 | [],h=>by simp at h
 | a::l,h=>by
   by_cases ha:g a=id
   ·have e:qM g id (a::l)=0:=by simp[qM,List.findIdx_cons,ha]
    simp only[e,gK,if_pos ha];rfl
   ·have e:qM g id (a::l)=qM g id l+1:=by simp[qM,List.findIdx_cons,ha]
    have h':qM g id l<l.length:=by
     rw[e] at h
     simpa using h
    simp only[e,gK,if_neg ha];rw[List.set_cons_succ,pW f l h'];rfl
theorem pX{f:α→List Value}{s:Nat}(hs:∀a,(f a).length=s)(l:List α)(i:Nat)(hi:i<l.length)(y:α)(j:Nat)(hj:j<s)(u:Value)(hy:f y=(f l[i]).set j u):(l.flatMap f).set (i * s+j) u=(l.set i y).flatMap f:=by
 refine List.ext_getElem? λm=>?_
 have hlen:=pO hs l
 have tN:i * s+s≤l.length * s:=by
  have h1:(i+1) * s≤l.length * s:=Nat.mul_le_mul_right _ hi
  rwa [Nat.succ_mul] at h1
 rw[wC hs y l i hi m,List.getElem?_set]
 by_cases hm:i * s+j=m
 ·subst hm
  rw[if_pos rfl,if_pos (by omega),if_pos (by omega),hy,show i * s+j-i * s=j by omega,List.getElem?_set,if_pos rfl,if_pos (by rw[hs];exact hj)]
 ·rw[if_neg hm]
  by_cases hc:i * s≤m∧m<i * s+s
  ·rw[if_pos hc,hy,List.getElem?_set,if_neg (by omega)]
   have:=lX hs l i hi (m-i * s) (by omega);rw[show i * s+(m-i * s)=m by omega] at this;exact this
  ·rw[if_neg hc]
end
theorem rf{P:Program}{t e:TypeId}{s bytes:Nat}(E:mJ P t e s bytes){w1:World}{G:Nat→Prop}{c n:Nat}{xs:List Value}
  (hr:Rd w1 G s A n xs) (h1:∀u∈xs,u.oneCell'=true) (hn:n≤100000) (hby:bytes≤1000):
  ∃rA rc wa,(∀ty,(Builtin.append_ #[t,t] ty #[U (some ⟨w1.heap.size,0,none⟩) 0 0,U A n c]).run P (w1.alloc (.cells #[] e))=.ok (U rA n rc) wa)∧aI e s w1 wa (U rA n rc) n xs:=by
 have hb1:(0+n) * bytes≤140737488355328:=by
  have:=Nat.mul_le_mul (show 0+n≤100000 by omega) hby;omega
 have r0:=aI.empty (w0:=w1) e s (fR w1);obtain⟨v1,wa,q1,r1,-,-⟩:=r0.app E c (hr.frm r0.frm λ_ _=>id) h1 (by unfold maxLen;omega) hb1;rw[Nat.zero_add,List.nil_append] at r1;obtain⟨rA,rc,rfl,-⟩:=r1.shape;exact⟨rA,rc,wa,q1,r1⟩
section
variable {w:World} {G:Nat→Prop} {v fo fe it se:Sl} {ts:List (Sl×aR)} {x:St} {s n:Nat} {xs:List Value}
theorem Rd.old(h:Rd w G s A n xs):Rd w (λk=>G k∧k<w.heap.size) s A n xs:=
 ⟨h.1,λhn=>by
  obtain⟨a,e,h1,h2,h3⟩:=h.2 hn;exact⟨a,e,⟨h1,h2⟩,h2,h3⟩⟩
theorem aF.old(h:aF w G s v n xs):aF w (λk=>G k∧k<w.heap.size) s v n xs:=⟨h.rd.old,h.nil,h.cap,h.max⟩
theorem aY.old(h:aY w G fo fe it se ts x):aY w (λk=>G k∧k<w.heap.size) fo fe it se ts x:=⟨h.fols.old,h.fees.old,⟨h.itms.row.old,λp hp=>(h.itms.tags p hp).old⟩,h.same,h.seas.old⟩
end
end
def rh(w:World)(G:Nat→Prop)(y:St)(b:Bool)(r:Ending)(w':World):Prop:=∃(fo fe it se:Sl) (ts:List (Sl×aR)),r=.returned (.tuple #[cC fo fe it se y,.bool b])∧aY w' (λk=>G k∨w.heap.size≤k) fo fe it se ts y∧aa ag w w'
def Ex(w:World)(G:Nat→Prop)(y:St)(r:Ending)(w':World):Prop:=∃(fo fe it se:Sl) (ts:List (Sl×aR)),r=.returned (cC fo fe it se y)∧aY w' (λk=>G k∨w.heap.size≤k) fo fe it se ts y∧aa ag w w'
theorem FI{w:World}{fo fe it se:Sl}{ts:List (Sl×aR)}{x:St}{G:Nat→Prop}(hS:aY w G fo fe it se ts x)(hsm:aP x)(k a b n:Int)(s t u:ByteArray)(hk:k=1∨k=3∨k=7∨k=11):
  Calls pQ 31 #[cC fo fe it se x,bQ ⟨k,a,b,n,s,t,u⟩] w (Ex w G (iu x ⟨k,a,b,n,s,t,u⟩)):=by
 rcases hk with rfl|rfl|rfl|rfl
 ·rw[Py rfl]
  exact(DD hS hsm).mono λr w' ⟨v,h⟩=>⟨v,_,_,_,_,h⟩
 ·rw[Pz rfl]
  exact(DI hS hsm).mono λr w' ⟨v,h⟩=>⟨_,v,_,_,_,h⟩
 ·rw[PA rfl]
  exact(DJ hS hsm).mono λr w' ⟨v,ts',h⟩=>⟨_,_,v,_,ts',h⟩
 ·rw[Js rfl]
  exact(BR hS hsm).mono λr w' ⟨v,h⟩=>⟨_,_,_,v,_,h⟩
theorem FK{w:World}{fo fe it se:Sl}{ts:List (Sl×aR)}{x:St}{G:Nat→Prop}(hS:aY w G fo fe it se ts x)(hsm:aP x)(k a b n:Int)(s t u:ByteArray)(hk:k=2∨k=4∨k=12)(hf:aG x ⟨k,a,b,n,s,t,u⟩=true):
  Calls pQ 32 #[cC fo fe it se x,bQ ⟨k,a,b,n,s,t,u⟩] w (Ex w G (iu x ⟨k,a,b,n,s,t,u⟩)):=by
 rcases hk with rfl|rfl|rfl
 ·rw[P7 rfl]
  exact(Dx hS hsm (by unfold aG at hf;simp at hf;exact hf.2.1)).mono λr w' ⟨v,h⟩=>⟨v,_,_,_,_,h⟩
 ·rw[P8 rfl]
  exact(Dz hS hsm (by unfold aG at hf;simp at hf;exact hf.2)).mono λr w' ⟨v,v',ts',h⟩=>⟨_,v,v',_,ts',h⟩
 ·rw[L8 rfl]
  exact(BP hS hsm (by unfold aG at hf;simp at hf;exact hf.2)).mono λr w' ⟨v,h⟩=>⟨_,_,_,v,_,h⟩
theorem iz{g:Nat}{a0 a1 a2 a3 a4 a5 a6 a7 a8 b:Value}(hb:aj W g 36 #[a0,a1,a2,a3,a4,a5,a6,a7,a8])(h2:tmps.getD 4 undef=O (some ⟨g,0,none⟩))(h3:tmps.getD 5 undef=b):
  (results Tryz.f14 tmps).run pQ W=.ok (.tuple #[.agg #[a0,a1,a2,a3,a4,a5,a6,a7,a8],b]) W:=by
 obtain⟨c0,c1,c2,c3,c4,c5,c6,c7,c8⟩:=aA hb;have h2':tmps[4]?.getD undef=O (some ⟨g,0,none⟩):=by simpa using h2
 have Un:tmps[5]?.getD undef=b:=by simpa using h3
 simp[results,Tryz.results14,h2',Un,go_sem,c0,c1,c2,c3,c4,c5,c6,c7,c8]
theorem FL{w:World}{fo fe it se:Sl}{ts:List (Sl×aR)}{x:St}{G:Nat→Prop}(hS:aY w G fo fe it se ts x)(hsm:aP x){k a b n:Int}{s t u:ByteArray}(aL:aG x ⟨k,a,b,n,s,t,u⟩=false):
  Calls pQ 14 #[cC fo fe it se x,bQ ⟨k,a,b,n,s,t,u⟩] w (rh w G x false):=by
 obtain⟨w0,hw0,hf0,hb1,hb2,hb3⟩:=gP w fo fe it se x k a b n s t u;have gG:=h_ hS;have HS:=h_ (hS.nix hf0);have sB:=h_ hsm;have bT:=h_ hb1;have im:=h_ hb2;have og:=h_ hb3;have bI:=h_ hf0;have HW:=h_ hw0;have LB:=h_ aL
 have tQ:Hid (Calls pQ 30 #[cC fo fe it se x,.agg #[I J k,I J a,I J b,I J n,V s,V t,V u]] w0 λe w'=>e=.returned (.bool false)∧aa ag w0 w'):=by
  have:=iU (hS.nix hf0) hsm ⟨k,a,b,n,s,t,u⟩;rw[aL] at this;exact this
 clear hS hsm hf0 hb1 hb2 hb3 hw0 aL;unfold cC bQ;dsimp only;go_enter Tryz.func14,Tryz.ntmps14;show Code.wp pQ (ai 0 (ae Tryz.f14)) _ _ _
 refine aC (k':=1) λK hK=>?_
 conv in aD _=>whnf
 go_wp2;rw[←HW.out];obtain⟨e0,e1,e2,e3,e4,e5,e6⟩:=az im.out;obtain⟨x0,x1,x2,x3,x4,x5,x6,x7,x8⟩:=aA bT.out;simp only[ai,ae,Tryz.f14];go_wp2_with (go_at_call 30;refine tQ.out.mono ?_;rintro e w1 ⟨rfl,hf⟩;have Z1:=h_ hf;clear hf;clear x0 x1 x2 x3 x4 x5 x6 x7 x8;obtain⟨x0,x1,x2,x3,x4,x5,x6,x7,x8⟩:=aA (bT.out.frm Z1.out id);have hb4:aj w1 (w.heap.size+1+1) 36 #[I J 0,U none 0 0,U none 0 0,U none 0 0,U none 0 0,I J 0,I J 0,I J 0,I J 0]:=og.out.frm Z1.out id;obtain⟨y0,y1,y2,y3,y4,y5,y6,y7,y8⟩:=aA hb4;have g0:=hb4.frozen 0;have g1:=hb4.frozen 1;have g2:=hb4.frozen 2;have g3:=hb4.frozen 3;have g4:=hb4.frozen 4;have g5:=hb4.frozen 5;have g6:=hb4.frozen 6;have g7:=hb4.frozen 7;have g8:=hb4.frozen 8);have hb4:aj w1 (w.heap.size+1+1) 36 #[I J 0,U none 0 0,U none 0 0,U none 0 0,U none 0 0,I J 0,I J 0,I J 0,I J 0]:=og.out.frm Z1.out id;obtain⟨we,gq⟩:∃we,we=w1.setCells (w.heap.size+1+1) 0 [I J x.clock,U fo.1 x.fols.length fo.2,U fe.1 x.fees.length fe.2,U it.1 x.itms.length it.2,U se.1 x.seas.length se.2,I J x.tFol,I J x.tFee,I J x.tItm,I J x.tSea]:=⟨_,rfl⟩
 have l5:aj we (w.heap.size+1+1) 36 #[I J x.clock,U fo.1 x.fols.length fo.2,U fe.1 x.fees.length fe.2,U it.1 x.itms.length it.2,U se.1 x.seas.length se.2,I J x.tFol,I J x.tFee,I J x.tItm,I J x.tSea]:=by
  have:=aj.putL [I J x.clock,U fo.1 x.fols.length fo.2,U fe.1 x.fees.length fe.2,U it.1 x.itms.length it.2,U se.1 x.seas.length se.2,I J x.tFol,I J x.tFee,I J x.tItm,I J x.tSea] 0 hb4;rw[kK] at this;rw[gq];exact this
 have fe_:aa (λk=>k=w.heap.size+1+1) w1 we:=by rw[gq];exact aa.setCells _ 0 (aa.refl _ _) (.inl rfl)
 have bK:Hid (aa ag w we):=(bI.out.trans Z1.out).next fe_ (λk hk=>.inr (by omega))
 have lS:=h_ l5;simp only[World.setCells] at gq;rw[←gq];refine bodyPost_ret (iz lS.out rfl rfl) rfl ?_;exact⟨_,_,_,_,_,rfl,(gG.out.nix bK.out).mono λk hk=>.inl hk,bK.out⟩
theorem pz{w:World}{fo fe it se:Sl}{ts:List (Sl×aR)}{x:St}{G:Nat→Prop}(hS:aY w G fo fe it se ts x)(hsm:aP x){k a b n:Int}{s t u:ByteArray}(hk:k=1∨k=3∨k=7∨k=11)(aL:aG x ⟨k,a,b,n,s,t,u⟩=true):
  Calls pQ 14 #[cC fo fe it se x,bQ ⟨k,a,b,n,s,t,u⟩] w (rh w G (iu x ⟨k,a,b,n,s,t,u⟩) true):=by
 obtain⟨w0,hw0,hf0,hb1,hb2,hb3⟩:=gP w fo fe it se x k a b n s t u;have KM:Hid (∀W,aa ag w0 W→Calls pQ 31 #[cC fo fe it se x,.agg #[I J k,I J a,I J b,I J n,V s,V t,V u]] W (Ex W (λk=>G k∧k<w.heap.size) (iu x ⟨k,a,b,n,s,t,u⟩))):=λW hW=>FI (hS.old.nix (hf0.trans hW)) hsm k a b n s t u hk
 have gG:=h_ hS;have HS:=h_ (hS.nix hf0);have sB:=h_ hsm;have bT:=h_ hb1;have im:=h_ hb2;have og:=h_ hb3;have bI:=h_ hf0;have HW:=h_ hw0;have LB:=h_ aL
 have tQ:Hid (Calls pQ 30 #[cC fo fe it se x,.agg #[I J k,I J a,I J b,I J n,V s,V t,V u]] w0 λe w'=>e=.returned (.bool true)∧aa ag w0 w'):=by
  have:=iU (hS.nix hf0) hsm ⟨k,a,b,n,s,t,u⟩;rw[aL] at this;exact this
 clear hS hsm hf0 hb1 hb2 hb3 hw0 aL;unfold cC bQ;dsimp only;obtain⟨y,hy⟩:∃y,iu x ⟨k,a,b,n,s,t,u⟩=y:=⟨_,rfl⟩;rw[hy] at KM ⊢;clear hy;go_enter Tryz.func14,Tryz.ntmps14;show Code.wp pQ (ai 0 (ae Tryz.f14)) _ _ _
 refine aC (k':=1) λK hK=>?_
 conv in aD _=>whnf
 go_wp2;rw[←HW.out];obtain⟨e0,e1,e2,e3,e4,e5,e6⟩:=az im.out;obtain⟨x0,x1,x2,x3,x4,x5,x6,x7,x8⟩:=aA bT.out;refine aC (k':=2) λK hK=>?_
 conv in aD _=>whnf
 go_wp2_with (go_at_call 30;refine tQ.out.mono ?_;rintro e w1 ⟨rfl,hf⟩;have Z1:=h_ hf;clear hf);clear x0 x1 x2 x3 x4 x5 x6 x7 x8 e0 e1 e2 e3 e4 e5 e6;obtain⟨e0,e1,e2,e3,e4,e5,e6⟩:=az (im.out.frm Z1.out id);obtain⟨x0,x1,x2,x3,x4,x5,x6,x7,x8⟩:=aA (bT.out.frm Z1.out id);simp only[ai,ae,Tryz.f14];rcases hk with rfl|rfl|rfl|rfl
 all_goals
  go_wp2_with (go_at_call 31;refine(KM.out _ Z1.out).mono ?_;rintro r w2 ⟨fo',fe',it',se',ts',rfl,hs,hf⟩;have HY:=h_ hs;have Z2:=h_ hf;clear hs hf;have hb4:aj w2 (w.heap.size+1+1) 36 #[I J 0,U none 0 0,U none 0 0,U none 0 0,U none 0 0,I J 0,I J 0,I J 0,I J 0]:=og.out.frm (Z1.out.trans Z2.out) id;obtain⟨y0,y1,y2,y3,y4,y5,y6,y7,y8⟩:=aA hb4;have g0:=hb4.frozen 0;have g1:=hb4.frozen 1;have g2:=hb4.frozen 2;have g3:=hb4.frozen 3;have g4:=hb4.frozen 4;have g5:=hb4.frozen 5;have g6:=hb4.frozen 6;have g7:=hb4.frozen 7;have g8:=hb4.frozen 8;unfold cC);have hb4:aj w2 (w.heap.size+1+1) 36 #[I J 0,U none 0 0,U none 0 0,U none 0 0,U none 0 0,I J 0,I J 0,I J 0,I J 0]:=og.out.frm (Z1.out.trans Z2.out) id;obtain⟨we,gq⟩:∃we,we=w2.setCells (w.heap.size+1+1) 0 [I J y.clock,U fo'.1 y.fols.length fo'.2,U fe'.1 y.fees.length fe'.2,U it'.1 y.itms.length it'.2,U se'.1 y.seas.length se'.2,I J y.tFol,I J y.tFee,I J y.tItm,I J y.tSea]:=⟨_,rfl⟩
  have l5:aj we (w.heap.size+1+1) 36 #[I J y.clock,U fo'.1 y.fols.length fo'.2,U fe'.1 y.fees.length fe'.2,U it'.1 y.itms.length it'.2,U se'.1 y.seas.length se'.2,I J y.tFol,I J y.tFee,I J y.tItm,I J y.tSea]:=by
   have:=aj.putL [I J y.clock,U fo'.1 y.fols.length fo'.2,U fe'.1 y.fees.length fe'.2,U it'.1 y.itms.length it'.2,U se'.1 y.seas.length se'.2,I J y.tFol,I J y.tFee,I J y.tItm,I J y.tSea] 0 hb4;rw[kK] at this;rw[gq];exact this
  have fe_:aa (λk=>k=w.heap.size+1+1) w2 we:=by rw[gq];exact aa.setCells _ 0 (aa.refl _ _) (.inl rfl)
  have bK:Hid (aa ag w we):=((bI.out.trans Z1.out).trans Z2.out).next fe_ (λk hk=>.inr (by omega))
  have lS:=h_ l5
  have Rq:Hid (aY we (λk=>G k∨w.heap.size≤k) fo' fe' it' se' ts' y):=by
   have h1:=(bI.out.trans Z1.out).size;have h2:=og.out.frm Z1.out id |>.lt
   refine(HY.out.frm fe_ ?_).mono ?_
   ·exact λk hk e=>by rcases hk with ⟨-,hk⟩|hk<;>omega
   ·exact λk hk=>hk.elim (λh=>.inl h.1) λh=>.inr (by omega)
  simp only[World.setCells] at gq;rw[←gq];refine bodyPost_ret (iz lS.out rfl rfl) rfl ?_;exact⟨_,_,_,_,_,rfl,Rq.out,bK.out⟩
theorem ri{w:World}{fo fe it se:Sl}{ts:List (Sl×aR)}{x:St}{G:Nat→Prop}(hS:aY w G fo fe it se ts x)(hsm:aP x){k a b n:Int}{s t u:ByteArray}(hk:k=2∨k=4∨k=12)(aL:aG x ⟨k,a,b,n,s,t,u⟩=true):
  Calls pQ 14 #[cC fo fe it se x,bQ ⟨k,a,b,n,s,t,u⟩] w (rh w G (iu x ⟨k,a,b,n,s,t,u⟩) true):=by
 obtain⟨w0,hw0,hf0,hb1,hb2,hb3⟩:=gP w fo fe it se x k a b n s t u;have KM:Hid (∀W,aa ag w0 W→Calls pQ 32 #[cC fo fe it se x,.agg #[I J k,I J a,I J b,I J n,V s,V t,V u]] W (Ex W (λk=>G k∧k<w.heap.size) (iu x ⟨k,a,b,n,s,t,u⟩))):=λW hW=>FK (hS.old.nix (hf0.trans hW)) hsm k a b n s t u hk aL
 have gG:=h_ hS;have HS:=h_ (hS.nix hf0);have sB:=h_ hsm;have bT:=h_ hb1;have im:=h_ hb2;have og:=h_ hb3;have bI:=h_ hf0;have HW:=h_ hw0;have LB:=h_ aL
 have tQ:Hid (Calls pQ 30 #[cC fo fe it se x,.agg #[I J k,I J a,I J b,I J n,V s,V t,V u]] w0 λe w'=>e=.returned (.bool true)∧aa ag w0 w'):=by
  have:=iU (hS.nix hf0) hsm ⟨k,a,b,n,s,t,u⟩;rw[aL] at this;exact this
 clear hS hsm hf0 hb1 hb2 hb3 hw0 aL;unfold cC bQ;dsimp only;obtain⟨y,hy⟩:∃y,iu x ⟨k,a,b,n,s,t,u⟩=y:=⟨_,rfl⟩;rw[hy] at KM ⊢;clear hy;go_enter Tryz.func14,Tryz.ntmps14;show Code.wp pQ (ai 0 (ae Tryz.f14)) _ _ _
 refine aC (k':=1) λK hK=>?_
 conv in aD _=>whnf
 go_wp2;rw[←HW.out];obtain⟨e0,e1,e2,e3,e4,e5,e6⟩:=az im.out;obtain⟨x0,x1,x2,x3,x4,x5,x6,x7,x8⟩:=aA bT.out;refine aC (k':=2) λK hK=>?_
 conv in aD _=>whnf
 go_wp2_with (go_at_call 30;refine tQ.out.mono ?_;rintro e w1 ⟨rfl,hf⟩;have Z1:=h_ hf;clear hf);clear x0 x1 x2 x3 x4 x5 x6 x7 x8 e0 e1 e2 e3 e4 e5 e6;obtain⟨e0,e1,e2,e3,e4,e5,e6⟩:=az (im.out.frm Z1.out id);obtain⟨x0,x1,x2,x3,x4,x5,x6,x7,x8⟩:=aA (bT.out.frm Z1.out id);simp only[ai,ae,Tryz.f14];rcases hk with rfl|rfl|rfl
 all_goals
  go_wp2_with (go_at_call 32;refine(KM.out _ Z1.out).mono ?_;rintro r w2 ⟨fo',fe',it',se',ts',rfl,hs,hf⟩;have HY:=h_ hs;have Z2:=h_ hf;clear hs hf;have hb4:aj w2 (w.heap.size+1+1) 36 #[I J 0,U none 0 0,U none 0 0,U none 0 0,U none 0 0,I J 0,I J 0,I J 0,I J 0]:=og.out.frm (Z1.out.trans Z2.out) id;obtain⟨y0,y1,y2,y3,y4,y5,y6,y7,y8⟩:=aA hb4;have g0:=hb4.frozen 0;have g1:=hb4.frozen 1;have g2:=hb4.frozen 2;have g3:=hb4.frozen 3;have g4:=hb4.frozen 4;have g5:=hb4.frozen 5;have g6:=hb4.frozen 6;have g7:=hb4.frozen 7;have g8:=hb4.frozen 8;unfold cC);have hb4:aj w2 (w.heap.size+1+1) 36 #[I J 0,U none 0 0,U none 0 0,U none 0 0,U none 0 0,I J 0,I J 0,I J 0,I J 0]:=og.out.frm (Z1.out.trans Z2.out) id;obtain⟨we,gq⟩:∃we,we=w2.setCells (w.heap.size+1+1) 0 [I J y.clock,U fo'.1 y.fols.length fo'.2,U fe'.1 y.fees.length fe'.2,U it'.1 y.itms.length it'.2,U se'.1 y.seas.length se'.2,I J y.tFol,I J y.tFee,I J y.tItm,I J y.tSea]:=⟨_,rfl⟩
  have l5:aj we (w.heap.size+1+1) 36 #[I J y.clock,U fo'.1 y.fols.length fo'.2,U fe'.1 y.fees.length fe'.2,U it'.1 y.itms.length it'.2,U se'.1 y.seas.length se'.2,I J y.tFol,I J y.tFee,I J y.tItm,I J y.tSea]:=by
   have:=aj.putL [I J y.clock,U fo'.1 y.fols.length fo'.2,U fe'.1 y.fees.length fe'.2,U it'.1 y.itms.length it'.2,U se'.1 y.seas.length se'.2,I J y.tFol,I J y.tFee,I J y.tItm,I J y.tSea] 0 hb4;rw[kK] at this;rw[gq];exact this
  have fe_:aa (λk=>k=w.heap.size+1+1) w2 we:=by rw[gq];exact aa.setCells _ 0 (aa.refl _ _) (.inl rfl)
  have bK:Hid (aa ag w we):=((bI.out.trans Z1.out).trans Z2.out).next fe_ (λk hk=>.inr (by omega))
  have lS:=h_ l5
  have Rq:Hid (aY we (λk=>G k∨w.heap.size≤k) fo' fe' it' se' ts' y):=by
   have h1:=(bI.out.trans Z1.out).size;have h2:=og.out.frm Z1.out id |>.lt
   refine(HY.out.frm fe_ ?_).mono ?_
   ·exact λk hk e=>by rcases hk with ⟨-,hk⟩|hk<;>omega
   ·exact λk hk=>hk.elim (λh=>.inl h.1) λh=>.inr (by omega)
  simp only[World.setCells] at gq;rw[←gq];refine bodyPost_ret (iz lS.out rfl rfl) rfl ?_;exact⟨_,_,_,_,_,rfl,Rq.out,bK.out⟩
theorem Ix{w:World}{fo fe it se:Sl}{ts:List (Sl×aR)}{x:St}{G:Nat→Prop}(hS:aY w G fo fe it se ts x)(hsm:aP x){a b n:Int}{s t u:ByteArray}(aL:aG x ⟨13,a,b,n,s,t,u⟩=true):
  Calls pQ 14 #[cC fo fe it se x,bQ ⟨13,a,b,n,s,t,u⟩] w (rh w G (iu x ⟨13,a,b,n,s,t,u⟩) true):=by
 obtain⟨w0,hw0,hf0,hb1,hb2,hb3⟩:=gP w fo fe it se x 13 a b n s t u;have gG:=h_ hS;have HS:=h_ (hS.nix hf0);have sB:=h_ hsm;have bT:=h_ hb1;have im:=h_ hb2;have og:=h_ hb3;have bI:=h_ hf0;have HW:=h_ hw0;have LB:=h_ aL
 have tQ:Hid (Calls pQ 30 #[cC fo fe it se x,.agg #[I J 13,I J a,I J b,I J n,V s,V t,V u]] w0 λe w'=>e=.returned (.bool true)∧aa ag w0 w'):=by
  have:=iU (hS.nix hf0) hsm ⟨13,a,b,n,s,t,u⟩;rw[aL] at this;exact this
 clear hS hsm hf0 hb1 hb2 hb3 hw0 aL;unfold cC bQ;dsimp only;go_enter Tryz.func14,Tryz.ntmps14;show Code.wp pQ (ai 0 (ae Tryz.f14)) _ _ _
 refine aC (k':=1) λK hK=>?_
 conv in aD _=>whnf
 go_wp2;rw[←HW.out];obtain⟨e0,e1,e2,e3,e4,e5,e6⟩:=az im.out;obtain⟨x0,x1,x2,x3,x4,x5,x6,x7,x8⟩:=aA bT.out;refine aC (k':=2) λK hK=>?_
 conv in aD _=>whnf
 go_wp2_with (go_at_call 30;refine tQ.out.mono ?_;rintro e w1 ⟨rfl,hf⟩;have Z1:=h_ hf;clear hf);clear x0 x1 x2 x3 x4 x5 x6 x7 x8 e0 e1 e2 e3 e4 e5 e6;obtain⟨e0,e1,e2,e3,e4,e5,e6⟩:=az (im.out.frm Z1.out id);obtain⟨x0,x1,x2,x3,x4,x5,x6,x7,x8⟩:=aA (bT.out.frm Z1.out id);simp only[ai,ae,Tryz.f14];have gz:=(bT.out.frm Z1.out id).frozen 0;obtain⟨wd,hwd⟩:∃wd,wd=w1.setCell ⟨w.heap.size,0,none⟩ (I J n):=⟨_,rfl⟩;have rJ:aj wd w.heap.size 36 #[I J n,U fo.1 x.fols.length fo.2,U fe.1 x.fees.length fe.2,U it.1 x.itms.length it.2,U se.1 x.seas.length se.2,I J x.tFol,I J x.tFee,I J x.tItm,I J x.tSea]:=by rw[hwd];exact((bT.out.frm Z1.out id).set_ 0 _)
 have fd:aa (λk=>k=w.heap.size) w1 wd:=by rw[hwd];exact(aa.refl (λk=>k=w.heap.size) w1).setCell (.inl rfl) _
 obtain⟨z0,z1,z2,z3,z4,z5,z6,z7,z8⟩:=aA rJ;have hb4:aj wd (w.heap.size+1+1) 36 #[I J 0,U none 0 0,U none 0 0,U none 0 0,U none 0 0,I J 0,I J 0,I J 0,I J 0]:=(og.out.frm Z1.out id).frm fd (by simp);obtain⟨y0,y1,y2,y3,y4,y5,y6,y7,y8⟩:=aA hb4;have g0:=hb4.frozen 0;have g1:=hb4.frozen 1;have g2:=hb4.frozen 2;have g3:=hb4.frozen 3;have g4:=hb4.frozen 4;have g5:=hb4.frozen 5;have g6:=hb4.frozen 6;have g7:=hb4.frozen 7;have g8:=hb4.frozen 8;rw[hwd] at z0 z1 z2 z3 z4 z5 z6 z7 z8 y0 y1 y2 y3 y4 y5 y6 y7 y8 g0 g1 g2 g3 g4 g5 g6 g7 g8;go_wp2;rw[←hwd];obtain⟨we,gq⟩:∃we,we=wd.setCells (w.heap.size+1+1) 0 [I J n,U fo.1 x.fols.length fo.2,U fe.1 x.fees.length fe.2,U it.1 x.itms.length it.2,U se.1 x.seas.length se.2,I J x.tFol,I J x.tFee,I J x.tItm,I J x.tSea]:=⟨_,rfl⟩
 have l5:aj we (w.heap.size+1+1) 36 #[I J n,U fo.1 x.fols.length fo.2,U fe.1 x.fees.length fe.2,U it.1 x.itms.length it.2,U se.1 x.seas.length se.2,I J x.tFol,I J x.tFee,I J x.tItm,I J x.tSea]:=by
  have:=aj.putL [I J n,U fo.1 x.fols.length fo.2,U fe.1 x.fees.length fe.2,U it.1 x.itms.length it.2,U se.1 x.seas.length se.2,I J x.tFol,I J x.tFee,I J x.tItm,I J x.tSea] 0 hb4;rw[kK] at this;rw[gq];exact this
 have fe_:aa (λk=>k=w.heap.size+1+1) wd we:=by rw[gq];exact aa.setCells _ 0 (aa.refl _ _) (.inl rfl)
 have bK:Hid (aa ag w we):=((bI.out.trans Z1.out).next fd (λk hk=>.inr (by omega))).next fe_ (λk hk=>.inr (by omega))
 have lS:=h_ l5;simp only[World.setCells] at gq;rw[←gq];refine bodyPost_ret (iz lS.out rfl rfl) rfl ?_;exact⟨_,_,_,_,_,rfl,⟨(gG.out.nix bK.out).fols.mono λk hk=>.inl hk,(gG.out.nix bK.out).fees.mono λk hk=>.inl hk,(gG.out.nix bK.out).itms.mono λk hk=>.inl hk,gG.out.same,(gG.out.nix bK.out).seas.mono λk hk=>.inl hk⟩,bK.out⟩
theorem Kc{w:World}{fo fe it se:Sl}{ts:List (Sl×aR)}{x:St}{G:Nat→Prop}(hS:aY w G fo fe it se ts x)(hsm:aP x){a b n:Int}{s t u:ByteArray}(aL:aG x ⟨5,a,b,n,s,t,u⟩=true):
  Calls pQ 14 #[cC fo fe it se x,bQ ⟨5,a,b,n,s,t,u⟩] w (rh w G (iu x ⟨5,a,b,n,s,t,u⟩) true):=by
 obtain⟨w0,hw0,hf0,hb1,hb2,hb3⟩:=gP w fo fe it se x 5 a b n s t u;have cm:=hsm.fees
 have hi:bl aX.id a x.fees=true:=by
  unfold aG at aL;simp at aL;exact aL.2
 obtain⟨p,hpl,hp,-,-,uS⟩:=cj hi;have gG:=h_ hS;have HS:=h_ (hS.nix hf0);have sB:=h_ hsm;have bT:=h_ hb1;have im:=h_ hb2;have og:=h_ hb3;have bI:=h_ hf0;have HW:=h_ hw0;have LB:=h_ aL
 have tQ:Hid (Calls pQ 30 #[cC fo fe it se x,.agg #[I J 5,I J a,I J b,I J n,V s,V t,V u]] w0 λe w'=>e=.returned (.bool true)∧aa ag w0 w'):=by
  have:=iU (hS.nix hf0) hsm ⟨5,a,b,n,s,t,u⟩;rw[aL] at this;exact this
 clear hS hsm hf0 hb1 hb2 hb3 hw0 aL;unfold cC bQ;dsimp only;rw[P9 rfl];dsimp only;obtain⟨A,c⟩:=fe;dsimp only at HS gG bT HW tQ ⊢;go_enter Tryz.func14,Tryz.ntmps14;show Code.wp pQ (ai 0 (ae Tryz.f14)) _ _ _
 refine aC (k':=1) λK hK=>?_
 conv in aD _=>whnf
 go_wp2;rw[←HW.out];obtain⟨e0,e1,e2,e3,e4,e5,e6⟩:=az im.out;obtain⟨x0,x1,x2,x3,x4,x5,x6,x7,x8⟩:=aA bT.out;refine aC (k':=2) λK hK=>?_
 conv in aD _=>whnf
 go_wp2_with (go_at_call 30;refine tQ.out.mono ?_;rintro e w1 ⟨rfl,hf⟩;have Z1:=h_ hf;clear hf);clear x0 x1 x2 x3 x4 x5 x6 x7 x8 e0 e1 e2 e3 e4 e5 e6;obtain⟨e0,e1,e2,e3,e4,e5,e6⟩:=az (im.out.frm Z1.out id);obtain⟨x0,x1,x2,x3,x4,x5,x6,x7,x8⟩:=aA (bT.out.frm Z1.out id);have hs1:=(HS.out.nix Z1.out).fees;obtain⟨rA,rc,wa,iJ,hrow⟩:=rf qw (c:=c) hs1.rd (tI x.fees) (by exact cm) (by omega);obtain⟨A2,c2,Ag,-,-,-,hblk⟩:=hrow.shape;injection Ag with Ke Bh hsc;subst Ke hsc;have ik:=bT.out.frm Z1.out id;have pn:=im.out.frm Z1.out id;have qA:=og.out.frm Z1.out id;have DC:=qA.lt;have fa:=hrow.frm;have Lc:wa.cell? ⟨w.heap.size,2,none⟩=_:=((ik.frm fa id).cell 2).trans rfl;have LA:=(ik.frm fa id).frozen 2;have PU:(w1.alloc (.cells #[] 64)).cell? ⟨w.heap.size,2,none⟩=some (U A x.fees.length c):=((ik.frm ((fR w1).alloc _) id).cell 2).trans rfl;have FE:=World.new_ne w1 ⟨w.heap.size,2,none⟩ x2;skip;obtain⟨wd,hwd⟩:∃wd,wd=wa.setCell ⟨w.heap.size,2,none⟩ (U rA x.fees.length rc):=⟨_,rfl⟩;have fd:aa (λk=>k=w.heap.size) wa wd:=by rw[hwd];exact(aa.refl (λk=>k=w.heap.size) wa).setCell (.inl rfl) _
 have ul:Hid (aa ag w wd):=((bI.out.trans Z1.out).trans fa).next fd (λk hk=>.inr (by omega))
 have zB:∀k,(Value.slice rA x.fees.length rc).ownBlock=some k→w1.heap.size≤k:=λk hk=>by
  rcases rA with _|ad
  ·simp[Value.ownBlock] at hk
  ·have:=(hblk ad rfl).2.2.1
   simp[Value.ownBlock] at hk;omega
 have Kf:Hid (aI 64 4 w wd (U rA x.fees.length rc) x.fees.length (x.fees.flatMap aX.cells)):=(hrow.since (bI.out.trans Z1.out)).far fd (λk hk=>by omega) (λk hk e=>by have:=zB k hk;omega);have qy:Hid (aj wd w.heap.size 36 #[I J x.clock,U fo.1 x.fols.length fo.2,U rA x.fees.length rc,U it.1 x.itms.length it.2,U se.1 x.seas.length se.2,I J x.tFol,I J x.tFee,I J x.tItm,I J x.tSea]):=by unfold Hid;rw[hwd];exact((ik.frm fa id).set_ 2 _)
 have zV:Hid (aj wd (w.heap.size+1) 42 #[I J 5,I J a,I J b,I J n,V s,V t,V u]):=(pn.frm fa id).frm fd (by simp);have kG:Hid (aj wd (w.heap.size+1+1) 36 #[I J 0,U none 0 0,U none 0 0,U none 0 0,U none 0 0,I J 0,I J 0,I J 0,I J 0]):=(qA.frm fa id).frm fd (by simp)
 have Kg:Hid (aY wd (λk=>G k∨w.heap.size≤k) fo (rA,rc) it se ts x):=by
  have h0:=(gG.out.nix ul.out).mono (G':=λk=>G k∨w.heap.size≤k) λk hk=>.inl hk
  have h1:=hrow.sl.frm fd (λk hk e=>by omega);exact⟨h0.fols,h1.mono λk hk=>.inr (by omega),h0.itms,h0.same,h0.seas⟩
 obtain⟨old,hx0⟩:∃old,(x.fees.flatMap aX.cells)[p * 4+3]? =some old:=⟨_,by rw[lX aX.clen x.fees p hpl 3 (by decide)];rfl⟩
 have KF:Hid (Calls pQ 33 #[.agg #[I J x.clock,U fo.1 x.fols.length fo.2,U rA x.fees.length rc,U it.1 x.itms.length it.2,U se.1 x.seas.length se.2,I J x.tFol,I J x.tFee,I J x.tItm,I J x.tSea],I J a] wd λe w'=>e=.returned (I J p)∧aa ag wd w'):=by
  have:=lB Kg.out sB.out a;rw[hp] at this;exact this
 obtain⟨z0,z1,z2,z3,z4,z5,z6,z7,z8⟩:=aA qy.out;obtain⟨d0,d1,d2,d3,d4,d5,d6⟩:=az zV.out;have Kh:=h_ hwd;rw[hwd] at z0 z1 z2 z3 z4 z5 z6 z7 z8 d0 d1 d2 d3 d4 d5 d6;have Ki:=h_ zB;have zC:=h_ DC;clear hs1 hrow hblk ik pn qA DC fa fd zB;simp only[ai,ae,Tryz.f14]
 go_wp2_with (first
  | (at_builtin;refine aq iJ rfl _ _ rfl rfl rfl ?_)
  | (go_at_call 33
     rw[←Kh.out];refine KF.out.mono ?_;rintro r w2 ⟨rfl,hf⟩;have Z2:=h_ hf;have gF:Hid (aI 64 4 w w2 (U rA x.fees.length rc) x.fees.length (x.fees.flatMap aX.cells)):=Kf.out.more hf;obtain⟨z0,z1,z2,z3,z4,z5,z6,z7,z8⟩:=aA (qy.out.frm hf id);obtain⟨d0,d1,d2,d3,d4,d5,d6⟩:=az (zV.out.frm hf id);obtain⟨y0,y1,y2,y3,y4,y5,y6,y7,y8⟩:=aA (kG.out.frm hf id);have g0:=(kG.out.frm hf id).frozen 0;have g1:=(kG.out.frm hf id).frozen 1;have g2:=(kG.out.frm hf id).frozen 2;have g3:=(kG.out.frm hf id).frozen 3;have g4:=(kG.out.frm hf id).frozen 4;have g5:=(kG.out.frm hf id).frozen 5;have g6:=(kG.out.frm hf id).frozen 6;have g7:=(kG.out.frm hf id).frozen 7;have g8:=(kG.out.frm hf id).frozen 8;obtain⟨g,yl,G9,PV,qB,vJ,Kj⟩:=gF.out.set_ (p * 4+3) (by omega) (V t);rw[hx0] at G9;have hgo:w.heap.size+1+1<g:=by have h1:=Ki.out g (by rw[yl];rfl);have h2:=zC.out;omega
     have hg0:¬g=w.heap.size:=by omega
     have hg1:¬g=w.heap.size+1:=by omega
     have hg2:¬g=w.heap.size+1+1:=by omega
     have zD:¬w.heap.size=g:=by omega
     have Kk:¬w.heap.size+1=g:=by omega
     have um:¬w.heap.size+1+1=g:=by omega
     have sg:=h_ qB;obtain⟨s0,s1,s2,s3,s4,s5,s6,s7,s8⟩:=aA ((qy.out.frm hf id).far (p:=⟨g,p * 4+3,none⟩) zD (V t));have gj:=(kG.out.frm hf id).far (p:=⟨g,p * 4+3,none⟩) um (V t);obtain⟨t0,t1,t2,t3,t4,t5,t6,t7,t8⟩:=aA gj;have q0:=gj.frozen 0;have q1:=gj.frozen 1;have q2:=gj.frozen 2;have q3:=gj.frozen 3;have q4:=gj.frozen 4;have q5:=gj.frozen 5;have q6:=gj.frozen 6;have q7:=gj.frozen 7;have q8:=gj.frozen 8;clear gj;subst yl;clear hf qB))
 obtain⟨wf,qz⟩:∃wf,wf=w2.setCell ⟨g,p * 4+3,none⟩ (V t):=⟨_,rfl⟩;have ff:aa (λk=>k=g) w2 wf:=by rw[qz];exact(aa.refl (λk=>k=g) w2).setCell (.inl rfl) _
 have hb4:aj wf (w.heap.size+1+1) 36 #[I J 0,U none 0 0,U none 0 0,U none 0 0,U none 0 0,I J 0,I J 0,I J 0,I J 0]:=(kG.out.frm Z2.out id).frm ff (by simpa using um);rw[←qz] at sg;obtain⟨we,gq⟩:∃we,we=wf.setCells (w.heap.size+1+1) 0 [I J x.clock,U fo.1 x.fols.length fo.2,U (some ⟨g,0,none⟩) x.fees.length rc,U it.1 x.itms.length it.2,U se.1 x.seas.length se.2,I J x.tFol,I J x.tFee,I J x.tItm,I J x.tSea]:=⟨_,rfl⟩
 have l5:aj we (w.heap.size+1+1) 36 #[I J x.clock,U fo.1 x.fols.length fo.2,U (some ⟨g,0,none⟩) x.fees.length rc,U it.1 x.itms.length it.2,U se.1 x.seas.length se.2,I J x.tFol,I J x.tFee,I J x.tItm,I J x.tSea]:=by
  have:=aj.putL [I J x.clock,U fo.1 x.fols.length fo.2,U (some ⟨g,0,none⟩) x.fees.length rc,U it.1 x.itms.length it.2,U se.1 x.seas.length se.2,I J x.tFol,I J x.tFee,I J x.tItm,I J x.tSea] 0 hb4;rw[kK] at this;rw[gq];exact this
 have fe_:aa (λk=>k=w.heap.size+1+1) wf we:=by rw[gq];exact aa.setCells _ 0 (aa.refl _ _) (.inl rfl)
 have bK:Hid (aa ag w we):=((ul.out.trans Z2.out).next ff (λk hk=>.inr (by omega))).next fe_ (λk hk=>.inr (by omega))
 have lS:=h_ l5
 have hrow:aF we (λk=>w.heap.size≤k) 4 (some ⟨g,0,none⟩,rc) x.fees.length ((x.fees.flatMap aX.cells).set (p * 4+3) (V t)):=by
  have hr3:=sg.out.far fe_ (λk hk=>by omega) (λk hk e=>by simp[Value.ownBlock] at hk;omega);exact hr3.sl
 have HL:Hid ((gK aX.id a (λf=>{f with title:=t}) x.fees)=x.fees.set p ((λf=>{f with title:=t}) x.fees[p])):=by
  unfold Hid;have:=@pW _ aX.id a (λf=>{f with title:=t}) x.fees (by rw[uS];exact hpl);simp only[uS] at this;exact this
 rw[pX aX.clen x.fees p hpl ((λf=>{f with title:=t}) x.fees[p]) 3 (by decide) _ rfl,←HL.out] at hrow;have d9:(gK aX.id a (λf=>{f with title:=t}) x.fees).length=x.fees.length:=by rw[HL.out,List.length_set]
 rw[←d9] at hrow;simp only[World.setCells] at gq;rw[qz] at gq;rw[←gq];refine bodyPost_ret (iz lS.out rfl rfl) rfl ?_;exact⟨fo,(some ⟨g,0,none⟩,rc),it,se,ts,by rw[←d9];rfl,⟨(gG.out.nix bK.out).fols.mono λk hk=>.inl hk,hrow.mono λk hk=>.inr hk,(gG.out.nix bK.out).itms.mono λk hk=>.inl hk,gG.out.same,(gG.out.nix bK.out).seas.mono λk hk=>.inl hk⟩,bK.out⟩
theorem Kl{w:World}{fo fe it se:Sl}{ts:List (Sl×aR)}{x:St}{G:Nat→Prop}(hS:aY w G fo fe it se ts x)(hsm:aP x){a b n:Int}{s t u:ByteArray}(aL:aG x ⟨6,a,b,n,s,t,u⟩=true):
  Calls pQ 14 #[cC fo fe it se x,bQ ⟨6,a,b,n,s,t,u⟩] w (rh w G (iu x ⟨6,a,b,n,s,t,u⟩) true):=by
 obtain⟨w0,hw0,hf0,hb1,hb2,hb3⟩:=gP w fo fe it se x 6 a b n s t u;have cm:=hsm.fees
 have hi:bl aX.id a x.fees=true:=by
  unfold aG at aL;simp at aL;exact aL.2.1
 obtain⟨p,hpl,hp,-,-,uS⟩:=cj hi;have gG:=h_ hS;have HS:=h_ (hS.nix hf0);have sB:=h_ hsm;have bT:=h_ hb1;have im:=h_ hb2;have og:=h_ hb3;have bI:=h_ hf0;have HW:=h_ hw0;have LB:=h_ aL
 have tQ:Hid (Calls pQ 30 #[cC fo fe it se x,.agg #[I J 6,I J a,I J b,I J n,V s,V t,V u]] w0 λe w'=>e=.returned (.bool true)∧aa ag w0 w'):=by
  have:=iU (hS.nix hf0) hsm ⟨6,a,b,n,s,t,u⟩;rw[aL] at this;exact this
 clear hS hsm hf0 hb1 hb2 hb3 hw0 aL;unfold cC bQ;dsimp only;rw[Qa rfl];dsimp only;obtain⟨A,c⟩:=fe;dsimp only at HS gG bT HW tQ ⊢;go_enter Tryz.func14,Tryz.ntmps14;show Code.wp pQ (ai 0 (ae Tryz.f14)) _ _ _
 refine aC (k':=1) λK hK=>?_
 conv in aD _=>whnf
 go_wp2;rw[←HW.out];obtain⟨e0,e1,e2,e3,e4,e5,e6⟩:=az im.out;obtain⟨x0,x1,x2,x3,x4,x5,x6,x7,x8⟩:=aA bT.out;refine aC (k':=2) λK hK=>?_
 conv in aD _=>whnf
 go_wp2_with (go_at_call 30;refine tQ.out.mono ?_;rintro e w1 ⟨rfl,hf⟩;have Z1:=h_ hf;clear hf);clear x0 x1 x2 x3 x4 x5 x6 x7 x8 e0 e1 e2 e3 e4 e5 e6;obtain⟨e0,e1,e2,e3,e4,e5,e6⟩:=az (im.out.frm Z1.out id);obtain⟨x0,x1,x2,x3,x4,x5,x6,x7,x8⟩:=aA (bT.out.frm Z1.out id);have hs1:=(HS.out.nix Z1.out).fees;obtain⟨rA,rc,wa,iJ,hrow⟩:=rf qw (c:=c) hs1.rd (tI x.fees) (by exact cm) (by omega);obtain⟨A2,c2,Ag,-,-,-,hblk⟩:=hrow.shape;injection Ag with Ke Bh hsc;subst Ke hsc;have ik:=bT.out.frm Z1.out id;have pn:=im.out.frm Z1.out id;have qA:=og.out.frm Z1.out id;have DC:=qA.lt;have fa:=hrow.frm;have Lc:wa.cell? ⟨w.heap.size,2,none⟩=_:=((ik.frm fa id).cell 2).trans rfl;have LA:=(ik.frm fa id).frozen 2;have PU:(w1.alloc (.cells #[] 64)).cell? ⟨w.heap.size,2,none⟩=some (U A x.fees.length c):=((ik.frm ((fR w1).alloc _) id).cell 2).trans rfl;have FE:=World.new_ne w1 ⟨w.heap.size,2,none⟩ x2;skip;obtain⟨wd,hwd⟩:∃wd,wd=wa.setCell ⟨w.heap.size,2,none⟩ (U rA x.fees.length rc):=⟨_,rfl⟩;have fd:aa (λk=>k=w.heap.size) wa wd:=by rw[hwd];exact(aa.refl (λk=>k=w.heap.size) wa).setCell (.inl rfl) _
 have ul:Hid (aa ag w wd):=((bI.out.trans Z1.out).trans fa).next fd (λk hk=>.inr (by omega))
 have zB:∀k,(Value.slice rA x.fees.length rc).ownBlock=some k→w1.heap.size≤k:=λk hk=>by
  rcases rA with _|ad
  ·simp[Value.ownBlock] at hk
  ·have:=(hblk ad rfl).2.2.1
   simp[Value.ownBlock] at hk;omega
 have Kf:Hid (aI 64 4 w wd (U rA x.fees.length rc) x.fees.length (x.fees.flatMap aX.cells)):=(hrow.since (bI.out.trans Z1.out)).far fd (λk hk=>by omega) (λk hk e=>by have:=zB k hk;omega);have qy:Hid (aj wd w.heap.size 36 #[I J x.clock,U fo.1 x.fols.length fo.2,U rA x.fees.length rc,U it.1 x.itms.length it.2,U se.1 x.seas.length se.2,I J x.tFol,I J x.tFee,I J x.tItm,I J x.tSea]):=by unfold Hid;rw[hwd];exact((ik.frm fa id).set_ 2 _)
 have zV:Hid (aj wd (w.heap.size+1) 42 #[I J 6,I J a,I J b,I J n,V s,V t,V u]):=(pn.frm fa id).frm fd (by simp);have kG:Hid (aj wd (w.heap.size+1+1) 36 #[I J 0,U none 0 0,U none 0 0,U none 0 0,U none 0 0,I J 0,I J 0,I J 0,I J 0]):=(qA.frm fa id).frm fd (by simp)
 have Kg:Hid (aY wd (λk=>G k∨w.heap.size≤k) fo (rA,rc) it se ts x):=by
  have h0:=(gG.out.nix ul.out).mono (G':=λk=>G k∨w.heap.size≤k) λk hk=>.inl hk
  have h1:=hrow.sl.frm fd (λk hk e=>by omega);exact⟨h0.fols,h1.mono λk hk=>.inr (by omega),h0.itms,h0.same,h0.seas⟩
 obtain⟨old,hx0⟩:∃old,(x.fees.flatMap aX.cells)[p * 4+1]? =some old:=⟨_,by rw[lX aX.clen x.fees p hpl 1 (by decide)];rfl⟩
 have KF:Hid (Calls pQ 33 #[.agg #[I J x.clock,U fo.1 x.fols.length fo.2,U rA x.fees.length rc,U it.1 x.itms.length it.2,U se.1 x.seas.length se.2,I J x.tFol,I J x.tFee,I J x.tItm,I J x.tSea],I J a] wd λe w'=>e=.returned (I J p)∧aa ag wd w'):=by
  have:=lB Kg.out sB.out a;rw[hp] at this;exact this
 obtain⟨z0,z1,z2,z3,z4,z5,z6,z7,z8⟩:=aA qy.out;obtain⟨d0,d1,d2,d3,d4,d5,d6⟩:=az zV.out;have Kh:=h_ hwd;rw[hwd] at z0 z1 z2 z3 z4 z5 z6 z7 z8 d0 d1 d2 d3 d4 d5 d6;have Ki:=h_ zB;have zC:=h_ DC;clear hs1 hrow hblk ik pn qA DC fa fd zB;simp only[ai,ae,Tryz.f14]
 go_wp2_with (first
  | (at_builtin;refine aq iJ rfl _ _ rfl rfl rfl ?_)
  | (go_at_call 33
     rw[←Kh.out];refine KF.out.mono ?_;rintro r w2 ⟨rfl,hf⟩;have Z2:=h_ hf;have gF:Hid (aI 64 4 w w2 (U rA x.fees.length rc) x.fees.length (x.fees.flatMap aX.cells)):=Kf.out.more hf;obtain⟨z0,z1,z2,z3,z4,z5,z6,z7,z8⟩:=aA (qy.out.frm hf id);obtain⟨d0,d1,d2,d3,d4,d5,d6⟩:=az (zV.out.frm hf id);obtain⟨y0,y1,y2,y3,y4,y5,y6,y7,y8⟩:=aA (kG.out.frm hf id);have g0:=(kG.out.frm hf id).frozen 0;have g1:=(kG.out.frm hf id).frozen 1;have g2:=(kG.out.frm hf id).frozen 2;have g3:=(kG.out.frm hf id).frozen 3;have g4:=(kG.out.frm hf id).frozen 4;have g5:=(kG.out.frm hf id).frozen 5;have g6:=(kG.out.frm hf id).frozen 6;have g7:=(kG.out.frm hf id).frozen 7;have g8:=(kG.out.frm hf id).frozen 8;obtain⟨g,yl,G9,PV,qB,vJ,Kj⟩:=gF.out.set_ (p * 4+1) (by omega) (I J b);rw[hx0] at G9;have hgo:w.heap.size+1+1<g:=by have h1:=Ki.out g (by rw[yl];rfl);have h2:=zC.out;omega
     have hg0:¬g=w.heap.size:=by omega
     have hg1:¬g=w.heap.size+1:=by omega
     have hg2:¬g=w.heap.size+1+1:=by omega
     have zD:¬w.heap.size=g:=by omega
     have Kk:¬w.heap.size+1=g:=by omega
     have um:¬w.heap.size+1+1=g:=by omega
     have sg:=h_ qB;obtain⟨s0,s1,s2,s3,s4,s5,s6,s7,s8⟩:=aA ((qy.out.frm hf id).far (p:=⟨g,p * 4+1,none⟩) zD (I J b));have gj:=(kG.out.frm hf id).far (p:=⟨g,p * 4+1,none⟩) um (I J b);obtain⟨t0,t1,t2,t3,t4,t5,t6,t7,t8⟩:=aA gj;have q0:=gj.frozen 0;have q1:=gj.frozen 1;have q2:=gj.frozen 2;have q3:=gj.frozen 3;have q4:=gj.frozen 4;have q5:=gj.frozen 5;have q6:=gj.frozen 6;have q7:=gj.frozen 7;have q8:=gj.frozen 8;clear gj;subst yl;clear hf qB))
 obtain⟨wf,qz⟩:∃wf,wf=w2.setCell ⟨g,p * 4+1,none⟩ (I J b):=⟨_,rfl⟩;have ff:aa (λk=>k=g) w2 wf:=by rw[qz];exact(aa.refl (λk=>k=g) w2).setCell (.inl rfl) _
 have hb4:aj wf (w.heap.size+1+1) 36 #[I J 0,U none 0 0,U none 0 0,U none 0 0,U none 0 0,I J 0,I J 0,I J 0,I J 0]:=(kG.out.frm Z2.out id).frm ff (by simpa using um);rw[←qz] at sg;obtain⟨we,gq⟩:∃we,we=wf.setCells (w.heap.size+1+1) 0 [I J x.clock,U fo.1 x.fols.length fo.2,U (some ⟨g,0,none⟩) x.fees.length rc,U it.1 x.itms.length it.2,U se.1 x.seas.length se.2,I J x.tFol,I J x.tFee,I J x.tItm,I J x.tSea]:=⟨_,rfl⟩
 have l5:aj we (w.heap.size+1+1) 36 #[I J x.clock,U fo.1 x.fols.length fo.2,U (some ⟨g,0,none⟩) x.fees.length rc,U it.1 x.itms.length it.2,U se.1 x.seas.length se.2,I J x.tFol,I J x.tFee,I J x.tItm,I J x.tSea]:=by
  have:=aj.putL [I J x.clock,U fo.1 x.fols.length fo.2,U (some ⟨g,0,none⟩) x.fees.length rc,U it.1 x.itms.length it.2,U se.1 x.seas.length se.2,I J x.tFol,I J x.tFee,I J x.tItm,I J x.tSea] 0 hb4;rw[kK] at this;rw[gq];exact this
 have fe_:aa (λk=>k=w.heap.size+1+1) wf we:=by rw[gq];exact aa.setCells _ 0 (aa.refl _ _) (.inl rfl)
 have bK:Hid (aa ag w we):=((ul.out.trans Z2.out).next ff (λk hk=>.inr (by omega))).next fe_ (λk hk=>.inr (by omega))
 have lS:=h_ l5
 have hrow:aF we (λk=>w.heap.size≤k) 4 (some ⟨g,0,none⟩,rc) x.fees.length ((x.fees.flatMap aX.cells).set (p * 4+1) (I J b)):=by
  have hr3:=sg.out.far fe_ (λk hk=>by omega) (λk hk e=>by simp[Value.ownBlock] at hk;omega);exact hr3.sl
 have HL:Hid ((gK aX.id a (λf=>{f with inn:=b}) x.fees)=x.fees.set p ((λf=>{f with inn:=b}) x.fees[p])):=by
  unfold Hid;have:=@pW _ aX.id a (λf=>{f with inn:=b}) x.fees (by rw[uS];exact hpl);simp only[uS] at this;exact this
 rw[pX aX.clen x.fees p hpl ((λf=>{f with inn:=b}) x.fees[p]) 1 (by decide) _ rfl,←HL.out] at hrow;have d9:(gK aX.id a (λf=>{f with inn:=b}) x.fees).length=x.fees.length:=by rw[HL.out,List.length_set]
 rw[←d9] at hrow;simp only[World.setCells] at gq;rw[qz] at gq;rw[←gq];refine bodyPost_ret (iz lS.out rfl rfl) rfl ?_;exact⟨fo,(some ⟨g,0,none⟩,rc),it,se,ts,by rw[←d9];rfl,⟨(gG.out.nix bK.out).fols.mono λk hk=>.inl hk,hrow.mono λk hk=>.inr hk,(gG.out.nix bK.out).itms.mono λk hk=>.inl hk,gG.out.same,(gG.out.nix bK.out).seas.mono λk hk=>.inl hk⟩,bK.out⟩
theorem Ey{w:World}{G:Nat→Prop}{fo fe it se:Sl}{ts:List (Sl×aR)}{x:St}(h:aY w G fo fe it se ts x){p:Nat}(hk:p<ts.length)(hp:p<x.itms.length):(ts[p]'hk).2=x.itms[p]:=by
 obtain⟨h1,h2⟩:=py h hp;exact h2
theorem Km{w:World}{fo fe it se:Sl}{ts:List (Sl×aR)}{x:St}{G:Nat→Prop}(hS:aY w G fo fe it se ts x)(hsm:aP x){a b n:Int}{s t u:ByteArray}(aL:aG x ⟨8,a,b,n,s,t,u⟩=true):
  Calls pQ 14 #[cC fo fe it se x,bQ ⟨8,a,b,n,s,t,u⟩] w (rh w G (iu x ⟨8,a,b,n,s,t,u⟩) true):=by
 obtain⟨w0,hw0,hf0,hb1,hb2,hb3⟩:=gP w fo fe it se x 8 a b n s t u;have cm:=hsm.itms
 have hi:bl aR.id a x.itms=true:=by
  unfold aG at aL;simp at aL;exact aL.2
 obtain⟨p,hpl,hp,-,-,uS⟩:=cj hi;have gG:=h_ hS;have HS:=h_ (hS.nix hf0);have sB:=h_ hsm;have bT:=h_ hb1;have im:=h_ hb2;have og:=h_ hb3;have bI:=h_ hf0;have HW:=h_ hw0;have LB:=h_ aL
 have tQ:Hid (Calls pQ 30 #[cC fo fe it se x,.agg #[I J 8,I J a,I J b,I J n,V s,V t,V u]] w0 λe w'=>e=.returned (.bool true)∧aa ag w0 w'):=by
  have:=iU (hS.nix hf0) hsm ⟨8,a,b,n,s,t,u⟩;rw[aL] at this;exact this
 clear hS hsm hf0 hb1 hb2 hb3 hw0 aL;unfold cC bQ;dsimp only;rw[Qb rfl];dsimp only;obtain⟨A,c⟩:=it;dsimp only at HS gG bT HW tQ ⊢;go_enter Tryz.func14,Tryz.ntmps14;show Code.wp pQ (ai 0 (ae Tryz.f14)) _ _ _
 refine aC (k':=1) λK hK=>?_
 conv in aD _=>whnf
 go_wp2;rw[←HW.out];obtain⟨e0,e1,e2,e3,e4,e5,e6⟩:=az im.out;obtain⟨x0,x1,x2,x3,x4,x5,x6,x7,x8⟩:=aA bT.out;refine aC (k':=2) λK hK=>?_
 conv in aD _=>whnf
 go_wp2_with (go_at_call 30;refine tQ.out.mono ?_;rintro e w1 ⟨rfl,hf⟩;have Z1:=h_ hf;clear hf);clear x0 x1 x2 x3 x4 x5 x6 x7 x8 e0 e1 e2 e3 e4 e5 e6;obtain⟨e0,e1,e2,e3,e4,e5,e6⟩:=az (im.out.frm Z1.out id);obtain⟨x0,x1,x2,x3,x4,x5,x6,x7,x8⟩:=aA (bT.out.frm Z1.out id);have hlen:ts.length=x.itms.length:=gG.out.len;have hs1:=(HS.out.nix Z1.out).itms.row;obtain⟨rA,rc,wa,iJ,hrow⟩:=rf px (c:=c) hs1.rd (tH ts) (by rw[hlen];exact cm) (by omega);obtain⟨A2,c2,Ag,-,-,-,hblk⟩:=hrow.shape;injection Ag with Ke Bh hsc;subst Ke hsc;have ik:=bT.out.frm Z1.out id;have pn:=im.out.frm Z1.out id;have qA:=og.out.frm Z1.out id;have DC:=qA.lt;have fa:=hrow.frm;have Lc:wa.cell? ⟨w.heap.size,3,none⟩=_:=((ik.frm fa id).cell 3).trans rfl;have LA:=(ik.frm fa id).frozen 3;have PU:(w1.alloc (.cells #[] 82)).cell? ⟨w.heap.size,3,none⟩=some (U A x.itms.length c):=((ik.frm ((fR w1).alloc _) id).cell 3).trans rfl;have FE:=World.new_ne w1 ⟨w.heap.size,3,none⟩ x3;rw[hlen] at iJ hrow;obtain⟨wd,hwd⟩:∃wd,wd=wa.setCell ⟨w.heap.size,3,none⟩ (U rA x.itms.length rc):=⟨_,rfl⟩;have fd:aa (λk=>k=w.heap.size) wa wd:=by rw[hwd];exact(aa.refl (λk=>k=w.heap.size) wa).setCell (.inl rfl) _
 have ul:Hid (aa ag w wd):=((bI.out.trans Z1.out).trans fa).next fd (λk hk=>.inr (by omega))
 have zB:∀k,(Value.slice rA x.itms.length rc).ownBlock=some k→w1.heap.size≤k:=λk hk=>by
  rcases rA with _|ad
  ·simp[Value.ownBlock] at hk
  ·have:=(hblk ad rfl).2.2.1
   simp[Value.ownBlock] at hk;omega
 have Kf:Hid (aI 82 9 w wd (U rA x.itms.length rc) x.itms.length (ts.flatMap io)):=(hrow.since (bI.out.trans Z1.out)).far fd (λk hk=>by omega) (λk hk e=>by have:=zB k hk;omega);have qy:Hid (aj wd w.heap.size 36 #[I J x.clock,U fo.1 x.fols.length fo.2,U fe.1 x.fees.length fe.2,U rA x.itms.length rc,U se.1 x.seas.length se.2,I J x.tFol,I J x.tFee,I J x.tItm,I J x.tSea]):=by unfold Hid;rw[hwd];exact((ik.frm fa id).set_ 3 _)
 have zV:Hid (aj wd (w.heap.size+1) 42 #[I J 8,I J a,I J b,I J n,V s,V t,V u]):=(pn.frm fa id).frm fd (by simp);have kG:Hid (aj wd (w.heap.size+1+1) 36 #[I J 0,U none 0 0,U none 0 0,U none 0 0,U none 0 0,I J 0,I J 0,I J 0,I J 0]):=(qA.frm fa id).frm fd (by simp)
 have Kg:Hid (aY wd (λk=>G k∨w.heap.size≤k) fo fe (rA,rc) se ts x):=by
  have h0:=(gG.out.nix ul.out).mono (G':=λk=>G k∨w.heap.size≤k) λk hk=>.inl hk
  have h1:=hrow.sl.frm fd (λk hk e=>by omega);rw[←hlen] at h1;exact⟨h0.fols,h0.fees,⟨h1.mono λk hk=>.inr (by omega),h0.itms.tags⟩,h0.same,h0.seas⟩
 obtain⟨old,hx0⟩:∃old,(ts.flatMap io)[p * 9+6]? =some old:=⟨_,by rw[lX bN ts p (by rw[hlen];exact hpl) 6 (by decide)];rfl⟩
 have KF:Hid (Calls pQ 34 #[.agg #[I J x.clock,U fo.1 x.fols.length fo.2,U fe.1 x.fees.length fe.2,U rA x.itms.length rc,U se.1 x.seas.length se.2,I J x.tFol,I J x.tFee,I J x.tItm,I J x.tSea],I J a] wd λe w'=>e=.returned (I J p)∧aa ag wd w'):=by
  have:=my Kg.out sB.out a;rw[hp] at this;exact this
 obtain⟨z0,z1,z2,z3,z4,z5,z6,z7,z8⟩:=aA qy.out;obtain⟨d0,d1,d2,d3,d4,d5,d6⟩:=az zV.out;have Kh:=h_ hwd;rw[hwd] at z0 z1 z2 z3 z4 z5 z6 z7 z8 d0 d1 d2 d3 d4 d5 d6;have Ki:=h_ zB;have zC:=h_ DC;clear hs1 hrow hblk ik pn qA DC fa fd zB;simp only[ai,ae,Tryz.f14]
 go_wp2_with (first
  | (at_builtin;refine aq iJ rfl _ _ rfl rfl rfl ?_)
  | (go_at_call 34
     rw[←Kh.out];refine KF.out.mono ?_;rintro r w2 ⟨rfl,hf⟩;have Z2:=h_ hf;have gF:Hid (aI 82 9 w w2 (U rA x.itms.length rc) x.itms.length (ts.flatMap io)):=Kf.out.more hf;obtain⟨z0,z1,z2,z3,z4,z5,z6,z7,z8⟩:=aA (qy.out.frm hf id);obtain⟨d0,d1,d2,d3,d4,d5,d6⟩:=az (zV.out.frm hf id);obtain⟨y0,y1,y2,y3,y4,y5,y6,y7,y8⟩:=aA (kG.out.frm hf id);have g0:=(kG.out.frm hf id).frozen 0;have g1:=(kG.out.frm hf id).frozen 1;have g2:=(kG.out.frm hf id).frozen 2;have g3:=(kG.out.frm hf id).frozen 3;have g4:=(kG.out.frm hf id).frozen 4;have g5:=(kG.out.frm hf id).frozen 5;have g6:=(kG.out.frm hf id).frozen 6;have g7:=(kG.out.frm hf id).frozen 7;have g8:=(kG.out.frm hf id).frozen 8;obtain⟨g,yl,G9,PV,qB,vJ,Kj⟩:=gF.out.set_ (p * 9+6) (by omega) (.bool (n==1));rw[hx0] at G9;have hgo:w.heap.size+1+1<g:=by have h1:=Ki.out g (by rw[yl];rfl);have h2:=zC.out;omega
     have hg0:¬g=w.heap.size:=by omega
     have hg1:¬g=w.heap.size+1:=by omega
     have hg2:¬g=w.heap.size+1+1:=by omega
     have zD:¬w.heap.size=g:=by omega
     have Kk:¬w.heap.size+1=g:=by omega
     have um:¬w.heap.size+1+1=g:=by omega
     have sg:=h_ qB;obtain⟨s0,s1,s2,s3,s4,s5,s6,s7,s8⟩:=aA ((qy.out.frm hf id).far (p:=⟨g,p * 9+6,none⟩) zD (.bool (n==1)));have gj:=(kG.out.frm hf id).far (p:=⟨g,p * 9+6,none⟩) um (.bool (n==1));obtain⟨t0,t1,t2,t3,t4,t5,t6,t7,t8⟩:=aA gj;have q0:=gj.frozen 0;have q1:=gj.frozen 1;have q2:=gj.frozen 2;have q3:=gj.frozen 3;have q4:=gj.frozen 4;have q5:=gj.frozen 5;have q6:=gj.frozen 6;have q7:=gj.frozen 7;have q8:=gj.frozen 8;clear gj;subst yl;clear hf qB))
 obtain⟨wf,qz⟩:∃wf,wf=w2.setCell ⟨g,p * 9+6,none⟩ (.bool (n==1)):=⟨_,rfl⟩;have ff:aa (λk=>k=g) w2 wf:=by rw[qz];exact(aa.refl (λk=>k=g) w2).setCell (.inl rfl) _
 have hb4:aj wf (w.heap.size+1+1) 36 #[I J 0,U none 0 0,U none 0 0,U none 0 0,U none 0 0,I J 0,I J 0,I J 0,I J 0]:=(kG.out.frm Z2.out id).frm ff (by simpa using um);rw[←qz] at sg;obtain⟨we,gq⟩:∃we,we=wf.setCells (w.heap.size+1+1) 0 [I J x.clock,U fo.1 x.fols.length fo.2,U fe.1 x.fees.length fe.2,U (some ⟨g,0,none⟩) x.itms.length rc,U se.1 x.seas.length se.2,I J x.tFol,I J x.tFee,I J x.tItm,I J x.tSea]:=⟨_,rfl⟩
 have l5:aj we (w.heap.size+1+1) 36 #[I J x.clock,U fo.1 x.fols.length fo.2,U fe.1 x.fees.length fe.2,U (some ⟨g,0,none⟩) x.itms.length rc,U se.1 x.seas.length se.2,I J x.tFol,I J x.tFee,I J x.tItm,I J x.tSea]:=by
  have:=aj.putL [I J x.clock,U fo.1 x.fols.length fo.2,U fe.1 x.fees.length fe.2,U (some ⟨g,0,none⟩) x.itms.length rc,U se.1 x.seas.length se.2,I J x.tFol,I J x.tFee,I J x.tItm,I J x.tSea] 0 hb4;rw[kK] at this;rw[gq];exact this
 have fe_:aa (λk=>k=w.heap.size+1+1) wf we:=by rw[gq];exact aa.setCells _ 0 (aa.refl _ _) (.inl rfl)
 have bK:Hid (aa ag w we):=((ul.out.trans Z2.out).next ff (λk hk=>.inr (by omega))).next fe_ (λk hk=>.inr (by omega))
 have lS:=h_ l5
 have hrow:aF we (λk=>w.heap.size≤k) 9 (some ⟨g,0,none⟩,rc) x.itms.length ((ts.flatMap io).set (p * 9+6) (.bool (n==1))):=by
  have hr3:=sg.out.far fe_ (λk hk=>by omega) (λk hk e=>by simp[Value.ownBlock] at hk;omega);exact hr3.sl
 have mG:p<ts.length:=by rw[hlen];exact hpl
 have uj:(ts[p]'mG).2=x.itms[p]:=Ey gG.out mG hpl
 have HL:Hid ((gK aR.id a (λt=>{t with read:=decide (n=1)}) x.itms)=x.itms.set p ((λt=>{t with read:=decide (n=1)}) x.itms[p])):=by
  unfold Hid;have:=@pW _ aR.id a (λt=>{t with read:=decide (n=1)}) x.itms (by rw[uS];exact hpl);simp only[uS] at this;exact this
 rw[pX bN ts p mG ((ts[p]'mG).1,((λt=>{t with read:=decide (n=1)}) (ts[p]'mG).2)) 6 (by decide) (.bool (n==1)) rfl] at hrow
 have uH:(ts.set p ((ts[p]'mG).1,((λt=>{t with read:=decide (n=1)}) (ts[p]'mG).2))).map (·.2)=(gK aR.id a (λt=>{t with read:=decide (n=1)}) x.itms):=by
  rw[List.map_set,gG.out.same,HL.out,uj]
 have d9:(gK aR.id a (λt=>{t with read:=decide (n=1)}) x.itms).length=x.itms.length:=by rw[HL.out,List.length_set]
 have hlt2:(ts.set p ((ts[p]'mG).1,((λt=>{t with read:=decide (n=1)}) (ts[p]'mG).2))).length=x.itms.length:=by rw[List.length_set,hlen]
 rw[←hlt2] at hrow
 have qW:∀q∈ts.set p ((ts[p]'mG).1,((λt=>{t with read:=decide (n=1)}) (ts[p]'mG).2)),aF we (λk=>G k∨w.heap.size≤k) 1 q.1 q.2.tags.length (q.2.tags.map Value.string):=λq hq=>by
  rcases List.mem_or_eq_of_mem_set hq with hq|rfl
  ·exact((gG.out.nix bK.out).itms.tags q hq).mono λk hk=>.inl hk
  ·exact((gG.out.nix bK.out).itms.tags _ (List.getElem_mem mG)).mono λk hk=>.inl hk
 simp only[World.setCells] at gq;rw[qz] at gq;rw[←gq];refine bodyPost_ret (iz lS.out rfl rfl) rfl ?_;exact⟨fo,fe,(some ⟨g,0,none⟩,rc),se,_,by rw[←d9];rfl,⟨(gG.out.nix bK.out).fols.mono λk hk=>.inl hk,(gG.out.nix bK.out).fees.mono λk hk=>.inl hk,⟨hrow.mono λk hk=>.inr hk,qW⟩,uH,(gG.out.nix bK.out).seas.mono λk hk=>.inl hk⟩,bK.out⟩
theorem Kn{w:World}{fo fe it se:Sl}{ts:List (Sl×aR)}{x:St}{G:Nat→Prop}(hS:aY w G fo fe it se ts x)(hsm:aP x){a b n:Int}{s t u:ByteArray}(aL:aG x ⟨9,a,b,n,s,t,u⟩=true):
  Calls pQ 14 #[cC fo fe it se x,bQ ⟨9,a,b,n,s,t,u⟩] w (rh w G (iu x ⟨9,a,b,n,s,t,u⟩) true):=by
 obtain⟨w0,hw0,hf0,hb1,hb2,hb3⟩:=gP w fo fe it se x 9 a b n s t u;have cm:=hsm.itms
 have hi:bl aR.id a x.itms=true:=by
  unfold aG at aL;simp at aL;exact aL.2
 obtain⟨p,hpl,hp,-,-,uS⟩:=cj hi;have gG:=h_ hS;have HS:=h_ (hS.nix hf0);have sB:=h_ hsm;have bT:=h_ hb1;have im:=h_ hb2;have og:=h_ hb3;have bI:=h_ hf0;have HW:=h_ hw0;have LB:=h_ aL
 have tQ:Hid (Calls pQ 30 #[cC fo fe it se x,.agg #[I J 9,I J a,I J b,I J n,V s,V t,V u]] w0 λe w'=>e=.returned (.bool true)∧aa ag w0 w'):=by
  have:=iU (hS.nix hf0) hsm ⟨9,a,b,n,s,t,u⟩;rw[aL] at this;exact this
 clear hS hsm hf0 hb1 hb2 hb3 hw0 aL;unfold cC bQ;dsimp only;rw[Qc rfl];dsimp only;obtain⟨A,c⟩:=it;dsimp only at HS gG bT HW tQ ⊢;go_enter Tryz.func14,Tryz.ntmps14;show Code.wp pQ (ai 0 (ae Tryz.f14)) _ _ _
 refine aC (k':=1) λK hK=>?_
 conv in aD _=>whnf
 go_wp2;rw[←HW.out];obtain⟨e0,e1,e2,e3,e4,e5,e6⟩:=az im.out;obtain⟨x0,x1,x2,x3,x4,x5,x6,x7,x8⟩:=aA bT.out;refine aC (k':=2) λK hK=>?_
 conv in aD _=>whnf
 go_wp2_with (go_at_call 30;refine tQ.out.mono ?_;rintro e w1 ⟨rfl,hf⟩;have Z1:=h_ hf;clear hf);clear x0 x1 x2 x3 x4 x5 x6 x7 x8 e0 e1 e2 e3 e4 e5 e6;obtain⟨e0,e1,e2,e3,e4,e5,e6⟩:=az (im.out.frm Z1.out id);obtain⟨x0,x1,x2,x3,x4,x5,x6,x7,x8⟩:=aA (bT.out.frm Z1.out id);have hlen:ts.length=x.itms.length:=gG.out.len;have hs1:=(HS.out.nix Z1.out).itms.row;obtain⟨rA,rc,wa,iJ,hrow⟩:=rf px (c:=c) hs1.rd (tH ts) (by rw[hlen];exact cm) (by omega);obtain⟨A2,c2,Ag,-,-,-,hblk⟩:=hrow.shape;injection Ag with Ke Bh hsc;subst Ke hsc;have ik:=bT.out.frm Z1.out id;have pn:=im.out.frm Z1.out id;have qA:=og.out.frm Z1.out id;have DC:=qA.lt;have fa:=hrow.frm;have Lc:wa.cell? ⟨w.heap.size,3,none⟩=_:=((ik.frm fa id).cell 3).trans rfl;have LA:=(ik.frm fa id).frozen 3;have PU:(w1.alloc (.cells #[] 82)).cell? ⟨w.heap.size,3,none⟩=some (U A x.itms.length c):=((ik.frm ((fR w1).alloc _) id).cell 3).trans rfl;have FE:=World.new_ne w1 ⟨w.heap.size,3,none⟩ x3;rw[hlen] at iJ hrow;obtain⟨wd,hwd⟩:∃wd,wd=wa.setCell ⟨w.heap.size,3,none⟩ (U rA x.itms.length rc):=⟨_,rfl⟩;have fd:aa (λk=>k=w.heap.size) wa wd:=by rw[hwd];exact(aa.refl (λk=>k=w.heap.size) wa).setCell (.inl rfl) _
 have ul:Hid (aa ag w wd):=((bI.out.trans Z1.out).trans fa).next fd (λk hk=>.inr (by omega))
 have zB:∀k,(Value.slice rA x.itms.length rc).ownBlock=some k→w1.heap.size≤k:=λk hk=>by
  rcases rA with _|ad
  ·simp[Value.ownBlock] at hk
  ·have:=(hblk ad rfl).2.2.1
   simp[Value.ownBlock] at hk;omega
 have Kf:Hid (aI 82 9 w wd (U rA x.itms.length rc) x.itms.length (ts.flatMap io)):=(hrow.since (bI.out.trans Z1.out)).far fd (λk hk=>by omega) (λk hk e=>by have:=zB k hk;omega);have qy:Hid (aj wd w.heap.size 36 #[I J x.clock,U fo.1 x.fols.length fo.2,U fe.1 x.fees.length fe.2,U rA x.itms.length rc,U se.1 x.seas.length se.2,I J x.tFol,I J x.tFee,I J x.tItm,I J x.tSea]):=by unfold Hid;rw[hwd];exact((ik.frm fa id).set_ 3 _)
 have zV:Hid (aj wd (w.heap.size+1) 42 #[I J 9,I J a,I J b,I J n,V s,V t,V u]):=(pn.frm fa id).frm fd (by simp);have kG:Hid (aj wd (w.heap.size+1+1) 36 #[I J 0,U none 0 0,U none 0 0,U none 0 0,U none 0 0,I J 0,I J 0,I J 0,I J 0]):=(qA.frm fa id).frm fd (by simp)
 have Kg:Hid (aY wd (λk=>G k∨w.heap.size≤k) fo fe (rA,rc) se ts x):=by
  have h0:=(gG.out.nix ul.out).mono (G':=λk=>G k∨w.heap.size≤k) λk hk=>.inl hk
  have h1:=hrow.sl.frm fd (λk hk e=>by omega);rw[←hlen] at h1;exact⟨h0.fols,h0.fees,⟨h1.mono λk hk=>.inr (by omega),h0.itms.tags⟩,h0.same,h0.seas⟩
 obtain⟨old,hx0⟩:∃old,(ts.flatMap io)[p * 9+7]? =some old:=⟨_,by rw[lX bN ts p (by rw[hlen];exact hpl) 7 (by decide)];rfl⟩
 have KF:Hid (Calls pQ 34 #[.agg #[I J x.clock,U fo.1 x.fols.length fo.2,U fe.1 x.fees.length fe.2,U rA x.itms.length rc,U se.1 x.seas.length se.2,I J x.tFol,I J x.tFee,I J x.tItm,I J x.tSea],I J a] wd λe w'=>e=.returned (I J p)∧aa ag wd w'):=by
  have:=my Kg.out sB.out a;rw[hp] at this;exact this
 obtain⟨z0,z1,z2,z3,z4,z5,z6,z7,z8⟩:=aA qy.out;obtain⟨d0,d1,d2,d3,d4,d5,d6⟩:=az zV.out;have Kh:=h_ hwd;rw[hwd] at z0 z1 z2 z3 z4 z5 z6 z7 z8 d0 d1 d2 d3 d4 d5 d6;have Ki:=h_ zB;have zC:=h_ DC;clear hs1 hrow hblk ik pn qA DC fa fd zB;simp only[ai,ae,Tryz.f14]
 go_wp2_with (first
  | (at_builtin;refine aq iJ rfl _ _ rfl rfl rfl ?_)
  | (go_at_call 34
     rw[←Kh.out];refine KF.out.mono ?_;rintro r w2 ⟨rfl,hf⟩;have Z2:=h_ hf;have gF:Hid (aI 82 9 w w2 (U rA x.itms.length rc) x.itms.length (ts.flatMap io)):=Kf.out.more hf;obtain⟨z0,z1,z2,z3,z4,z5,z6,z7,z8⟩:=aA (qy.out.frm hf id);obtain⟨d0,d1,d2,d3,d4,d5,d6⟩:=az (zV.out.frm hf id);obtain⟨y0,y1,y2,y3,y4,y5,y6,y7,y8⟩:=aA (kG.out.frm hf id);have g0:=(kG.out.frm hf id).frozen 0;have g1:=(kG.out.frm hf id).frozen 1;have g2:=(kG.out.frm hf id).frozen 2;have g3:=(kG.out.frm hf id).frozen 3;have g4:=(kG.out.frm hf id).frozen 4;have g5:=(kG.out.frm hf id).frozen 5;have g6:=(kG.out.frm hf id).frozen 6;have g7:=(kG.out.frm hf id).frozen 7;have g8:=(kG.out.frm hf id).frozen 8;obtain⟨g,yl,G9,PV,qB,vJ,Kj⟩:=gF.out.set_ (p * 9+7) (by omega) (.bool (n==1));rw[hx0] at G9;have hgo:w.heap.size+1+1<g:=by have h1:=Ki.out g (by rw[yl];rfl);have h2:=zC.out;omega
     have hg0:¬g=w.heap.size:=by omega
     have hg1:¬g=w.heap.size+1:=by omega
     have hg2:¬g=w.heap.size+1+1:=by omega
     have zD:¬w.heap.size=g:=by omega
     have Kk:¬w.heap.size+1=g:=by omega
     have um:¬w.heap.size+1+1=g:=by omega
     have sg:=h_ qB;obtain⟨s0,s1,s2,s3,s4,s5,s6,s7,s8⟩:=aA ((qy.out.frm hf id).far (p:=⟨g,p * 9+7,none⟩) zD (.bool (n==1)));have gj:=(kG.out.frm hf id).far (p:=⟨g,p * 9+7,none⟩) um (.bool (n==1));obtain⟨t0,t1,t2,t3,t4,t5,t6,t7,t8⟩:=aA gj;have q0:=gj.frozen 0;have q1:=gj.frozen 1;have q2:=gj.frozen 2;have q3:=gj.frozen 3;have q4:=gj.frozen 4;have q5:=gj.frozen 5;have q6:=gj.frozen 6;have q7:=gj.frozen 7;have q8:=gj.frozen 8;clear gj;subst yl;clear hf qB))
 obtain⟨wf,qz⟩:∃wf,wf=w2.setCell ⟨g,p * 9+7,none⟩ (.bool (n==1)):=⟨_,rfl⟩;have ff:aa (λk=>k=g) w2 wf:=by rw[qz];exact(aa.refl (λk=>k=g) w2).setCell (.inl rfl) _
 have hb4:aj wf (w.heap.size+1+1) 36 #[I J 0,U none 0 0,U none 0 0,U none 0 0,U none 0 0,I J 0,I J 0,I J 0,I J 0]:=(kG.out.frm Z2.out id).frm ff (by simpa using um);rw[←qz] at sg;obtain⟨we,gq⟩:∃we,we=wf.setCells (w.heap.size+1+1) 0 [I J x.clock,U fo.1 x.fols.length fo.2,U fe.1 x.fees.length fe.2,U (some ⟨g,0,none⟩) x.itms.length rc,U se.1 x.seas.length se.2,I J x.tFol,I J x.tFee,I J x.tItm,I J x.tSea]:=⟨_,rfl⟩
 have l5:aj we (w.heap.size+1+1) 36 #[I J x.clock,U fo.1 x.fols.length fo.2,U fe.1 x.fees.length fe.2,U (some ⟨g,0,none⟩) x.itms.length rc,U se.1 x.seas.length se.2,I J x.tFol,I J x.tFee,I J x.tItm,I J x.tSea]:=by
  have:=aj.putL [I J x.clock,U fo.1 x.fols.length fo.2,U fe.1 x.fees.length fe.2,U (some ⟨g,0,none⟩) x.itms.length rc,U se.1 x.seas.length se.2,I J x.tFol,I J x.tFee,I J x.tItm,I J x.tSea] 0 hb4;rw[kK] at this;rw[gq];exact this
 have fe_:aa (λk=>k=w.heap.size+1+1) wf we:=by rw[gq];exact aa.setCells _ 0 (aa.refl _ _) (.inl rfl)
 have bK:Hid (aa ag w we):=((ul.out.trans Z2.out).next ff (λk hk=>.inr (by omega))).next fe_ (λk hk=>.inr (by omega))
 have lS:=h_ l5
 have hrow:aF we (λk=>w.heap.size≤k) 9 (some ⟨g,0,none⟩,rc) x.itms.length ((ts.flatMap io).set (p * 9+7) (.bool (n==1))):=by
  have hr3:=sg.out.far fe_ (λk hk=>by omega) (λk hk e=>by simp[Value.ownBlock] at hk;omega);exact hr3.sl
 have mG:p<ts.length:=by rw[hlen];exact hpl
 have uj:(ts[p]'mG).2=x.itms[p]:=Ey gG.out mG hpl
 have HL:Hid ((gK aR.id a (λt=>{t with star:=decide (n=1)}) x.itms)=x.itms.set p ((λt=>{t with star:=decide (n=1)}) x.itms[p])):=by
  unfold Hid;have:=@pW _ aR.id a (λt=>{t with star:=decide (n=1)}) x.itms (by rw[uS];exact hpl);simp only[uS] at this;exact this
 rw[pX bN ts p mG ((ts[p]'mG).1,((λt=>{t with star:=decide (n=1)}) (ts[p]'mG).2)) 7 (by decide) (.bool (n==1)) rfl] at hrow
 have uH:(ts.set p ((ts[p]'mG).1,((λt=>{t with star:=decide (n=1)}) (ts[p]'mG).2))).map (·.2)=(gK aR.id a (λt=>{t with star:=decide (n=1)}) x.itms):=by
  rw[List.map_set,gG.out.same,HL.out,uj]
 have d9:(gK aR.id a (λt=>{t with star:=decide (n=1)}) x.itms).length=x.itms.length:=by rw[HL.out,List.length_set]
 have hlt2:(ts.set p ((ts[p]'mG).1,((λt=>{t with star:=decide (n=1)}) (ts[p]'mG).2))).length=x.itms.length:=by rw[List.length_set,hlen]
 rw[←hlt2] at hrow
 have qW:∀q∈ts.set p ((ts[p]'mG).1,((λt=>{t with star:=decide (n=1)}) (ts[p]'mG).2)),aF we (λk=>G k∨w.heap.size≤k) 1 q.1 q.2.tags.length (q.2.tags.map Value.string):=λq hq=>by
  rcases List.mem_or_eq_of_mem_set hq with hq|rfl
  ·exact((gG.out.nix bK.out).itms.tags q hq).mono λk hk=>.inl hk
  ·exact((gG.out.nix bK.out).itms.tags _ (List.getElem_mem mG)).mono λk hk=>.inl hk
 simp only[World.setCells] at gq;rw[qz] at gq;rw[←gq];refine bodyPost_ret (iz lS.out rfl rfl) rfl ?_;exact⟨fo,fe,(some ⟨g,0,none⟩,rc),se,_,by rw[←d9];rfl,⟨(gG.out.nix bK.out).fols.mono λk hk=>.inl hk,(gG.out.nix bK.out).fees.mono λk hk=>.inl hk,⟨hrow.mono λk hk=>.inr hk,qW⟩,uH,(gG.out.nix bK.out).seas.mono λk hk=>.inl hk⟩,bK.out⟩
theorem Iy{w:World}{fo fe it se:Sl}{ts:List (Sl×aR)}{x:St}{G:Nat→Prop}(hS:aY w G fo fe it se ts x)(hsm:aP x){a b n:Int}{s t u:ByteArray}(aL:aG x ⟨10,a,b,n,s,t,u⟩=true):
  Calls pQ 14 #[cC fo fe it se x,bQ ⟨10,a,b,n,s,t,u⟩] w (rh w G (iu x ⟨10,a,b,n,s,t,u⟩) true):=by
 obtain⟨w0,hw0,hf0,hb1,hb2,hb3⟩:=gP w fo fe it se x 10 a b n s t u;have cm:=hsm.itms
 have hi:bl aR.id a x.itms=true:=by
  unfold aG at aL
  cases hat:kS aR.id a x.itms with
  | none=>rw[hat] at aL;simp at aL
  | some f=>exact gp.2 ⟨f,List.mem_of_find?_eq_some hat,by simpa using List.find?_some hat⟩
 obtain⟨p,hpl,hp,-,-,uS⟩:=cj hi;have gG:=h_ hS;have HS:=h_ (hS.nix hf0);have sB:=h_ hsm;have bT:=h_ hb1;have im:=h_ hb2;have og:=h_ hb3;have bI:=h_ hf0;have HW:=h_ hw0;have LB:=h_ aL
 have tQ:Hid (Calls pQ 30 #[cC fo fe it se x,.agg #[I J 10,I J a,I J b,I J n,V s,V t,V u]] w0 λe w'=>e=.returned (.bool true)∧aa ag w0 w'):=by
  have:=iU (hS.nix hf0) hsm ⟨10,a,b,n,s,t,u⟩;rw[aL] at this;exact this
 clear hS hsm hf0 hb1 hb2 hb3 hw0 aL;unfold cC bQ;dsimp only;rw[L6 rfl];dsimp only;obtain⟨A,c⟩:=it;dsimp only at HS gG bT HW tQ ⊢;go_enter Tryz.func14,Tryz.ntmps14;show Code.wp pQ (ai 0 (ae Tryz.f14)) _ _ _
 refine aC (k':=1) λK hK=>?_
 conv in aD _=>whnf
 go_wp2;rw[←HW.out];obtain⟨e0,e1,e2,e3,e4,e5,e6⟩:=az im.out;obtain⟨x0,x1,x2,x3,x4,x5,x6,x7,x8⟩:=aA bT.out;refine aC (k':=2) λK hK=>?_
 conv in aD _=>whnf
 go_wp2_with (go_at_call 30;refine tQ.out.mono ?_;rintro e w1 ⟨rfl,hf⟩;have Z1:=h_ hf;clear hf);clear x0 x1 x2 x3 x4 x5 x6 x7 x8 e0 e1 e2 e3 e4 e5 e6;obtain⟨e0,e1,e2,e3,e4,e5,e6⟩:=az (im.out.frm Z1.out id);obtain⟨x0,x1,x2,x3,x4,x5,x6,x7,x8⟩:=aA (bT.out.frm Z1.out id);have hlen:ts.length=x.itms.length:=gG.out.len;have hs1:=(HS.out.nix Z1.out).itms.row;obtain⟨rA,rc,wa,iJ,hrow⟩:=rf px (c:=c) hs1.rd (tH ts) (by rw[hlen];exact cm) (by omega);obtain⟨A2,c2,Ag,-,-,-,hblk⟩:=hrow.shape;injection Ag with Ke Bh hsc;subst Ke hsc;have ik:=bT.out.frm Z1.out id;have pn:=im.out.frm Z1.out id;have qA:=og.out.frm Z1.out id;have DC:=qA.lt;have fa:=hrow.frm;have Lc:wa.cell? ⟨w.heap.size,3,none⟩=_:=((ik.frm fa id).cell 3).trans rfl;have LA:=(ik.frm fa id).frozen 3;have PU:(w1.alloc (.cells #[] 82)).cell? ⟨w.heap.size,3,none⟩=some (U A x.itms.length c):=((ik.frm ((fR w1).alloc _) id).cell 3).trans rfl;have FE:=World.new_ne w1 ⟨w.heap.size,3,none⟩ x3;rw[hlen] at iJ hrow;obtain⟨wd,hwd⟩:∃wd,wd=wa.setCell ⟨w.heap.size,3,none⟩ (U rA x.itms.length rc):=⟨_,rfl⟩;have fd:aa (λk=>k=w.heap.size) wa wd:=by rw[hwd];exact(aa.refl (λk=>k=w.heap.size) wa).setCell (.inl rfl) _
 have ul:Hid (aa ag w wd):=((bI.out.trans Z1.out).trans fa).next fd (λk hk=>.inr (by omega))
 have zB:∀k,(Value.slice rA x.itms.length rc).ownBlock=some k→w1.heap.size≤k:=λk hk=>by
  rcases rA with _|ad
  ·simp[Value.ownBlock] at hk
  ·have:=(hblk ad rfl).2.2.1
   simp[Value.ownBlock] at hk;omega
 obtain⟨q,mG,hq,mR,Ko⟩:∃(q:Sl×aR) (mG:p<ts.length),ts[p]'mG=q∧q.2=x.itms[p]∧aF w G 1 q.1 q.2.tags.length (q.2.tags.map Value.string):=by
  obtain⟨mG,h2⟩:=py gG.out hpl;exact⟨ts[p]'mG,mG,rfl,h2,gG.out.itms.tags _ (List.getElem_mem mG)⟩
 have xi:q.2.tags.length≤1000:=by rw[mR];exact sB.out.tags _ (List.getElem_mem hpl)
 have KT:Hid (∀W,aa ag w W→Calls pQ 35 #[U q.1.1 q.2.tags.length q.1.2,V s,.bool (n==1)] W λe w'=>∃v':Sl,e=.returned (U v'.1 (cY q.2.tags s (decide (n=1))).length v'.2)∧aF w' (λk=>W.heap.size≤k) 1 v' (cY q.2.tags s (decide (n=1))).length ((cY q.2.tags s (decide (n=1))).map Value.string)∧aa ag W w'):=λW hW=>FA q.2.tags (Ko.nix hW) xi s _
 have SC:(ts.flatMap io)[p * 9+8]? =some (U q.1.1 q.2.tags.length q.1.2):=by
  rw[lX bN ts p mG 8 (by decide),hq];rfl
 have HQ:=h_ (And.intro hq (And.intro mR Ko));clear hq mR Ko xi;have Kf:Hid (aI 82 9 w wd (U rA x.itms.length rc) x.itms.length (ts.flatMap io)):=(hrow.since (bI.out.trans Z1.out)).far fd (λk hk=>by omega) (λk hk e=>by have:=zB k hk;omega);have qy:Hid (aj wd w.heap.size 36 #[I J x.clock,U fo.1 x.fols.length fo.2,U fe.1 x.fees.length fe.2,U rA x.itms.length rc,U se.1 x.seas.length se.2,I J x.tFol,I J x.tFee,I J x.tItm,I J x.tSea]):=by unfold Hid;rw[hwd];exact((ik.frm fa id).set_ 3 _)
 have zV:Hid (aj wd (w.heap.size+1) 42 #[I J 10,I J a,I J b,I J n,V s,V t,V u]):=(pn.frm fa id).frm fd (by simp);have kG:Hid (aj wd (w.heap.size+1+1) 36 #[I J 0,U none 0 0,U none 0 0,U none 0 0,U none 0 0,I J 0,I J 0,I J 0,I J 0]):=(qA.frm fa id).frm fd (by simp)
 have Kg:Hid (aY wd (λk=>G k∨w.heap.size≤k) fo fe (rA,rc) se ts x):=by
  have h0:=(gG.out.nix ul.out).mono (G':=λk=>G k∨w.heap.size≤k) λk hk=>.inl hk
  have h1:=hrow.sl.frm fd (λk hk e=>by omega);rw[←hlen] at h1;exact⟨h0.fols,h0.fees,⟨h1.mono λk hk=>.inr (by omega),h0.itms.tags⟩,h0.same,h0.seas⟩
 obtain⟨old,hx0⟩:∃old,(ts.flatMap io)[p * 9+8]? =some old:=⟨_,by rw[lX bN ts p (by rw[hlen];exact hpl) 8 (by decide)];rfl⟩
 have KF:Hid (Calls pQ 34 #[.agg #[I J x.clock,U fo.1 x.fols.length fo.2,U fe.1 x.fees.length fe.2,U rA x.itms.length rc,U se.1 x.seas.length se.2,I J x.tFol,I J x.tFee,I J x.tItm,I J x.tSea],I J a] wd λe w'=>e=.returned (I J p)∧aa ag wd w'):=by
  have:=my Kg.out sB.out a;rw[hp] at this;exact this
 obtain⟨z0,z1,z2,z3,z4,z5,z6,z7,z8⟩:=aA qy.out;obtain⟨d0,d1,d2,d3,d4,d5,d6⟩:=az zV.out;have Kh:=h_ hwd;rw[hwd] at z0 z1 z2 z3 z4 z5 z6 z7 z8 d0 d1 d2 d3 d4 d5 d6;have Ki:=h_ zB;have zC:=h_ DC;clear hs1 hrow hblk ik pn qA DC fa fd zB;simp only[ai,ae,Tryz.f14]
 go_wp2_with (first
  | (at_builtin;refine aq iJ rfl _ _ rfl rfl rfl ?_)
  | (go_at_call 34
     rw[←Kh.out];refine KF.out.mono ?_;rintro r w2 ⟨rfl,hf⟩;have Z2:=h_ hf;have gF:Hid (aI 82 9 w w2 (U rA x.itms.length rc) x.itms.length (ts.flatMap io)):=Kf.out.more hf;obtain⟨z0,z1,z2,z3,z4,z5,z6,z7,z8⟩:=aA (qy.out.frm hf id);obtain⟨d0,d1,d2,d3,d4,d5,d6⟩:=az (zV.out.frm hf id);obtain⟨y0,y1,y2,y3,y4,y5,y6,y7,y8⟩:=aA (kG.out.frm hf id);have g0:=(kG.out.frm hf id).frozen 0;have g1:=(kG.out.frm hf id).frozen 1;have g2:=(kG.out.frm hf id).frozen 2;have g3:=(kG.out.frm hf id).frozen 3;have g4:=(kG.out.frm hf id).frozen 4;have g5:=(kG.out.frm hf id).frozen 5;have g6:=(kG.out.frm hf id).frozen 6;have g7:=(kG.out.frm hf id).frozen 7;have g8:=(kG.out.frm hf id).frozen 8;obtain⟨g,yl,G9,PV,qB,vJ,Kj⟩:=gF.out.set_ (p * 9+8) (by omega) undef;have hgo:w.heap.size+1+1<g:=by have h1:=Ki.out g (by rw[yl];rfl);have h2:=zC.out;omega
     have hg0:¬g=w.heap.size:=by omega
     have hg1:¬g=w.heap.size+1:=by omega
     have hg2:¬g=w.heap.size+1+1:=by omega
     have zD:¬w.heap.size=g:=by omega
     have Kk:¬w.heap.size+1=g:=by omega
     have um:¬w.heap.size+1+1=g:=by omega
     rw[SC] at G9;have HC:Hid (∀W,aa ag w2 W→W.cell? ⟨w.heap.size,3,none⟩=some (U rA x.itms.length rc)∧W.cell? ⟨w.heap.size+1,3,none⟩=some (I J n)∧W.cell? ⟨w.heap.size+1,4,none⟩=some (V s)):=λW hW=>⟨(hW.cell (p:=⟨w.heap.size,3,none⟩) ((qy.out.frm hf id).lt) id).trans z3,(hW.cell (p:=⟨w.heap.size+1,3,none⟩) ((zV.out.frm hf id).lt) id).trans d3,(hW.cell (p:=⟨w.heap.size+1,4,none⟩) ((zV.out.frm hf id).lt) id).trans d4⟩
     subst yl;clear hf qB))
 refine wp_region_held_drew (S:=λW=>W.cell? ⟨w.heap.size,3,none⟩=some (U (some ⟨g,0,none⟩) x.itms.length rc)∧W.cell? ⟨w.heap.size+1,3,none⟩=some (I J n)∧W.cell? ⟨w.heap.size+1,4,none⟩=some (V s)) (by kernel_rfl) (HC.out _ (fR w2).drew) λhH=>?_
 refine ww (i:=0) rfl (λ_ _ _ h=>h) hH ?_
 try simp only[lt]
 refine ww (i:=1) rfl (λ_ _ _ h=>h) hH ?_
 try simp only[lt]
 refine ww (i:=2) rfl (λ_ _ _ h=>h) hH ?_
 try simp only[lt]
 refine ww (i:=3) rfl (λ_ _ _ h=>h) hH ?_
 try simp only[lt]
 refine ww (i:=4) rfl (λ_ _ _ h=>h) hH ?_
 try simp only[lt]
 refine ww (i:=5) rfl (λ_ _ _ h=>h) hH ?_
 try simp only[lt]
 refine ww (i:=6) rfl (λ_ _ _ h=>h) hH ?_
 try simp only[lt]
 refine ww (i:=7) rfl (λ_ _ _ h=>h) hH ?_
 try simp only[lt]
 refine ww (i:=9) rfl (λ_ _ _ h=>h) hH ?_
 try simp only[lt]
 refine ww (i:=10) rfl (λ_ _ _ h=>h) hH ?_
 try simp only[lt]
 refine ww (i:=11) rfl (λ_ _ _ h=>h) hH ?_
 try simp only[lt]
 refine ww (i:=12) rfl (λ_ _ _ h=>h) hH ?_
 try simp only[lt]
 refine ww (i:=13) rfl (λ_ _ _ h=>h) hH ?_
 try simp only[lt]
 refine aw (i:=8) rfl (λK hK=>?_);go_simp;refine hK.out _ _ (HC.out _ (fR w2).drew) (λhH=>?_);clear hK K
 try simp only[lt]
 refine aw (i:=14) rfl (λK hK=>?_);go_simp;go_at_call 35;refine(KT.out _ ((ul.out.trans Z2.out).drew)).mono ?_;rintro r w3 ⟨v',rfl,hv,hf⟩;have HV:=h_ hv;have Z3:Hid (aa ag w2 w3):=(fR w2).drew.trans hf;have hg3:=(gF.out.more Z3.out).set_ (p * 9+8) (by omega) (U v'.1 (cY q.2.tags s (decide (n=1))).length v'.2);obtain⟨g',yl,Rs,Uo,qB,-,-⟩:=hg3;injection yl with yl;injection yl with yl;subst yl;rw[SC] at Rs;have sg:=h_ qB;clear hf hv qB;dsimp only;refine hK.out _ _ (HC.out _ Z3.out) (λhH=>?_);clear hK K
 try simp only[lt]
 refine ww (i:=15) rfl (λ_ _ _ h=>h) hH ?_
 try simp only[lt]
 refine ww (i:=16) rfl (λ_ _ _ h=>h) hH ?_
 try simp only[lt]
 refine aw (i:=17) rfl (λK hK=>?_);go_simp;refine hK.out _ _ (by first|exact HC.out _ Z3.out|go_keep) (λhH=>?_);clear hK K
 try simp only[lt]
 refine wpAnyH_done (by kernel_rfl) ?_ _;have qB:=sg.out;obtain⟨wf,qz⟩:∃wf,wf=w3.setCell ⟨g,p * 9+8,none⟩ (U v'.1 (cY q.2.tags s (decide (n=1))).length v'.2):=⟨_,rfl⟩;rw[←qz] at qB ⊢;have ff:aa (λk=>k=g) w3 wf:=by rw[qz];exact(aa.refl (λk=>k=g) w3).setCell (.inl rfl) _
 have hb4:aj wf (w.heap.size+1+1) 36 #[I J 0,U none 0 0,U none 0 0,U none 0 0,U none 0 0,I J 0,I J 0,I J 0,I J 0]:=(kG.out.frm (Z2.out.trans Z3.out) id).frm ff (by simpa using um);have Lr:aj wf w.heap.size 36 #[I J x.clock,U fo.1 x.fols.length fo.2,U fe.1 x.fees.length fe.2,U (some ⟨g,0,none⟩) x.itms.length rc,U se.1 x.seas.length se.2,I J x.tFol,I J x.tFee,I J x.tItm,I J x.tSea]:=(qy.out.frm (Z2.out.trans Z3.out) id).frm ff (by simpa using zD);clear qz;clear z0 z1 z2 z3 z4 z5 z6 z7 z8 y0 y1 y2 y3 y4 y5 y6 y7 y8 g0 g1 g2 g3 g4 g5 g6 g7 g8 d0 d1 d2 d3 d4 d5 d6;obtain⟨z0,z1,z2,z3,z4,z5,z6,z7,z8⟩:=aA Lr;obtain⟨y0,y1,y2,y3,y4,y5,y6,y7,y8⟩:=aA hb4;have g0:=hb4.frozen 0;have g1:=hb4.frozen 1;have g2:=hb4.frozen 2;have g3:=hb4.frozen 3;have g4:=hb4.frozen 4;have g5:=hb4.frozen 5;have g6:=hb4.frozen 6;have g7:=hb4.frozen 7;have g8:=hb4.frozen 8;go_wp2;obtain⟨we,gq⟩:∃we,we=wf.setCells (w.heap.size+1+1) 0 [I J x.clock,U fo.1 x.fols.length fo.2,U fe.1 x.fees.length fe.2,U (some ⟨g,0,none⟩) x.itms.length rc,U se.1 x.seas.length se.2,I J x.tFol,I J x.tFee,I J x.tItm,I J x.tSea]:=⟨_,rfl⟩
 have l5:aj we (w.heap.size+1+1) 36 #[I J x.clock,U fo.1 x.fols.length fo.2,U fe.1 x.fees.length fe.2,U (some ⟨g,0,none⟩) x.itms.length rc,U se.1 x.seas.length se.2,I J x.tFol,I J x.tFee,I J x.tItm,I J x.tSea]:=by
  have:=aj.putL [I J x.clock,U fo.1 x.fols.length fo.2,U fe.1 x.fees.length fe.2,U (some ⟨g,0,none⟩) x.itms.length rc,U se.1 x.seas.length se.2,I J x.tFol,I J x.tFee,I J x.tItm,I J x.tSea] 0 hb4;rw[kK] at this;rw[gq];exact this
 have fe_:aa (λk=>k=w.heap.size+1+1) wf we:=by rw[gq];exact aa.setCells _ 0 (aa.refl _ _) (.inl rfl)
 have bK:Hid (aa ag w we):=(((ul.out.trans Z2.out).trans Z3.out).next ff (λk hk=>.inr (by omega))).next fe_ (λk hk=>.inr (by omega))
 have lS:=h_ l5
 have hrow:aF we (λk=>w.heap.size≤k) 9 (some ⟨g,0,none⟩,rc) x.itms.length ((ts.flatMap io).set (p * 9+8) (U v'.1 (cY q.2.tags s (decide (n=1))).length v'.2)):=by
  have hr3:=qB.far fe_ (λk hk=>by omega) (λk hk e=>by simp[Value.ownBlock] at hk;omega);exact hr3.sl
 have HL:Hid ((gK aR.id a (λt=>{t with tags:=cY t.tags s (decide (n=1))}) x.itms)=x.itms.set p ((λt=>{t with tags:=cY t.tags s (decide (n=1))}) x.itms[p])):=by
  unfold Hid;have:=@pW _ aR.id a (λt=>{t with tags:=cY t.tags s (decide (n=1))}) x.itms (by rw[uS];exact hpl);simp only[uS] at this;exact this
 obtain⟨hq,mR,Ko⟩:=HQ.out;rw[pX bN ts p mG (v',((λt=>{t with tags:=cY t.tags s (decide (n=1))}) q.2)) 8 (by decide) _ (by rw[hq];rfl)] at hrow
 have uH:(ts.set p (v',((λt=>{t with tags:=cY t.tags s (decide (n=1))}) q.2))).map (·.2)=(gK aR.id a (λt=>{t with tags:=cY t.tags s (decide (n=1))}) x.itms):=by
  rw[List.map_set,gG.out.same,HL.out,mR]
 have d9:(gK aR.id a (λt=>{t with tags:=cY t.tags s (decide (n=1))}) x.itms).length=x.itms.length:=by rw[HL.out,List.length_set]
 have hlt2:(ts.set p (v',((λt=>{t with tags:=cY t.tags s (decide (n=1))}) q.2))).length=x.itms.length:=by rw[List.length_set,hlen]
 rw[←hlt2] at hrow;have hw2:=qy.out.lt;have Uq:=Z2.out.size
 have hV:aF we (λk=>G k∨w.heap.size≤k) 1 v' (cY q.2.tags s (decide (n=1))).length ((cY q.2.tags s (decide (n=1))).map Value.string):=by
  have h1:w2.heap.size≤w2.drew.heap.size:=(fR w2).drew.size;refine((HV.out.frm ff ?_).frm fe_ ?_).mono ?_
  ·exact λk hk e=>by subst e;first|omega|(simp at hk;omega)
  ·exact λk hk e=>by subst e;first|omega|(simp at hk;omega)
  ·exact λk hk=>.inr (by first|omega|(simp at hk;omega))
 have qW:∀q'∈ts.set p (v',((λt=>{t with tags:=cY t.tags s (decide (n=1))}) q.2)),aF we (λk=>G k∨w.heap.size≤k) 1 q'.1 q'.2.tags.length (q'.2.tags.map Value.string):=λq' hq'=>by
  rcases List.mem_or_eq_of_mem_set hq' with hq'|rfl
  ·exact((gG.out.nix bK.out).itms.tags q' hq').mono λk hk=>.inl hk
  ·exact hV
 simp only[World.setCells] at gq;rw[←gq];refine bodyPost_ret (iz lS.out rfl rfl) rfl ?_;exact⟨fo,fe,(some ⟨g,0,none⟩,rc),se,_,by rw[←d9];rfl,⟨(gG.out.nix bK.out).fols.mono λk hk=>.inl hk,(gG.out.nix bK.out).fees.mono λk hk=>.inl hk,⟨hrow.mono λk hk=>.inr hk,qW⟩,uH,(gG.out.nix bK.out).seas.mono λk hk=>.inl hk⟩,bK.out⟩
theorem DK{w:World}{fo fe it se:Sl}{ts:List (Sl×aR)}{x:St}{G:Nat→Prop}(hS:aY w G fo fe it se ts x)(hsm:aP x)(e:Ev):
  Calls pQ 14 #[cC fo fe it se x,bQ e] w (rh w G (dY x e).1 (dY x e).2):=by
 obtain⟨k,a,b,n,s,t,u⟩:=e
 cases hf:aG x ⟨k,a,b,n,s,t,u⟩ with
 | false=>
   have h1:dY x ⟨k,a,b,n,s,t,u⟩=(x,false):=by unfold dY;rw[hf];rfl
   rw[h1]
   exact FL hS hsm hf
 | true=>
   have h1:dY x ⟨k,a,b,n,s,t,u⟩=(iu x ⟨k,a,b,n,s,t,u⟩,true):=by unfold dY;rw[hf];rfl
   rw[h1];have:=vZ (cg hf);simp only at this;rcases this with h|h|h|h|h|h|h|h|h|h|h|h|h
   ·exact pz hS hsm (by omega) hf
   ·exact ri hS hsm (by omega) hf
   ·exact pz hS hsm (by omega) hf
   ·exact ri hS hsm (by omega) hf
   ·subst h;exact Kc hS hsm hf
   ·subst h;exact Kl hS hsm hf
   ·exact pz hS hsm (by omega) hf
   ·subst h;exact Km hS hsm hf
   ·subst h;exact Kn hS hsm hf
   ·subst h;exact Iy hS hsm hf
   ·exact pz hS hsm (by omega) hf
   ·exact ri hS hsm (by omega) hf
   ·subst h;exact Ix hS hsm hf
theorem FM{g:Nat}{a0 a1 a2 a3 a4 a5 a6 a7 a8:Value}(hb:aj W g 36 #[a0,a1,a2,a3,a4,a5,a6,a7,a8])(h2:tmps.getD 2 undef=O (some ⟨g,0,none⟩)):
  (results Tryz.f15 tmps).run pQ W=.ok (.agg #[a0,a1,a2,a3,a4,a5,a6,a7,a8]) W:=by
 obtain⟨c0,c1,c2,c3,c4,c5,c6,c7,c8⟩:=aA hb;have h2':tmps[2]?.getD undef=O (some ⟨g,0,none⟩):=by simpa using h2
 simp[results,Tryz.results15,h2',go_sem,c0,c1,c2,c3,c4,c5,c6,c7,c8]
theorem MV(w:World):∃w0,w0=(w.alloc (.cells #[I J 0,U none 0 0,U none 0 0,U none 0 0,U none 0 0,I J 0,I J 0,I J 0,I J 0] 36)).alloc (.cells #[I J 0,U none 0 0,U none 0 0,U none 0 0,U none 0 0,I J 0,I J 0,I J 0,I J 0] 36)∧aa ag w w0∧aj w0 w.heap.size 36 #[I J 0,U none 0 0,U none 0 0,U none 0 0,U none 0 0,I J 0,I J 0,I J 0,I J 0]∧aj w0 (w.heap.size+1) 36 #[I J 0,U none 0 0,U none 0 0,U none 0 0,U none 0 0,I J 0,I J 0,I J 0,I J 0]∧w0.heap.size=w.heap.size+2:=by
 refine⟨_,rfl,((fR w).alloc _).alloc _,(aj.new w _ _).frm ((fR _).alloc _) id,?_,by simp⟩;have:=aj.new (w.alloc (.cells #[I J 0,U none 0 0,U none 0 0,U none 0 0,U none 0 0,I J 0,I J 0,I J 0,I J 0] 36)) 36 #[I J 0,U none 0 0,U none 0 0,U none 0 0,U none 0 0,I J 0,I J 0,I J 0,I J 0]
 simpa using this
theorem uL{w:World}{v:Sl}{G:Nat→Prop}(l:List Ev)(hv:aF w G 7 v l.length (l.flatMap Ev.cells))(hn:l.length≤1000000):
  Calls pQ 15 #[U v.1 l.length v.2] w λr w'=>∃(fo fe it se:Sl) (ts:List (Sl×aR)),r=.returned (cC fo fe it se (bG iV l))∧aY w' (λk=>w.heap.size≤k) fo fe it se ts (bG iV l)∧aa ag w w':=by
 obtain⟨w0,hw0,hf0,hb1,hb2,hsz⟩:=MV w;obtain⟨A,c⟩:=v;have hv:=hv.old;have Ur:Hid (∀k,(G k∧k<w.heap.size)→k<w.heap.size):=λk h=>h.2
 have HV:=h_ hv;have HW:=h_ hw0;have bI:=h_ hf0;have bT:=h_ hb1;have im:=h_ hb2;have HZ:=h_ hsz;obtain⟨n,d9⟩:∃n,l.length=n:=⟨_,rfl⟩;have HL:=h_ d9;rw[d9] at hn;dsimp only;rw[d9];clear hv hw0 hf0 hb1 hb2 hsz d9;go_enter Tryz.func15,Tryz.ntmps15;show Code.wp pQ (ai 0 (ae Tryz.f15)) _ _ _
 refine aC (k':=1) λK hK=>?_
 conv in aD _=>whnf
 go_wp2;refine aC (k':=2) λK hK=>?_
 conv in aD _=>whnf
 go_wp2;rw[←HW.out];refine aC (k':=3) λK hK=>?_
 conv in aD _=>whnf
 go_wp2
 go_loopw [4] (λkv wr=>∃(k:Nat) (fo fe it se:Sl) (ts:List (Sl×aR)) (x:St),k≤n∧kv=I J k∧x=bG iV (l.take k)∧aj wr (w.heap.size+1) 36 #[I J x.clock,U fo.1 x.fols.length fo.2,U fe.1 x.fees.length fe.2,U it.1 x.itms.length it.2,U se.1 x.seas.length se.2,I J x.tFol,I J x.tFee,I J x.tItm,I J x.tSea]∧aY wr (λk=>w.heap.size+1<k) fo fe it se ts x∧aj wr w.heap.size 36 #[I J 0,U none 0 0,U none 0 0,U none 0 0,U none 0 0,I J 0,I J 0,I J 0,I J 0]∧aa ag w wr) (λkv _=>n-(intOf kv).toNat)
 case atStart=>exact⟨0,(none,0),(none,0),(none,0),(none,0),[],iV,by omega,rfl,rfl,im.out,aY.zero _ _,bT.out,bI.out⟩
 case round=>
  obtain⟨k,fo,fe,it,se,ts,x,hk,rfl,hx,hb,hs,hz,hf⟩:=hrel;have HX:=h_ hx;have HB:=h_ hb;have HS:=h_ hs;have Gu:=h_ hz;have HF:=h_ hf;have HP:Hid (gN x):=by rw[hx];exact sZ _ ud
  clear hx hb hs hz hf
  by_cases hlt:k<n
  ·have cQ:k<l.length:=by rw[HL.out];exact hlt
   obtain⟨b,off,hA,hgb,hbl,hcell⟩:=ui HV.out HF.out cQ;subst hA;have N9:=h_ (wK (x:=iV) cQ);obtain⟨ev,hev⟩:∃ev,l[k]=ev:=⟨_,rfl⟩;rw[hev] at hcell N9;have KA:Hid (∀W,aa ag wr W→Calls pQ 14 #[cC fo fe it se x,.agg #[I J ev.kind,I J ev.a,I J ev.b,I J ev.n,V ev.s,V ev.t,V ev.u]] W (rh W (λk=>w.heap.size+1<k) (dY x ev).1 (dY x ev).2)):=λW hW=>DK (HS.out.nix hW) HP.out.small ev
   obtain⟨x0,x1,x2,x3,x4,x5,x6,x7,x8⟩:=aA HB.out;obtain⟨c0,c1,c2,c3,c4,c5,c6⟩:=hcell ag wr id (aa.refl _ _);have Us:=HB.out.lt;have HC:Hid (∀W,aa ag wr W→(W.cell? ⟨w.heap.size+1,0,none⟩=some (I J x.clock)∧W.cell? ⟨w.heap.size+1,1,none⟩=some (U fo.1 x.fols.length fo.2)∧W.cell? ⟨w.heap.size+1,2,none⟩=some (U fe.1 x.fees.length fe.2)∧W.cell? ⟨w.heap.size+1,3,none⟩=some (U it.1 x.itms.length it.2)∧W.cell? ⟨w.heap.size+1,4,none⟩=some (U se.1 x.seas.length se.2)∧W.cell? ⟨w.heap.size+1,5,none⟩=some (I J x.tFol)∧W.cell? ⟨w.heap.size+1,6,none⟩=some (I J x.tFee)∧W.cell? ⟨w.heap.size+1,7,none⟩=some (I J x.tItm)∧W.cell? ⟨w.heap.size+1,8,none⟩=some (I J x.tSea))∧W.cell? ⟨b,off+k * 7,none⟩=some (I J ev.kind)∧W.cell? ⟨b,off+k * 7+1,none⟩=some (I J ev.a)∧W.cell? ⟨b,off+k * 7+2,none⟩=some (I J ev.b)∧W.cell? ⟨b,off+k * 7+3,none⟩=some (I J ev.n)∧W.cell? ⟨b,off+k * 7+4,none⟩=some (V ev.s)∧W.cell? ⟨b,off+k * 7+5,none⟩=some (V ev.t)∧W.cell? ⟨b,off+k * 7+6,none⟩=some (V ev.u)):=λW hW=>⟨aA (HB.out.frm hW id),hcell ag W id hW⟩
   clear hcell hev;obtain⟨y,hy⟩:∃y,(dY x ev).1=y:=⟨_,rfl⟩;obtain⟨bb,vp⟩:∃bb,(dY x ev).2=bb:=⟨_,rfl⟩;rw[hy,vp] at KA;have HY:Hid (y=bG iV (l.take (k+1))):=by unfold Hid;rw[N9.out,←HX.out,hy]
   clear hy vp;go_wp2;have Bj:¬w.heap.size+1=b:=by have:=Ur.out b hgb;omega
   have SD:¬b=w.heap.size+1:=λe=>Bj e.symm
   refine wp_region_held_drew (S:=λW=>W.cell? ⟨b,off+k * 7,none⟩=some (I J ev.kind)∧W.cell? ⟨b,off+k * 7+1,none⟩=some (I J ev.a)∧W.cell? ⟨b,off+k * 7+2,none⟩=some (I J ev.b)∧W.cell? ⟨b,off+k * 7+3,none⟩=some (I J ev.n)∧W.cell? ⟨b,off+k * 7+4,none⟩=some (V ev.s)∧W.cell? ⟨b,off+k * 7+5,none⟩=some (V ev.t)∧W.cell? ⟨b,off+k * 7+6,none⟩=some (V ev.u)) (by kernel_rfl) (HC.out _ (fR wr).drew).2 λhH=>?_
   refine ww (i:=1) rfl (λ_ _ _ h=>h) hH ?_
   try simp only[lt]
   refine ww (i:=2) rfl (λ_ _ _ h=>h) hH ?_
   try simp only[lt]
   refine ww (i:=3) rfl (λ_ _ _ h=>h) hH ?_
   try simp only[lt]
   refine ww (i:=4) rfl (λ_ _ _ h=>h) hH ?_
   try simp only[lt]
   refine aw (i:=0) rfl (λK hK=>?_);go_simp;refine hK.out _ _ (HC.out _ (fR wr).drew).2 (λhH=>?_);clear hK K
   try simp only[lt]
   refine aw (i:=5) rfl (λK hK=>?_);go_simp;go_at_call 14;refine(KA.out _ (fR _).drew).mono ?_;rintro r w1 ⟨fo',fe',it',se',ts',rfl,hs,hf⟩;have I3:=h_ hs;have Z1:Hid (aa ag wr w1):=(fR _).drew.trans hf;clear hs hf;have hb1:=HB.out.frm Z1.out id;obtain⟨y0,y1,y2,y3,y4,y5,y6,y7,y8⟩:=aA hb1;have g0:=hb1.frozen 0;have g1:=hb1.frozen 1;have g2:=hb1.frozen 2;have g3:=hb1.frozen 3;have g4:=hb1.frozen 4;have g5:=hb1.frozen 5;have g6:=hb1.frozen 6;have g7:=hb1.frozen 7;have g8:=hb1.frozen 8;unfold cC;dsimp only;refine hK.out _ _ (HC.out _ Z1.out).2 (λhH=>?_);clear hK K
   try simp only[lt]
   refine ww (i:=6) rfl (λ_ _ _ h=>h) hH ?_
   try simp only[lt]
   refine ww (i:=7) rfl (λ_ _ _ h=>h) hH ?_
   try simp only[lt]
   refine ww (i:=8) rfl (λ_ _ _ h=>h) hH ?_
   try simp only[lt]
   refine aw (i:=9) rfl (λK hK=>?_);go_simp;refine hK.out _ _ (by obtain⟨c0,c1,c2,c3,c4,c5,c6⟩:=HC.out _ Z1.out |>.2;simp[*,World.cell?_setCell_far]) (λhH=>?_);clear hK K
   try simp only[lt]
   refine wpAnyH_done (by kernel_rfl) ?_ _
   all_goals
    obtain⟨we,gq⟩:∃we,we=w1.setCells (w.heap.size+1) 0 [I J y.clock,U fo'.1 y.fols.length fo'.2,U fe'.1 y.fees.length fe'.2,U it'.1 y.itms.length it'.2,U se'.1 y.seas.length se'.2,I J y.tFol,I J y.tFee,I J y.tItm,I J y.tSea]:=⟨_,rfl⟩
    have l5:aj we (w.heap.size+1) 36 #[I J y.clock,U fo'.1 y.fols.length fo'.2,U fe'.1 y.fees.length fe'.2,U it'.1 y.itms.length it'.2,U se'.1 y.seas.length se'.2,I J y.tFol,I J y.tFee,I J y.tItm,I J y.tSea]:=by
     have:=aj.putL [I J y.clock,U fo'.1 y.fols.length fo'.2,U fe'.1 y.fees.length fe'.2,U it'.1 y.itms.length it'.2,U se'.1 y.seas.length se'.2,I J y.tFol,I J y.tFee,I J y.tItm,I J y.tSea] 0 hb1;rw[kK] at this;rw[gq];exact this
    have fe_:aa (λk=>k=w.heap.size+1) w1 we:=by rw[gq];exact aa.setCells _ 0 (aa.refl _ _) (.inl rfl)
    simp only[World.setCells] at gq;rw[←gq];have SE:aa ag w we:=(HF.out.trans Z1.out).next fe_ (λk hk=>.inr (by omega))
    have SG:aY we (λk=>w.heap.size+1<k) fo' fe' it' se' ts' y:=(I3.out.mono (G':=λk=>w.heap.size+1<k) λk hk=>by rcases hk with hk|hk;exact hk;have h1:=Us;have h2:wr.heap.size≤wr.drew.heap.size:=(fR wr).drew.size;first|omega|(simp at hk;omega)).frm fe_ λk hk e=>by omega
    have SH:aj we w.heap.size 36 #[I J 0,U none 0 0,U none 0 0,U none 0 0,U none 0 0,I J 0,I J 0,I J 0,I J 0]:=(Gu.out.frm Z1.out id).frm fe_ (by simp);have H9:=h_ (And.intro l5 (And.intro SG (And.intro SH SE)));clear gq l5 fe_ SE SG SH hb1;go_wp2;go_roundw
    case rel=>exact⟨k+1,fo',fe',it',se',ts',y,by omega,by go_num,HY.out,H9.out⟩
    case measure=>simp[intOf];omega
  ·obtain rfl:k=n:=by omega
   have za:Hid (x=bG iV l):=by unfold Hid;rw[HX.out,List.take_of_length_le (by rw[HL.out];exact Nat.le_refl _)]
   obtain⟨x0,x1,x2,x3,x4,x5,x6,x7,x8⟩:=aA HB.out;obtain⟨y0,y1,y2,y3,y4,y5,y6,y7,y8⟩:=aA Gu.out;have g0:=Gu.out.frozen 0;have g1:=Gu.out.frozen 1;have g2:=Gu.out.frozen 2;have g3:=Gu.out.frozen 3;have g4:=Gu.out.frozen 4;have g5:=Gu.out.frozen 5;have g6:=Gu.out.frozen 6;have g7:=Gu.out.frozen 7;have g8:=Gu.out.frozen 8;go_wp2;simp only[ai,ae,Tryz.f15];go_wp2;obtain⟨we,gq⟩:∃we,we=wr.setCells w.heap.size 0 [I J x.clock,U fo.1 x.fols.length fo.2,U fe.1 x.fees.length fe.2,U it.1 x.itms.length it.2,U se.1 x.seas.length se.2,I J x.tFol,I J x.tFee,I J x.tItm,I J x.tSea]:=⟨_,rfl⟩
   have l5:aj we w.heap.size 36 #[I J x.clock,U fo.1 x.fols.length fo.2,U fe.1 x.fees.length fe.2,U it.1 x.itms.length it.2,U se.1 x.seas.length se.2,I J x.tFol,I J x.tFee,I J x.tItm,I J x.tSea]:=by
    have:=aj.putL [I J x.clock,U fo.1 x.fols.length fo.2,U fe.1 x.fees.length fe.2,U it.1 x.itms.length it.2,U se.1 x.seas.length se.2,I J x.tFol,I J x.tFee,I J x.tItm,I J x.tSea] 0 Gu.out;rw[kK] at this;rw[gq];exact this
   have fe_:aa (λk=>k=w.heap.size) wr we:=by rw[gq];exact aa.setCells _ 0 (aa.refl _ _) (.inl rfl)
   have Ut:Hid (aa ag w we):=HF.out.next fe_ (λk hk=>.inr (by omega))
   have lS:=h_ l5;have Rp:Hid (aY we (λk=>w.heap.size≤k) fo fe it se ts x):=(HS.out.frm fe_ λk hk e=>by omega).mono λk hk=>by omega
   simp only[World.setCells] at gq;rw[←gq];refine bodyPost_ret (FM lS.out rfl) rfl ?_;rw[←za.out];exact⟨fo,fe,it,se,ts,rfl,Rp.out,Ut.out⟩
end Go.Proofs.YtaecjmiobllhmaaGreat
