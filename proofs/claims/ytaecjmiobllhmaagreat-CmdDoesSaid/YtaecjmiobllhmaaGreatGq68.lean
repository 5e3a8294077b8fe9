/- Words. -/
import Derived.Test.YtaecjmiobllhmaaGreatGq67
import Derived.Test.YtaecjmiobllhmaaGreatGq64
import Derived.Test.YtaecjmiobllhmaaGreatGq29
set_option linter.unusedVariables false
set_option linter.unusedSimpArgs false
set_option maxRecDepth 100000
set_option maxHeartbeats 16000000
namespace Go.Proofs.YtaecjmiobllhmaaGreat
open Go.Value renaming int→I,string→V,slice→U,pointer→O
open Go.IntKind renaming i64→J
open Tryz renaming prog→pQ
open Go.RowKit Go.Lib
variable {A:Option Addr}{W:World}{tmps:Array Value}
section
section
variable {α:Type} {g:α→Int} {id:Int}
theorem pT(f:α→α):∀(l:List α) (h:qA g id l<l.length),gM g id f l=l.set (qA g id l) (f l[qA g id l])
 | [],h=>by simp at h
 | a::l,h=>by
   by_cases ha:g a=id
   ·have e:qA g id (a::l)=0:=by simp[qA,List.findIdx_cons,ha]
    simp only[e,gM,if_pos ha];rfl
   ·have e:qA g id (a::l)=qA g id l+1:=by simp[qA,List.findIdx_cons,ha]
    have h':qA g id l<l.length:=by
     rw[e] at h
     simpa using h
    simp only[e,gM,if_neg ha];rw[List.set_cons_succ,pT f l h'];rfl
theorem pU{f:α→List Value}{s:Nat}(hs:∀a,(f a).length=s)(l:List α)(i:Nat)(hi:i<l.length)(y:α)(j:Nat)(hj:j<s)(u:Value)(hy:f y=(f l[i]).set j u):(l.flatMap f).set (i * s+j) u=(l.set i y).flatMap f:=by
 refine List.ext_getElem? λm=>?_
 have hlen:=qM hs l
 have tJ:i * s+s≤l.length * s:=by
  have h1:(i+1) * s≤l.length * s:=Nat.mul_le_mul_right _ hi
  rwa [Nat.succ_mul] at h1
 rw[wo hs y l i hi m,List.getElem?_set]
 by_cases hm:i * s+j=m
 ·subst hm
  rw[if_pos rfl,if_pos (by omega),if_pos (by omega),hy,show i * s+j-i * s=j by omega,List.getElem?_set,if_pos rfl,if_pos (by rw[hs];exact hj)]
 ·rw[if_neg hm]
  by_cases hc:i * s≤m∧m<i * s+s
  ·rw[if_pos hc,hy,List.getElem?_set,if_neg (by omega)]
   have:=l4 hs l i hi (m-i * s) (by omega);rw[show i * s+(m-i * s)=m by omega] at this;exact this
  ·rw[if_neg hc]
end
theorem qV{P:Program}{t e:TypeId}{s bytes:Nat}(E:nc P t e s bytes){w1:World}{G:Nat→Prop}{c n:Nat}{xs:List Value}
  (hr:Rd w1 G s A n xs) (h1:∀u∈xs,u.oneCell'=true) (hn:n≤100000) (hby:bytes≤1000):
  ∃rA rc wa,(∀ty,(Builtin.append_ #[t,t] ty #[U (some ⟨w1.heap.size,0,none⟩) 0 0,U A n c]).run P (w1.alloc (.cells #[] e))=.ok (U rA n rc) wa)∧aO e s w1 wa (U rA n rc) n xs:=by
 have hb1:(0+n) * bytes≤140737488355328:=by
  have:=Nat.mul_le_mul (show 0+n≤100000 by omega) hby;omega
 have r0:=aO.empty (w0:=w1) e s (fR w1);obtain⟨v1,wa,q1,r1,-,-⟩:=r0.app E c (hr.frm r0.frm λ_ _=>id) h1 (by unfold maxLen;omega) hb1;rw[Nat.zero_add,List.nil_append] at r1;obtain⟨rA,rc,rfl,-⟩:=r1.shape;exact⟨rA,rc,wa,q1,r1⟩
section
variable {w:World} {G:Nat→Prop} {v fo fe it se:Sl} {ts:List (Sl×aJ)} {x:St} {s n:Nat} {xs:List Value}
theorem Rd.old(h:Rd w G s A n xs):Rd w (λk=>G k∧k<w.heap.size) s A n xs:=
 ⟨h.1,λhn=>by
  obtain⟨a,e,h1,h2,h3⟩:=h.2 hn;exact⟨a,e,⟨h1,h2⟩,h2,h3⟩⟩
theorem aN.old(h:aN w G s v n xs):aN w (λk=>G k∧k<w.heap.size) s v n xs:=⟨h.rd.old,h.nil,h.cap,h.max⟩
theorem aM.old(h:aM w G fo fe it se ts x):aM w (λk=>G k∧k<w.heap.size) fo fe it se ts x:=⟨h.fols.old,h.fees.old,⟨h.itms.row.old,λp hp=>(h.itms.tags p hp).old⟩,h.same,h.seas.old⟩
end
end
def pV(w:World)(G:Nat→Prop)(y:St)(b:Bool)(r:Ending)(w':World):Prop:=∃(fo fe it se:Sl) (ts:List (Sl×aJ)),r=.returned (.tuple #[bE fo fe it se y,.bool b])∧aM w' (λk=>G k∨w.heap.size≤k) fo fe it se ts y∧aa ac w w'
def Fj(w:World)(G:Nat→Prop)(y:St)(r:Ending)(w':World):Prop:=∃(fo fe it se:Sl) (ts:List (Sl×aJ)),r=.returned (bE fo fe it se y)∧aM w' (λk=>G k∨w.heap.size≤k) fo fe it se ts y∧aa ac w w'
theorem Ha{w:World}{fo fe it se:Sl}{ts:List (Sl×aJ)}{x:St}{G:Nat→Prop}(hS:aM w G fo fe it se ts x)(hsm:aH x)(k a b n:Int)(s t u:ByteArray)(hk:k=1∨k=3∨k=7∨k=11):
  Calls pQ 31 #[bE fo fe it se x,dt ⟨k,a,b,n,s,t,u⟩] w (Fj w G (iB x ⟨k,a,b,n,s,t,u⟩)):=by
 rcases hk with rfl|rfl|rfl|rfl
 ·rw[Pr rfl]
  exact(Eu hS hsm).mono λr w' ⟨v,h⟩=>⟨v,_,_,_,_,h⟩
 ·rw[Ps rfl]
  exact(Ey hS hsm).mono λr w' ⟨v,h⟩=>⟨_,v,_,_,_,h⟩
 ·rw[Rh rfl]
  exact(Ez hS hsm).mono λr w' ⟨v,ts',h⟩=>⟨_,_,v,_,ts',h⟩
 ·rw[Il rfl]
  exact(Cp hS hsm).mono λr w' ⟨v,h⟩=>⟨_,_,_,v,_,h⟩
theorem Hb{w:World}{fo fe it se:Sl}{ts:List (Sl×aJ)}{x:St}{G:Nat→Prop}(hS:aM w G fo fe it se ts x)(hsm:aH x)(k a b n:Int)(s t u:ByteArray)(hk:k=2∨k=4∨k=12)(hf:av x ⟨k,a,b,n,s,t,u⟩=true):
  Calls pQ 32 #[bE fo fe it se x,dt ⟨k,a,b,n,s,t,u⟩] w (Fj w G (iB x ⟨k,a,b,n,s,t,u⟩)):=by
 rcases hk with rfl|rfl|rfl
 ·rw[Rc rfl]
  exact(Ep hS hsm (by unfold av at hf;simp at hf;exact hf.2.1)).mono λr w' ⟨v,h⟩=>⟨v,_,_,_,_,h⟩
 ·rw[Re rfl]
  exact(Es hS hsm (by unfold av at hf;simp at hf;exact hf.2)).mono λr w' ⟨v,v',ts',h⟩=>⟨_,v,v',_,ts',h⟩
 ·rw[Kt rfl]
  exact(Cn hS hsm (by unfold av at hf;simp at hf;exact hf.2)).mono λr w' ⟨v,h⟩=>⟨_,_,_,v,_,h⟩
theorem jf{g:Nat}{a0 a1 a2 a3 a4 a5 a6 a7 a8 b:Value}(hb:ai W g 36 #[a0,a1,a2,a3,a4,a5,a6,a7,a8])(h2:tmps.getD 4 undef=O (some ⟨g,0,none⟩))(h3:tmps.getD 5 undef=b):
  (results Tryz.f14 tmps).run pQ W=.ok (.tuple #[.agg #[a0,a1,a2,a3,a4,a5,a6,a7,a8],b]) W:=by
 obtain⟨c0,c1,c2,c3,c4,c5,c6,c7,c8⟩:=ak hb;have h2':tmps[4]?.getD undef=O (some ⟨g,0,none⟩):=by simpa using h2
 have IR:tmps[5]?.getD undef=b:=by simpa using h3
 simp[results,Tryz.results14,h2',IR,go_sem,c0,c1,c2,c3,c4,c5,c6,c7,c8]
theorem Hc{w:World}{fo fe it se:Sl}{ts:List (Sl×aJ)}{x:St}{G:Nat→Prop}(hS:aM w G fo fe it se ts x)(hsm:aH x){k a b n:Int}{s t u:ByteArray}(aR:av x ⟨k,a,b,n,s,t,u⟩=false):
  Calls pQ 14 #[bE fo fe it se x,dt ⟨k,a,b,n,s,t,u⟩] w (pV w G x false):=by
 obtain⟨w0,hw0,hf0,hb1,hb2,hb3⟩:=iH w fo fe it se x k a b n s t u;have iW:=h_ hS;have HS:=h_ (hS.nix hf0);have nP:=h_ hsm;have gH:=h_ hb1;have kh:=h_ hb2;have pF:=h_ hb3;have dM:=h_ hf0;have HW:=h_ hw0;have MG:=h_ aR
 have pp:Hid (Calls pQ 30 #[bE fo fe it se x,.agg #[I J k,I J a,I J b,I J n,V s,V t,V u]] w0 λe w'=>e=.returned (.bool false)∧aa ac w0 w'):=by
  have:=gJ (hS.nix hf0) hsm ⟨k,a,b,n,s,t,u⟩;rw[aR] at this;exact this
 clear hS hsm hf0 hb1 hb2 hb3 hw0 aR;unfold bE dt;dsimp only;go_enter Tryz.func14,Tryz.ntmps14;show Code.wp pQ (aj 0 (ae Tryz.f14)) _ _ _
 refine aG (k':=1) λK hK=>?_
 conv in bz _=>whnf
 go_wp2;rw[←HW.out];obtain⟨e0,e1,e2,e3,e4,e5,e6⟩:=ap kh.out;obtain⟨x0,x1,x2,x3,x4,x5,x6,x7,x8⟩:=ak gH.out;simp only[aj,ae,Tryz.f14];go_wp2_with (go_at_call 30;refine pp.out.mono ?_;rintro e w1 ⟨rfl,hf⟩;have Z1:=h_ hf;clear hf;clear x0 x1 x2 x3 x4 x5 x6 x7 x8;obtain⟨x0,x1,x2,x3,x4,x5,x6,x7,x8⟩:=ak (gH.out.frm Z1.out id);have hb4:ai w1 (w.heap.size+1+1) 36 #[I J 0,U none 0 0,U none 0 0,U none 0 0,U none 0 0,I J 0,I J 0,I J 0,I J 0]:=pF.out.frm Z1.out id;obtain⟨y0,y1,y2,y3,y4,y5,y6,y7,y8⟩:=ak hb4;have g0:=hb4.frozen 0;have g1:=hb4.frozen 1;have g2:=hb4.frozen 2;have g3:=hb4.frozen 3;have g4:=hb4.frozen 4;have g5:=hb4.frozen 5;have g6:=hb4.frozen 6;have g7:=hb4.frozen 7;have g8:=hb4.frozen 8);have hb4:ai w1 (w.heap.size+1+1) 36 #[I J 0,U none 0 0,U none 0 0,U none 0 0,U none 0 0,I J 0,I J 0,I J 0,I J 0]:=pF.out.frm Z1.out id;obtain⟨we,eB⟩:∃we,we=w1.setCells (w.heap.size+1+1) 0 [I J x.clock,U fo.1 x.fols.length fo.2,U fe.1 x.fees.length fe.2,U it.1 x.itms.length it.2,U se.1 x.seas.length se.2,I J x.tFol,I J x.tFee,I J x.tItm,I J x.tSea]:=⟨_,rfl⟩
 have eo:ai we (w.heap.size+1+1) 36 #[I J x.clock,U fo.1 x.fols.length fo.2,U fe.1 x.fees.length fe.2,U it.1 x.itms.length it.2,U se.1 x.seas.length se.2,I J x.tFol,I J x.tFee,I J x.tItm,I J x.tSea]:=by
  have:=ai.putL [I J x.clock,U fo.1 x.fols.length fo.2,U fe.1 x.fees.length fe.2,U it.1 x.itms.length it.2,U se.1 x.seas.length se.2,I J x.tFol,I J x.tFee,I J x.tItm,I J x.tSea] 0 hb4;rw[i7] at this;rw[eB];exact this
 have fe_:aa (λk=>k=w.heap.size+1+1) w1 we:=by rw[eB];exact aa.setCells _ 0 (aa.refl _ _) (.inl rfl)
 have cY:Hid (aa ac w we):=(dM.out.trans Z1.out).next fe_ (λk hk=>.inr (by omega))
 have fp:=h_ eo;simp only[World.setCells] at eB;rw[←eB];refine bodyPost_ret (jf fp.out rfl rfl) rfl ?_;exact⟨_,_,_,_,_,rfl,(iW.out.nix cY.out).mono λk hk=>.inl hk,cY.out⟩
theorem py{w:World}{fo fe it se:Sl}{ts:List (Sl×aJ)}{x:St}{G:Nat→Prop}(hS:aM w G fo fe it se ts x)(hsm:aH x){k a b n:Int}{s t u:ByteArray}(hk:k=1∨k=3∨k=7∨k=11)(aR:av x ⟨k,a,b,n,s,t,u⟩=true):
  Calls pQ 14 #[bE fo fe it se x,dt ⟨k,a,b,n,s,t,u⟩] w (pV w G (iB x ⟨k,a,b,n,s,t,u⟩) true):=by
 obtain⟨w0,hw0,hf0,hb1,hb2,hb3⟩:=iH w fo fe it se x k a b n s t u;have KM:Hid (∀W,aa ac w0 W→Calls pQ 31 #[bE fo fe it se x,.agg #[I J k,I J a,I J b,I J n,V s,V t,V u]] W (Fj W (λk=>G k∧k<w.heap.size) (iB x ⟨k,a,b,n,s,t,u⟩))):=λW hW=>Ha (hS.old.nix (hf0.trans hW)) hsm k a b n s t u hk
 have iW:=h_ hS;have HS:=h_ (hS.nix hf0);have nP:=h_ hsm;have gH:=h_ hb1;have kh:=h_ hb2;have pF:=h_ hb3;have dM:=h_ hf0;have HW:=h_ hw0;have MG:=h_ aR
 have pp:Hid (Calls pQ 30 #[bE fo fe it se x,.agg #[I J k,I J a,I J b,I J n,V s,V t,V u]] w0 λe w'=>e=.returned (.bool true)∧aa ac w0 w'):=by
  have:=gJ (hS.nix hf0) hsm ⟨k,a,b,n,s,t,u⟩;rw[aR] at this;exact this
 clear hS hsm hf0 hb1 hb2 hb3 hw0 aR;unfold bE dt;dsimp only;obtain⟨y,hy⟩:∃y,iB x ⟨k,a,b,n,s,t,u⟩=y:=⟨_,rfl⟩;rw[hy] at KM ⊢;clear hy;go_enter Tryz.func14,Tryz.ntmps14;show Code.wp pQ (aj 0 (ae Tryz.f14)) _ _ _
 refine aG (k':=1) λK hK=>?_
 conv in bz _=>whnf
 go_wp2;rw[←HW.out];obtain⟨e0,e1,e2,e3,e4,e5,e6⟩:=ap kh.out;obtain⟨x0,x1,x2,x3,x4,x5,x6,x7,x8⟩:=ak gH.out;refine aG (k':=2) λK hK=>?_
 conv in bz _=>whnf
 go_wp2_with (go_at_call 30;refine pp.out.mono ?_;rintro e w1 ⟨rfl,hf⟩;have Z1:=h_ hf;clear hf);clear x0 x1 x2 x3 x4 x5 x6 x7 x8 e0 e1 e2 e3 e4 e5 e6;obtain⟨e0,e1,e2,e3,e4,e5,e6⟩:=ap (kh.out.frm Z1.out id);obtain⟨x0,x1,x2,x3,x4,x5,x6,x7,x8⟩:=ak (gH.out.frm Z1.out id);simp only[aj,ae,Tryz.f14];rcases hk with rfl|rfl|rfl|rfl
 all_goals
  go_wp2_with (go_at_call 31;refine(KM.out _ Z1.out).mono ?_;rintro r w2 ⟨fo',fe',it',se',ts',rfl,hs,hf⟩;have HY:=h_ hs;have Z2:=h_ hf;clear hs hf;have hb4:ai w2 (w.heap.size+1+1) 36 #[I J 0,U none 0 0,U none 0 0,U none 0 0,U none 0 0,I J 0,I J 0,I J 0,I J 0]:=pF.out.frm (Z1.out.trans Z2.out) id;obtain⟨y0,y1,y2,y3,y4,y5,y6,y7,y8⟩:=ak hb4;have g0:=hb4.frozen 0;have g1:=hb4.frozen 1;have g2:=hb4.frozen 2;have g3:=hb4.frozen 3;have g4:=hb4.frozen 4;have g5:=hb4.frozen 5;have g6:=hb4.frozen 6;have g7:=hb4.frozen 7;have g8:=hb4.frozen 8;unfold bE);have hb4:ai w2 (w.heap.size+1+1) 36 #[I J 0,U none 0 0,U none 0 0,U none 0 0,U none 0 0,I J 0,I J 0,I J 0,I J 0]:=pF.out.frm (Z1.out.trans Z2.out) id;obtain⟨we,eB⟩:∃we,we=w2.setCells (w.heap.size+1+1) 0 [I J y.clock,U fo'.1 y.fols.length fo'.2,U fe'.1 y.fees.length fe'.2,U it'.1 y.itms.length it'.2,U se'.1 y.seas.length se'.2,I J y.tFol,I J y.tFee,I J y.tItm,I J y.tSea]:=⟨_,rfl⟩
  have eo:ai we (w.heap.size+1+1) 36 #[I J y.clock,U fo'.1 y.fols.length fo'.2,U fe'.1 y.fees.length fe'.2,U it'.1 y.itms.length it'.2,U se'.1 y.seas.length se'.2,I J y.tFol,I J y.tFee,I J y.tItm,I J y.tSea]:=by
   have:=ai.putL [I J y.clock,U fo'.1 y.fols.length fo'.2,U fe'.1 y.fees.length fe'.2,U it'.1 y.itms.length it'.2,U se'.1 y.seas.length se'.2,I J y.tFol,I J y.tFee,I J y.tItm,I J y.tSea] 0 hb4;rw[i7] at this;rw[eB];exact this
  have fe_:aa (λk=>k=w.heap.size+1+1) w2 we:=by rw[eB];exact aa.setCells _ 0 (aa.refl _ _) (.inl rfl)
  have cY:Hid (aa ac w we):=((dM.out.trans Z1.out).trans Z2.out).next fe_ (λk hk=>.inr (by omega))
  have fp:=h_ eo
  have T8:Hid (aM we (λk=>G k∨w.heap.size≤k) fo' fe' it' se' ts' y):=by
   have h1:=(dM.out.trans Z1.out).size;have h2:=pF.out.frm Z1.out id |>.lt
   refine(HY.out.frm fe_ ?_).mono ?_
   ·exact λk hk e=>by rcases hk with ⟨-,hk⟩|hk<;>omega
   ·exact λk hk=>hk.elim (λh=>.inl h.1) λh=>.inr (by omega)
  simp only[World.setCells] at eB;rw[←eB];refine bodyPost_ret (jf fp.out rfl rfl) rfl ?_;exact⟨_,_,_,_,_,rfl,T8.out,cY.out⟩
theorem qW{w:World}{fo fe it se:Sl}{ts:List (Sl×aJ)}{x:St}{G:Nat→Prop}(hS:aM w G fo fe it se ts x)(hsm:aH x){k a b n:Int}{s t u:ByteArray}(hk:k=2∨k=4∨k=12)(aR:av x ⟨k,a,b,n,s,t,u⟩=true):
  Calls pQ 14 #[bE fo fe it se x,dt ⟨k,a,b,n,s,t,u⟩] w (pV w G (iB x ⟨k,a,b,n,s,t,u⟩) true):=by
 obtain⟨w0,hw0,hf0,hb1,hb2,hb3⟩:=iH w fo fe it se x k a b n s t u;have KM:Hid (∀W,aa ac w0 W→Calls pQ 32 #[bE fo fe it se x,.agg #[I J k,I J a,I J b,I J n,V s,V t,V u]] W (Fj W (λk=>G k∧k<w.heap.size) (iB x ⟨k,a,b,n,s,t,u⟩))):=λW hW=>Hb (hS.old.nix (hf0.trans hW)) hsm k a b n s t u hk aR
 have iW:=h_ hS;have HS:=h_ (hS.nix hf0);have nP:=h_ hsm;have gH:=h_ hb1;have kh:=h_ hb2;have pF:=h_ hb3;have dM:=h_ hf0;have HW:=h_ hw0;have MG:=h_ aR
 have pp:Hid (Calls pQ 30 #[bE fo fe it se x,.agg #[I J k,I J a,I J b,I J n,V s,V t,V u]] w0 λe w'=>e=.returned (.bool true)∧aa ac w0 w'):=by
  have:=gJ (hS.nix hf0) hsm ⟨k,a,b,n,s,t,u⟩;rw[aR] at this;exact this
 clear hS hsm hf0 hb1 hb2 hb3 hw0 aR;unfold bE dt;dsimp only;obtain⟨y,hy⟩:∃y,iB x ⟨k,a,b,n,s,t,u⟩=y:=⟨_,rfl⟩;rw[hy] at KM ⊢;clear hy;go_enter Tryz.func14,Tryz.ntmps14;show Code.wp pQ (aj 0 (ae Tryz.f14)) _ _ _
 refine aG (k':=1) λK hK=>?_
 conv in bz _=>whnf
 go_wp2;rw[←HW.out];obtain⟨e0,e1,e2,e3,e4,e5,e6⟩:=ap kh.out;obtain⟨x0,x1,x2,x3,x4,x5,x6,x7,x8⟩:=ak gH.out;refine aG (k':=2) λK hK=>?_
 conv in bz _=>whnf
 go_wp2_with (go_at_call 30;refine pp.out.mono ?_;rintro e w1 ⟨rfl,hf⟩;have Z1:=h_ hf;clear hf);clear x0 x1 x2 x3 x4 x5 x6 x7 x8 e0 e1 e2 e3 e4 e5 e6;obtain⟨e0,e1,e2,e3,e4,e5,e6⟩:=ap (kh.out.frm Z1.out id);obtain⟨x0,x1,x2,x3,x4,x5,x6,x7,x8⟩:=ak (gH.out.frm Z1.out id);simp only[aj,ae,Tryz.f14];rcases hk with rfl|rfl|rfl
 all_goals
  go_wp2_with (go_at_call 32;refine(KM.out _ Z1.out).mono ?_;rintro r w2 ⟨fo',fe',it',se',ts',rfl,hs,hf⟩;have HY:=h_ hs;have Z2:=h_ hf;clear hs hf;have hb4:ai w2 (w.heap.size+1+1) 36 #[I J 0,U none 0 0,U none 0 0,U none 0 0,U none 0 0,I J 0,I J 0,I J 0,I J 0]:=pF.out.frm (Z1.out.trans Z2.out) id;obtain⟨y0,y1,y2,y3,y4,y5,y6,y7,y8⟩:=ak hb4;have g0:=hb4.frozen 0;have g1:=hb4.frozen 1;have g2:=hb4.frozen 2;have g3:=hb4.frozen 3;have g4:=hb4.frozen 4;have g5:=hb4.frozen 5;have g6:=hb4.frozen 6;have g7:=hb4.frozen 7;have g8:=hb4.frozen 8;unfold bE);have hb4:ai w2 (w.heap.size+1+1) 36 #[I J 0,U none 0 0,U none 0 0,U none 0 0,U none 0 0,I J 0,I J 0,I J 0,I J 0]:=pF.out.frm (Z1.out.trans Z2.out) id;obtain⟨we,eB⟩:∃we,we=w2.setCells (w.heap.size+1+1) 0 [I J y.clock,U fo'.1 y.fols.length fo'.2,U fe'.1 y.fees.length fe'.2,U it'.1 y.itms.length it'.2,U se'.1 y.seas.length se'.2,I J y.tFol,I J y.tFee,I J y.tItm,I J y.tSea]:=⟨_,rfl⟩
  have eo:ai we (w.heap.size+1+1) 36 #[I J y.clock,U fo'.1 y.fols.length fo'.2,U fe'.1 y.fees.length fe'.2,U it'.1 y.itms.length it'.2,U se'.1 y.seas.length se'.2,I J y.tFol,I J y.tFee,I J y.tItm,I J y.tSea]:=by
   have:=ai.putL [I J y.clock,U fo'.1 y.fols.length fo'.2,U fe'.1 y.fees.length fe'.2,U it'.1 y.itms.length it'.2,U se'.1 y.seas.length se'.2,I J y.tFol,I J y.tFee,I J y.tItm,I J y.tSea] 0 hb4;rw[i7] at this;rw[eB];exact this
  have fe_:aa (λk=>k=w.heap.size+1+1) w2 we:=by rw[eB];exact aa.setCells _ 0 (aa.refl _ _) (.inl rfl)
  have cY:Hid (aa ac w we):=((dM.out.trans Z1.out).trans Z2.out).next fe_ (λk hk=>.inr (by omega))
  have fp:=h_ eo
  have T8:Hid (aM we (λk=>G k∨w.heap.size≤k) fo' fe' it' se' ts' y):=by
   have h1:=(dM.out.trans Z1.out).size;have h2:=pF.out.frm Z1.out id |>.lt
   refine(HY.out.frm fe_ ?_).mono ?_
   ·exact λk hk e=>by rcases hk with ⟨-,hk⟩|hk<;>omega
   ·exact λk hk=>hk.elim (λh=>.inl h.1) λh=>.inr (by omega)
  simp only[World.setCells] at eB;rw[←eB];refine bodyPost_ret (jf fp.out rfl rfl) rfl ?_;exact⟨_,_,_,_,_,rfl,T8.out,cY.out⟩
theorem JH{w:World}{fo fe it se:Sl}{ts:List (Sl×aJ)}{x:St}{G:Nat→Prop}(hS:aM w G fo fe it se ts x)(hsm:aH x){a b n:Int}{s t u:ByteArray}(aR:av x ⟨13,a,b,n,s,t,u⟩=true):
  Calls pQ 14 #[bE fo fe it se x,dt ⟨13,a,b,n,s,t,u⟩] w (pV w G (iB x ⟨13,a,b,n,s,t,u⟩) true):=by
 obtain⟨w0,hw0,hf0,hb1,hb2,hb3⟩:=iH w fo fe it se x 13 a b n s t u;have iW:=h_ hS;have HS:=h_ (hS.nix hf0);have nP:=h_ hsm;have gH:=h_ hb1;have kh:=h_ hb2;have pF:=h_ hb3;have dM:=h_ hf0;have HW:=h_ hw0;have MG:=h_ aR
 have pp:Hid (Calls pQ 30 #[bE fo fe it se x,.agg #[I J 13,I J a,I J b,I J n,V s,V t,V u]] w0 λe w'=>e=.returned (.bool true)∧aa ac w0 w'):=by
  have:=gJ (hS.nix hf0) hsm ⟨13,a,b,n,s,t,u⟩;rw[aR] at this;exact this
 clear hS hsm hf0 hb1 hb2 hb3 hw0 aR;unfold bE dt;dsimp only;go_enter Tryz.func14,Tryz.ntmps14;show Code.wp pQ (aj 0 (ae Tryz.f14)) _ _ _
 refine aG (k':=1) λK hK=>?_
 conv in bz _=>whnf
 go_wp2;rw[←HW.out];obtain⟨e0,e1,e2,e3,e4,e5,e6⟩:=ap kh.out;obtain⟨x0,x1,x2,x3,x4,x5,x6,x7,x8⟩:=ak gH.out;refine aG (k':=2) λK hK=>?_
 conv in bz _=>whnf
 go_wp2_with (go_at_call 30;refine pp.out.mono ?_;rintro e w1 ⟨rfl,hf⟩;have Z1:=h_ hf;clear hf);clear x0 x1 x2 x3 x4 x5 x6 x7 x8 e0 e1 e2 e3 e4 e5 e6;obtain⟨e0,e1,e2,e3,e4,e5,e6⟩:=ap (kh.out.frm Z1.out id);obtain⟨x0,x1,x2,x3,x4,x5,x6,x7,x8⟩:=ak (gH.out.frm Z1.out id);simp only[aj,ae,Tryz.f14];have gz:=(gH.out.frm Z1.out id).frozen 0;obtain⟨wd,hwd⟩:∃wd,wd=w1.setCell ⟨w.heap.size,0,none⟩ (I J n):=⟨_,rfl⟩;have sB:ai wd w.heap.size 36 #[I J n,U fo.1 x.fols.length fo.2,U fe.1 x.fees.length fe.2,U it.1 x.itms.length it.2,U se.1 x.seas.length se.2,I J x.tFol,I J x.tFee,I J x.tItm,I J x.tSea]:=by rw[hwd];exact((gH.out.frm Z1.out id).set_ 0 _)
 have fd:aa (λk=>k=w.heap.size) w1 wd:=by rw[hwd];exact(aa.refl (λk=>k=w.heap.size) w1).setCell (.inl rfl) _
 obtain⟨z0,z1,z2,z3,z4,z5,z6,z7,z8⟩:=ak sB;have hb4:ai wd (w.heap.size+1+1) 36 #[I J 0,U none 0 0,U none 0 0,U none 0 0,U none 0 0,I J 0,I J 0,I J 0,I J 0]:=(pF.out.frm Z1.out id).frm fd (by simp);obtain⟨y0,y1,y2,y3,y4,y5,y6,y7,y8⟩:=ak hb4;have g0:=hb4.frozen 0;have g1:=hb4.frozen 1;have g2:=hb4.frozen 2;have g3:=hb4.frozen 3;have g4:=hb4.frozen 4;have g5:=hb4.frozen 5;have g6:=hb4.frozen 6;have g7:=hb4.frozen 7;have g8:=hb4.frozen 8;rw[hwd] at z0 z1 z2 z3 z4 z5 z6 z7 z8 y0 y1 y2 y3 y4 y5 y6 y7 y8 g0 g1 g2 g3 g4 g5 g6 g7 g8;go_wp2;rw[←hwd];obtain⟨we,eB⟩:∃we,we=wd.setCells (w.heap.size+1+1) 0 [I J n,U fo.1 x.fols.length fo.2,U fe.1 x.fees.length fe.2,U it.1 x.itms.length it.2,U se.1 x.seas.length se.2,I J x.tFol,I J x.tFee,I J x.tItm,I J x.tSea]:=⟨_,rfl⟩
 have eo:ai we (w.heap.size+1+1) 36 #[I J n,U fo.1 x.fols.length fo.2,U fe.1 x.fees.length fe.2,U it.1 x.itms.length it.2,U se.1 x.seas.length se.2,I J x.tFol,I J x.tFee,I J x.tItm,I J x.tSea]:=by
  have:=ai.putL [I J n,U fo.1 x.fols.length fo.2,U fe.1 x.fees.length fe.2,U it.1 x.itms.length it.2,U se.1 x.seas.length se.2,I J x.tFol,I J x.tFee,I J x.tItm,I J x.tSea] 0 hb4;rw[i7] at this;rw[eB];exact this
 have fe_:aa (λk=>k=w.heap.size+1+1) wd we:=by rw[eB];exact aa.setCells _ 0 (aa.refl _ _) (.inl rfl)
 have cY:Hid (aa ac w we):=((dM.out.trans Z1.out).next fd (λk hk=>.inr (by omega))).next fe_ (λk hk=>.inr (by omega))
 have fp:=h_ eo;simp only[World.setCells] at eB;rw[←eB];refine bodyPost_ret (jf fp.out rfl rfl) rfl ?_;exact⟨_,_,_,_,_,rfl,⟨(iW.out.nix cY.out).fols.mono λk hk=>.inl hk,(iW.out.nix cY.out).fees.mono λk hk=>.inl hk,(iW.out.nix cY.out).itms.mono λk hk=>.inl hk,iW.out.same,(iW.out.nix cY.out).seas.mono λk hk=>.inl hk⟩,cY.out⟩
theorem LM{w:World}{fo fe it se:Sl}{ts:List (Sl×aJ)}{x:St}{G:Nat→Prop}(hS:aM w G fo fe it se ts x)(hsm:aH x){a b n:Int}{s t u:ByteArray}(aR:av x ⟨5,a,b,n,s,t,u⟩=true):
  Calls pQ 14 #[bE fo fe it se x,dt ⟨5,a,b,n,s,t,u⟩] w (pV w G (iB x ⟨5,a,b,n,s,t,u⟩) true):=by
 obtain⟨w0,hw0,hf0,hb1,hb2,hb3⟩:=iH w fo fe it se x 5 a b n s t u;have ew:=hsm.fees
 have hi:aS aP.id a x.fees=true:=by
  unfold av at aR;simp at aR;exact aR.2
 obtain⟨p,hpl,hp,-,-,uR⟩:=dh hi;have iW:=h_ hS;have HS:=h_ (hS.nix hf0);have nP:=h_ hsm;have gH:=h_ hb1;have kh:=h_ hb2;have pF:=h_ hb3;have dM:=h_ hf0;have HW:=h_ hw0;have MG:=h_ aR
 have pp:Hid (Calls pQ 30 #[bE fo fe it se x,.agg #[I J 5,I J a,I J b,I J n,V s,V t,V u]] w0 λe w'=>e=.returned (.bool true)∧aa ac w0 w'):=by
  have:=gJ (hS.nix hf0) hsm ⟨5,a,b,n,s,t,u⟩;rw[aR] at this;exact this
 clear hS hsm hf0 hb1 hb2 hb3 hw0 aR;unfold bE dt;dsimp only;rw[Rf rfl];dsimp only;obtain⟨A,c⟩:=fe;dsimp only at HS iW gH HW pp ⊢;go_enter Tryz.func14,Tryz.ntmps14;show Code.wp pQ (aj 0 (ae Tryz.f14)) _ _ _
 refine aG (k':=1) λK hK=>?_
 conv in bz _=>whnf
 go_wp2;rw[←HW.out];obtain⟨e0,e1,e2,e3,e4,e5,e6⟩:=ap kh.out;obtain⟨x0,x1,x2,x3,x4,x5,x6,x7,x8⟩:=ak gH.out;refine aG (k':=2) λK hK=>?_
 conv in bz _=>whnf
 go_wp2_with (go_at_call 30;refine pp.out.mono ?_;rintro e w1 ⟨rfl,hf⟩;have Z1:=h_ hf;clear hf);clear x0 x1 x2 x3 x4 x5 x6 x7 x8 e0 e1 e2 e3 e4 e5 e6;obtain⟨e0,e1,e2,e3,e4,e5,e6⟩:=ap (kh.out.frm Z1.out id);obtain⟨x0,x1,x2,x3,x4,x5,x6,x7,x8⟩:=ak (gH.out.frm Z1.out id);have hs1:=(HS.out.nix Z1.out).fees;obtain⟨rA,rc,wa,jq,hrow⟩:=qV ql (c:=c) hs1.rd (tE x.fees) (by exact ew) (by omega);obtain⟨A2,c2,yH,-,-,-,hblk⟩:=hrow.shape;injection yH with LN IE hsc;subst LN hsc;have iX:=gH.out.frm Z1.out id;have pd:=kh.out.frm Z1.out id;have qr:=pF.out.frm Z1.out id;have Et:=qr.lt;have fa:=hrow.frm;have FE:wa.cell? ⟨w.heap.size,2,none⟩=_:=((iX.frm fa id).cell 2).trans rfl;have J4:=(iX.frm fa id).frozen 2;have RJ:(w1.alloc (.cells #[] 64)).cell? ⟨w.heap.size,2,none⟩=some (U A x.fees.length c):=((iX.frm ((fR w1).alloc _) id).cell 2).trans rfl;have MF:=World.new_ne w1 ⟨w.heap.size,2,none⟩ x2;skip;obtain⟨wd,hwd⟩:∃wd,wd=wa.setCell ⟨w.heap.size,2,none⟩ (U rA x.fees.length rc):=⟨_,rfl⟩;have fd:aa (λk=>k=w.heap.size) wa wd:=by rw[hwd];exact(aa.refl (λk=>k=w.heap.size) wa).setCell (.inl rfl) _
 have uq:Hid (aa ac w wd):=((dM.out.trans Z1.out).trans fa).next fd (λk hk=>.inr (by omega))
 have zL:∀k,(Value.slice rA x.fees.length rc).ownBlock=some k→w1.heap.size≤k:=λk hk=>by
  rcases rA with _|ad
  ·simp[Value.ownBlock] at hk
  ·have:=(hblk ad rfl).2.2.1
   simp[Value.ownBlock] at hk;omega
 have pq:Hid (aO 64 4 w wd (U rA x.fees.length rc) x.fees.length (x.fees.flatMap aP.cells)):=(hrow.since (dM.out.trans Z1.out)).far fd (λk hk=>by omega) (λk hk e=>by have:=zL k hk;omega);have qU:Hid (ai wd w.heap.size 36 #[I J x.clock,U fo.1 x.fols.length fo.2,U rA x.fees.length rc,U it.1 x.itms.length it.2,U se.1 x.seas.length se.2,I J x.tFol,I J x.tFee,I J x.tItm,I J x.tSea]):=by unfold Hid;rw[hwd];exact((iX.frm fa id).set_ 2 _)
 have zW:Hid (ai wd (w.heap.size+1) 42 #[I J 5,I J a,I J b,I J n,V s,V t,V u]):=(pd.frm fa id).frm fd (by simp);have kJ:Hid (ai wd (w.heap.size+1+1) 36 #[I J 0,U none 0 0,U none 0 0,U none 0 0,U none 0 0,I J 0,I J 0,I J 0,I J 0]):=(qr.frm fa id).frm fd (by simp)
 have LO:Hid (aM wd (λk=>G k∨w.heap.size≤k) fo (rA,rc) it se ts x):=by
  have h0:=(iW.out.nix uq.out).mono (G':=λk=>G k∨w.heap.size≤k) λk hk=>.inl hk
  have h1:=hrow.sl.frm fd (λk hk e=>by omega);exact⟨h0.fols,h1.mono λk hk=>.inr (by omega),h0.itms,h0.same,h0.seas⟩
 obtain⟨old,hx0⟩:∃old,(x.fees.flatMap aP.cells)[p * 4+3]? =some old:=⟨_,by rw[l4 aP.clen x.fees p hpl 3 (by decide)];rfl⟩
 have KF:Hid (Calls pQ 33 #[.agg #[I J x.clock,U fo.1 x.fols.length fo.2,U rA x.fees.length rc,U it.1 x.itms.length it.2,U se.1 x.seas.length se.2,I J x.tFol,I J x.tFee,I J x.tItm,I J x.tSea],I J a] wd λe w'=>e=.returned (I J p)∧aa ac wd w'):=by
  have:=gi LO.out nP.out a;rw[hp] at this;exact this
 obtain⟨z0,z1,z2,z3,z4,z5,z6,z7,z8⟩:=ak qU.out;obtain⟨d0,d1,d2,d3,d4,d5,d6⟩:=ap zW.out;have LP:=h_ hwd;rw[hwd] at z0 z1 z2 z3 z4 z5 z6 z7 z8 d0 d1 d2 d3 d4 d5 d6;have LQ:=h_ zL;have zM:=h_ Et;clear hs1 hrow hblk iX pd qr Et fa fd zL;simp only[aj,ae,Tryz.f14]
 go_wp2_with (first
  | (at_builtin;refine aq jq rfl _ _ rfl rfl rfl ?_)
  | (go_at_call 33
     rw[←LP.out];refine KF.out.mono ?_;rintro r w2 ⟨rfl,hf⟩;have Z2:=h_ hf;have gI:Hid (aO 64 4 w w2 (U rA x.fees.length rc) x.fees.length (x.fees.flatMap aP.cells)):=pq.out.more hf;obtain⟨z0,z1,z2,z3,z4,z5,z6,z7,z8⟩:=ak (qU.out.frm hf id);obtain⟨d0,d1,d2,d3,d4,d5,d6⟩:=ap (zW.out.frm hf id);obtain⟨y0,y1,y2,y3,y4,y5,y6,y7,y8⟩:=ak (kJ.out.frm hf id);have g0:=(kJ.out.frm hf id).frozen 0;have g1:=(kJ.out.frm hf id).frozen 1;have g2:=(kJ.out.frm hf id).frozen 2;have g3:=(kJ.out.frm hf id).frozen 3;have g4:=(kJ.out.frm hf id).frozen 4;have g5:=(kJ.out.frm hf id).frozen 5;have g6:=(kJ.out.frm hf id).frozen 6;have g7:=(kJ.out.frm hf id).frozen 7;have g8:=(kJ.out.frm hf id).frozen 8;obtain⟨g,yE,Ir,RL,qs,xS,LR⟩:=gI.out.set_ (p * 4+3) (by omega) (V t);rw[hx0] at Ir;have hgo:w.heap.size+1+1<g:=by have h1:=LQ.out g (by rw[yE];rfl);have h2:=zM.out;omega
     have hg0:¬g=w.heap.size:=by omega
     have hg1:¬g=w.heap.size+1:=by omega
     have hg2:¬g=w.heap.size+1+1:=by omega
     have zN:¬w.heap.size=g:=by omega
     have LS:¬w.heap.size+1=g:=by omega
     have ut:¬w.heap.size+1+1=g:=by omega
     have rQ:=h_ qs;obtain⟨s0,s1,s2,s3,s4,s5,s6,s7,s8⟩:=ak ((qU.out.frm hf id).far (p:=⟨g,p * 4+3,none⟩) zN (V t));have gB:=(kJ.out.frm hf id).far (p:=⟨g,p * 4+3,none⟩) ut (V t);obtain⟨t0,t1,t2,t3,t4,t5,t6,t7,t8⟩:=ak gB;have q0:=gB.frozen 0;have q1:=gB.frozen 1;have q2:=gB.frozen 2;have q3:=gB.frozen 3;have q4:=gB.frozen 4;have q5:=gB.frozen 5;have q6:=gB.frozen 6;have q7:=gB.frozen 7;have q8:=gB.frozen 8;clear gB;subst yE;clear hf qs))
 obtain⟨wf,qq⟩:∃wf,wf=w2.setCell ⟨g,p * 4+3,none⟩ (V t):=⟨_,rfl⟩;have ff:aa (λk=>k=g) w2 wf:=by rw[qq];exact(aa.refl (λk=>k=g) w2).setCell (.inl rfl) _
 have hb4:ai wf (w.heap.size+1+1) 36 #[I J 0,U none 0 0,U none 0 0,U none 0 0,U none 0 0,I J 0,I J 0,I J 0,I J 0]:=(kJ.out.frm Z2.out id).frm ff (by simpa using ut);rw[←qq] at rQ;obtain⟨we,eB⟩:∃we,we=wf.setCells (w.heap.size+1+1) 0 [I J x.clock,U fo.1 x.fols.length fo.2,U (some ⟨g,0,none⟩) x.fees.length rc,U it.1 x.itms.length it.2,U se.1 x.seas.length se.2,I J x.tFol,I J x.tFee,I J x.tItm,I J x.tSea]:=⟨_,rfl⟩
 have eo:ai we (w.heap.size+1+1) 36 #[I J x.clock,U fo.1 x.fols.length fo.2,U (some ⟨g,0,none⟩) x.fees.length rc,U it.1 x.itms.length it.2,U se.1 x.seas.length se.2,I J x.tFol,I J x.tFee,I J x.tItm,I J x.tSea]:=by
  have:=ai.putL [I J x.clock,U fo.1 x.fols.length fo.2,U (some ⟨g,0,none⟩) x.fees.length rc,U it.1 x.itms.length it.2,U se.1 x.seas.length se.2,I J x.tFol,I J x.tFee,I J x.tItm,I J x.tSea] 0 hb4;rw[i7] at this;rw[eB];exact this
 have fe_:aa (λk=>k=w.heap.size+1+1) wf we:=by rw[eB];exact aa.setCells _ 0 (aa.refl _ _) (.inl rfl)
 have cY:Hid (aa ac w we):=((uq.out.trans Z2.out).next ff (λk hk=>.inr (by omega))).next fe_ (λk hk=>.inr (by omega))
 have fp:=h_ eo
 have hrow:aN we (λk=>w.heap.size≤k) 4 (some ⟨g,0,none⟩,rc) x.fees.length ((x.fees.flatMap aP.cells).set (p * 4+3) (V t)):=by
  have hr3:=rQ.out.far fe_ (λk hk=>by omega) (λk hk e=>by simp[Value.ownBlock] at hk;omega);exact hr3.sl
 have HL:Hid ((gM aP.id a (λf=>{f with title:=t}) x.fees)=x.fees.set p ((λf=>{f with title:=t}) x.fees[p])):=by
  unfold Hid;have:=@pT _ aP.id a (λf=>{f with title:=t}) x.fees (by rw[uR];exact hpl);simp only[uR] at this;exact this
 rw[pU aP.clen x.fees p hpl ((λf=>{f with title:=t}) x.fees[p]) 3 (by decide) _ rfl,←HL.out] at hrow;have lG:(gM aP.id a (λf=>{f with title:=t}) x.fees).length=x.fees.length:=by rw[HL.out,List.length_set]
 rw[←lG] at hrow;simp only[World.setCells] at eB;rw[qq] at eB;rw[←eB];refine bodyPost_ret (jf fp.out rfl rfl) rfl ?_;exact⟨fo,(some ⟨g,0,none⟩,rc),it,se,ts,by rw[←lG];rfl,⟨(iW.out.nix cY.out).fols.mono λk hk=>.inl hk,hrow.mono λk hk=>.inr hk,(iW.out.nix cY.out).itms.mono λk hk=>.inl hk,iW.out.same,(iW.out.nix cY.out).seas.mono λk hk=>.inl hk⟩,cY.out⟩
theorem LU{w:World}{fo fe it se:Sl}{ts:List (Sl×aJ)}{x:St}{G:Nat→Prop}(hS:aM w G fo fe it se ts x)(hsm:aH x){a b n:Int}{s t u:ByteArray}(aR:av x ⟨6,a,b,n,s,t,u⟩=true):
  Calls pQ 14 #[bE fo fe it se x,dt ⟨6,a,b,n,s,t,u⟩] w (pV w G (iB x ⟨6,a,b,n,s,t,u⟩) true):=by
 obtain⟨w0,hw0,hf0,hb1,hb2,hb3⟩:=iH w fo fe it se x 6 a b n s t u;have ew:=hsm.fees
 have hi:aS aP.id a x.fees=true:=by
  unfold av at aR;simp at aR;exact aR.2.1
 obtain⟨p,hpl,hp,-,-,uR⟩:=dh hi;have iW:=h_ hS;have HS:=h_ (hS.nix hf0);have nP:=h_ hsm;have gH:=h_ hb1;have kh:=h_ hb2;have pF:=h_ hb3;have dM:=h_ hf0;have HW:=h_ hw0;have MG:=h_ aR
 have pp:Hid (Calls pQ 30 #[bE fo fe it se x,.agg #[I J 6,I J a,I J b,I J n,V s,V t,V u]] w0 λe w'=>e=.returned (.bool true)∧aa ac w0 w'):=by
  have:=gJ (hS.nix hf0) hsm ⟨6,a,b,n,s,t,u⟩;rw[aR] at this;exact this
 clear hS hsm hf0 hb1 hb2 hb3 hw0 aR;unfold bE dt;dsimp only;rw[Rg rfl];dsimp only;obtain⟨A,c⟩:=fe;dsimp only at HS iW gH HW pp ⊢;go_enter Tryz.func14,Tryz.ntmps14;show Code.wp pQ (aj 0 (ae Tryz.f14)) _ _ _
 refine aG (k':=1) λK hK=>?_
 conv in bz _=>whnf
 go_wp2;rw[←HW.out];obtain⟨e0,e1,e2,e3,e4,e5,e6⟩:=ap kh.out;obtain⟨x0,x1,x2,x3,x4,x5,x6,x7,x8⟩:=ak gH.out;refine aG (k':=2) λK hK=>?_
 conv in bz _=>whnf
 go_wp2_with (go_at_call 30;refine pp.out.mono ?_;rintro e w1 ⟨rfl,hf⟩;have Z1:=h_ hf;clear hf);clear x0 x1 x2 x3 x4 x5 x6 x7 x8 e0 e1 e2 e3 e4 e5 e6;obtain⟨e0,e1,e2,e3,e4,e5,e6⟩:=ap (kh.out.frm Z1.out id);obtain⟨x0,x1,x2,x3,x4,x5,x6,x7,x8⟩:=ak (gH.out.frm Z1.out id);have hs1:=(HS.out.nix Z1.out).fees;obtain⟨rA,rc,wa,jq,hrow⟩:=qV ql (c:=c) hs1.rd (tE x.fees) (by exact ew) (by omega);obtain⟨A2,c2,yH,-,-,-,hblk⟩:=hrow.shape;injection yH with LN IE hsc;subst LN hsc;have iX:=gH.out.frm Z1.out id;have pd:=kh.out.frm Z1.out id;have qr:=pF.out.frm Z1.out id;have Et:=qr.lt;have fa:=hrow.frm;have FE:wa.cell? ⟨w.heap.size,2,none⟩=_:=((iX.frm fa id).cell 2).trans rfl;have J4:=(iX.frm fa id).frozen 2;have RJ:(w1.alloc (.cells #[] 64)).cell? ⟨w.heap.size,2,none⟩=some (U A x.fees.length c):=((iX.frm ((fR w1).alloc _) id).cell 2).trans rfl;have MF:=World.new_ne w1 ⟨w.heap.size,2,none⟩ x2;skip;obtain⟨wd,hwd⟩:∃wd,wd=wa.setCell ⟨w.heap.size,2,none⟩ (U rA x.fees.length rc):=⟨_,rfl⟩;have fd:aa (λk=>k=w.heap.size) wa wd:=by rw[hwd];exact(aa.refl (λk=>k=w.heap.size) wa).setCell (.inl rfl) _
 have uq:Hid (aa ac w wd):=((dM.out.trans Z1.out).trans fa).next fd (λk hk=>.inr (by omega))
 have zL:∀k,(Value.slice rA x.fees.length rc).ownBlock=some k→w1.heap.size≤k:=λk hk=>by
  rcases rA with _|ad
  ·simp[Value.ownBlock] at hk
  ·have:=(hblk ad rfl).2.2.1
   simp[Value.ownBlock] at hk;omega
 have pq:Hid (aO 64 4 w wd (U rA x.fees.length rc) x.fees.length (x.fees.flatMap aP.cells)):=(hrow.since (dM.out.trans Z1.out)).far fd (λk hk=>by omega) (λk hk e=>by have:=zL k hk;omega);have qU:Hid (ai wd w.heap.size 36 #[I J x.clock,U fo.1 x.fols.length fo.2,U rA x.fees.length rc,U it.1 x.itms.length it.2,U se.1 x.seas.length se.2,I J x.tFol,I J x.tFee,I J x.tItm,I J x.tSea]):=by unfold Hid;rw[hwd];exact((iX.frm fa id).set_ 2 _)
 have zW:Hid (ai wd (w.heap.size+1) 42 #[I J 6,I J a,I J b,I J n,V s,V t,V u]):=(pd.frm fa id).frm fd (by simp);have kJ:Hid (ai wd (w.heap.size+1+1) 36 #[I J 0,U none 0 0,U none 0 0,U none 0 0,U none 0 0,I J 0,I J 0,I J 0,I J 0]):=(qr.frm fa id).frm fd (by simp)
 have LO:Hid (aM wd (λk=>G k∨w.heap.size≤k) fo (rA,rc) it se ts x):=by
  have h0:=(iW.out.nix uq.out).mono (G':=λk=>G k∨w.heap.size≤k) λk hk=>.inl hk
  have h1:=hrow.sl.frm fd (λk hk e=>by omega);exact⟨h0.fols,h1.mono λk hk=>.inr (by omega),h0.itms,h0.same,h0.seas⟩
 obtain⟨old,hx0⟩:∃old,(x.fees.flatMap aP.cells)[p * 4+1]? =some old:=⟨_,by rw[l4 aP.clen x.fees p hpl 1 (by decide)];rfl⟩
 have KF:Hid (Calls pQ 33 #[.agg #[I J x.clock,U fo.1 x.fols.length fo.2,U rA x.fees.length rc,U it.1 x.itms.length it.2,U se.1 x.seas.length se.2,I J x.tFol,I J x.tFee,I J x.tItm,I J x.tSea],I J a] wd λe w'=>e=.returned (I J p)∧aa ac wd w'):=by
  have:=gi LO.out nP.out a;rw[hp] at this;exact this
 obtain⟨z0,z1,z2,z3,z4,z5,z6,z7,z8⟩:=ak qU.out;obtain⟨d0,d1,d2,d3,d4,d5,d6⟩:=ap zW.out;have LP:=h_ hwd;rw[hwd] at z0 z1 z2 z3 z4 z5 z6 z7 z8 d0 d1 d2 d3 d4 d5 d6;have LQ:=h_ zL;have zM:=h_ Et;clear hs1 hrow hblk iX pd qr Et fa fd zL;simp only[aj,ae,Tryz.f14]
 go_wp2_with (first
  | (at_builtin;refine aq jq rfl _ _ rfl rfl rfl ?_)
  | (go_at_call 33
     rw[←LP.out];refine KF.out.mono ?_;rintro r w2 ⟨rfl,hf⟩;have Z2:=h_ hf;have gI:Hid (aO 64 4 w w2 (U rA x.fees.length rc) x.fees.length (x.fees.flatMap aP.cells)):=pq.out.more hf;obtain⟨z0,z1,z2,z3,z4,z5,z6,z7,z8⟩:=ak (qU.out.frm hf id);obtain⟨d0,d1,d2,d3,d4,d5,d6⟩:=ap (zW.out.frm hf id);obtain⟨y0,y1,y2,y3,y4,y5,y6,y7,y8⟩:=ak (kJ.out.frm hf id);have g0:=(kJ.out.frm hf id).frozen 0;have g1:=(kJ.out.frm hf id).frozen 1;have g2:=(kJ.out.frm hf id).frozen 2;have g3:=(kJ.out.frm hf id).frozen 3;have g4:=(kJ.out.frm hf id).frozen 4;have g5:=(kJ.out.frm hf id).frozen 5;have g6:=(kJ.out.frm hf id).frozen 6;have g7:=(kJ.out.frm hf id).frozen 7;have g8:=(kJ.out.frm hf id).frozen 8;obtain⟨g,yE,Ir,RL,qs,xS,LR⟩:=gI.out.set_ (p * 4+1) (by omega) (I J b);rw[hx0] at Ir;have hgo:w.heap.size+1+1<g:=by have h1:=LQ.out g (by rw[yE];rfl);have h2:=zM.out;omega
     have hg0:¬g=w.heap.size:=by omega
     have hg1:¬g=w.heap.size+1:=by omega
     have hg2:¬g=w.heap.size+1+1:=by omega
     have zN:¬w.heap.size=g:=by omega
     have LS:¬w.heap.size+1=g:=by omega
     have ut:¬w.heap.size+1+1=g:=by omega
     have rQ:=h_ qs;obtain⟨s0,s1,s2,s3,s4,s5,s6,s7,s8⟩:=ak ((qU.out.frm hf id).far (p:=⟨g,p * 4+1,none⟩) zN (I J b));have gB:=(kJ.out.frm hf id).far (p:=⟨g,p * 4+1,none⟩) ut (I J b);obtain⟨t0,t1,t2,t3,t4,t5,t6,t7,t8⟩:=ak gB;have q0:=gB.frozen 0;have q1:=gB.frozen 1;have q2:=gB.frozen 2;have q3:=gB.frozen 3;have q4:=gB.frozen 4;have q5:=gB.frozen 5;have q6:=gB.frozen 6;have q7:=gB.frozen 7;have q8:=gB.frozen 8;clear gB;subst yE;clear hf qs))
 obtain⟨wf,qq⟩:∃wf,wf=w2.setCell ⟨g,p * 4+1,none⟩ (I J b):=⟨_,rfl⟩;have ff:aa (λk=>k=g) w2 wf:=by rw[qq];exact(aa.refl (λk=>k=g) w2).setCell (.inl rfl) _
 have hb4:ai wf (w.heap.size+1+1) 36 #[I J 0,U none 0 0,U none 0 0,U none 0 0,U none 0 0,I J 0,I J 0,I J 0,I J 0]:=(kJ.out.frm Z2.out id).frm ff (by simpa using ut);rw[←qq] at rQ;obtain⟨we,eB⟩:∃we,we=wf.setCells (w.heap.size+1+1) 0 [I J x.clock,U fo.1 x.fols.length fo.2,U (some ⟨g,0,none⟩) x.fees.length rc,U it.1 x.itms.length it.2,U se.1 x.seas.length se.2,I J x.tFol,I J x.tFee,I J x.tItm,I J x.tSea]:=⟨_,rfl⟩
 have eo:ai we (w.heap.size+1+1) 36 #[I J x.clock,U fo.1 x.fols.length fo.2,U (some ⟨g,0,none⟩) x.fees.length rc,U it.1 x.itms.length it.2,U se.1 x.seas.length se.2,I J x.tFol,I J x.tFee,I J x.tItm,I J x.tSea]:=by
  have:=ai.putL [I J x.clock,U fo.1 x.fols.length fo.2,U (some ⟨g,0,none⟩) x.fees.length rc,U it.1 x.itms.length it.2,U se.1 x.seas.length se.2,I J x.tFol,I J x.tFee,I J x.tItm,I J x.tSea] 0 hb4;rw[i7] at this;rw[eB];exact this
 have fe_:aa (λk=>k=w.heap.size+1+1) wf we:=by rw[eB];exact aa.setCells _ 0 (aa.refl _ _) (.inl rfl)
 have cY:Hid (aa ac w we):=((uq.out.trans Z2.out).next ff (λk hk=>.inr (by omega))).next fe_ (λk hk=>.inr (by omega))
 have fp:=h_ eo
 have hrow:aN we (λk=>w.heap.size≤k) 4 (some ⟨g,0,none⟩,rc) x.fees.length ((x.fees.flatMap aP.cells).set (p * 4+1) (I J b)):=by
  have hr3:=rQ.out.far fe_ (λk hk=>by omega) (λk hk e=>by simp[Value.ownBlock] at hk;omega);exact hr3.sl
 have HL:Hid ((gM aP.id a (λf=>{f with inn:=b}) x.fees)=x.fees.set p ((λf=>{f with inn:=b}) x.fees[p])):=by
  unfold Hid;have:=@pT _ aP.id a (λf=>{f with inn:=b}) x.fees (by rw[uR];exact hpl);simp only[uR] at this;exact this
 rw[pU aP.clen x.fees p hpl ((λf=>{f with inn:=b}) x.fees[p]) 1 (by decide) _ rfl,←HL.out] at hrow;have lG:(gM aP.id a (λf=>{f with inn:=b}) x.fees).length=x.fees.length:=by rw[HL.out,List.length_set]
 rw[←lG] at hrow;simp only[World.setCells] at eB;rw[qq] at eB;rw[←eB];refine bodyPost_ret (jf fp.out rfl rfl) rfl ?_;exact⟨fo,(some ⟨g,0,none⟩,rc),it,se,ts,by rw[←lG];rfl,⟨(iW.out.nix cY.out).fols.mono λk hk=>.inl hk,hrow.mono λk hk=>.inr hk,(iW.out.nix cY.out).itms.mono λk hk=>.inl hk,iW.out.same,(iW.out.nix cY.out).seas.mono λk hk=>.inl hk⟩,cY.out⟩
theorem Fk{w:World}{G:Nat→Prop}{fo fe it se:Sl}{ts:List (Sl×aJ)}{x:St}(h:aM w G fo fe it se ts x){p:Nat}(hk:p<ts.length)(hp:p<x.itms.length):(ts[p]'hk).2=x.itms[p]:=by
 obtain⟨h1,h2⟩:=pw h hp;exact h2
theorem LV{w:World}{fo fe it se:Sl}{ts:List (Sl×aJ)}{x:St}{G:Nat→Prop}(hS:aM w G fo fe it se ts x)(hsm:aH x){a b n:Int}{s t u:ByteArray}(aR:av x ⟨8,a,b,n,s,t,u⟩=true):
  Calls pQ 14 #[bE fo fe it se x,dt ⟨8,a,b,n,s,t,u⟩] w (pV w G (iB x ⟨8,a,b,n,s,t,u⟩) true):=by
 obtain⟨w0,hw0,hf0,hb1,hb2,hb3⟩:=iH w fo fe it se x 8 a b n s t u;have ew:=hsm.itms
 have hi:aS aJ.id a x.itms=true:=by
  unfold av at aR;simp at aR;exact aR.2
 obtain⟨p,hpl,hp,-,-,uR⟩:=dh hi;have iW:=h_ hS;have HS:=h_ (hS.nix hf0);have nP:=h_ hsm;have gH:=h_ hb1;have kh:=h_ hb2;have pF:=h_ hb3;have dM:=h_ hf0;have HW:=h_ hw0;have MG:=h_ aR
 have pp:Hid (Calls pQ 30 #[bE fo fe it se x,.agg #[I J 8,I J a,I J b,I J n,V s,V t,V u]] w0 λe w'=>e=.returned (.bool true)∧aa ac w0 w'):=by
  have:=gJ (hS.nix hf0) hsm ⟨8,a,b,n,s,t,u⟩;rw[aR] at this;exact this
 clear hS hsm hf0 hb1 hb2 hb3 hw0 aR;unfold bE dt;dsimp only;rw[Pt rfl];dsimp only;obtain⟨A,c⟩:=it;dsimp only at HS iW gH HW pp ⊢;go_enter Tryz.func14,Tryz.ntmps14;show Code.wp pQ (aj 0 (ae Tryz.f14)) _ _ _
 refine aG (k':=1) λK hK=>?_
 conv in bz _=>whnf
 go_wp2;rw[←HW.out];obtain⟨e0,e1,e2,e3,e4,e5,e6⟩:=ap kh.out;obtain⟨x0,x1,x2,x3,x4,x5,x6,x7,x8⟩:=ak gH.out;refine aG (k':=2) λK hK=>?_
 conv in bz _=>whnf
 go_wp2_with (go_at_call 30;refine pp.out.mono ?_;rintro e w1 ⟨rfl,hf⟩;have Z1:=h_ hf;clear hf);clear x0 x1 x2 x3 x4 x5 x6 x7 x8 e0 e1 e2 e3 e4 e5 e6;obtain⟨e0,e1,e2,e3,e4,e5,e6⟩:=ap (kh.out.frm Z1.out id);obtain⟨x0,x1,x2,x3,x4,x5,x6,x7,x8⟩:=ak (gH.out.frm Z1.out id);have hlen:ts.length=x.itms.length:=iW.out.len;have hs1:=(HS.out.nix Z1.out).itms.row;obtain⟨rA,rc,wa,jq,hrow⟩:=qV pj (c:=c) hs1.rd (tD ts) (by rw[hlen];exact ew) (by omega);obtain⟨A2,c2,yH,-,-,-,hblk⟩:=hrow.shape;injection yH with LN IE hsc;subst LN hsc;have iX:=gH.out.frm Z1.out id;have pd:=kh.out.frm Z1.out id;have qr:=pF.out.frm Z1.out id;have Et:=qr.lt;have fa:=hrow.frm;have FE:wa.cell? ⟨w.heap.size,3,none⟩=_:=((iX.frm fa id).cell 3).trans rfl;have J4:=(iX.frm fa id).frozen 3;have RJ:(w1.alloc (.cells #[] 82)).cell? ⟨w.heap.size,3,none⟩=some (U A x.itms.length c):=((iX.frm ((fR w1).alloc _) id).cell 3).trans rfl;have MF:=World.new_ne w1 ⟨w.heap.size,3,none⟩ x3;rw[hlen] at jq hrow;obtain⟨wd,hwd⟩:∃wd,wd=wa.setCell ⟨w.heap.size,3,none⟩ (U rA x.itms.length rc):=⟨_,rfl⟩;have fd:aa (λk=>k=w.heap.size) wa wd:=by rw[hwd];exact(aa.refl (λk=>k=w.heap.size) wa).setCell (.inl rfl) _
 have uq:Hid (aa ac w wd):=((dM.out.trans Z1.out).trans fa).next fd (λk hk=>.inr (by omega))
 have zL:∀k,(Value.slice rA x.itms.length rc).ownBlock=some k→w1.heap.size≤k:=λk hk=>by
  rcases rA with _|ad
  ·simp[Value.ownBlock] at hk
  ·have:=(hblk ad rfl).2.2.1
   simp[Value.ownBlock] at hk;omega
 have pq:Hid (aO 82 9 w wd (U rA x.itms.length rc) x.itms.length (ts.flatMap iY)):=(hrow.since (dM.out.trans Z1.out)).far fd (λk hk=>by omega) (λk hk e=>by have:=zL k hk;omega);have qU:Hid (ai wd w.heap.size 36 #[I J x.clock,U fo.1 x.fols.length fo.2,U fe.1 x.fees.length fe.2,U rA x.itms.length rc,U se.1 x.seas.length se.2,I J x.tFol,I J x.tFee,I J x.tItm,I J x.tSea]):=by unfold Hid;rw[hwd];exact((iX.frm fa id).set_ 3 _)
 have zW:Hid (ai wd (w.heap.size+1) 42 #[I J 8,I J a,I J b,I J n,V s,V t,V u]):=(pd.frm fa id).frm fd (by simp);have kJ:Hid (ai wd (w.heap.size+1+1) 36 #[I J 0,U none 0 0,U none 0 0,U none 0 0,U none 0 0,I J 0,I J 0,I J 0,I J 0]):=(qr.frm fa id).frm fd (by simp)
 have LO:Hid (aM wd (λk=>G k∨w.heap.size≤k) fo fe (rA,rc) se ts x):=by
  have h0:=(iW.out.nix uq.out).mono (G':=λk=>G k∨w.heap.size≤k) λk hk=>.inl hk
  have h1:=hrow.sl.frm fd (λk hk e=>by omega);rw[←hlen] at h1;exact⟨h0.fols,h0.fees,⟨h1.mono λk hk=>.inr (by omega),h0.itms.tags⟩,h0.same,h0.seas⟩
 obtain⟨old,hx0⟩:∃old,(ts.flatMap iY)[p * 9+6]? =some old:=⟨_,by rw[l4 dp ts p (by rw[hlen];exact hpl) 6 (by decide)];rfl⟩
 have KF:Hid (Calls pQ 34 #[.agg #[I J x.clock,U fo.1 x.fols.length fo.2,U fe.1 x.fees.length fe.2,U rA x.itms.length rc,U se.1 x.seas.length se.2,I J x.tFol,I J x.tFee,I J x.tItm,I J x.tSea],I J a] wd λe w'=>e=.returned (I J p)∧aa ac wd w'):=by
  have:=jr LO.out nP.out a;rw[hp] at this;exact this
 obtain⟨z0,z1,z2,z3,z4,z5,z6,z7,z8⟩:=ak qU.out;obtain⟨d0,d1,d2,d3,d4,d5,d6⟩:=ap zW.out;have LP:=h_ hwd;rw[hwd] at z0 z1 z2 z3 z4 z5 z6 z7 z8 d0 d1 d2 d3 d4 d5 d6;have LQ:=h_ zL;have zM:=h_ Et;clear hs1 hrow hblk iX pd qr Et fa fd zL;simp only[aj,ae,Tryz.f14]
 go_wp2_with (first
  | (at_builtin;refine aq jq rfl _ _ rfl rfl rfl ?_)
  | (go_at_call 34
     rw[←LP.out];refine KF.out.mono ?_;rintro r w2 ⟨rfl,hf⟩;have Z2:=h_ hf;have gI:Hid (aO 82 9 w w2 (U rA x.itms.length rc) x.itms.length (ts.flatMap iY)):=pq.out.more hf;obtain⟨z0,z1,z2,z3,z4,z5,z6,z7,z8⟩:=ak (qU.out.frm hf id);obtain⟨d0,d1,d2,d3,d4,d5,d6⟩:=ap (zW.out.frm hf id);obtain⟨y0,y1,y2,y3,y4,y5,y6,y7,y8⟩:=ak (kJ.out.frm hf id);have g0:=(kJ.out.frm hf id).frozen 0;have g1:=(kJ.out.frm hf id).frozen 1;have g2:=(kJ.out.frm hf id).frozen 2;have g3:=(kJ.out.frm hf id).frozen 3;have g4:=(kJ.out.frm hf id).frozen 4;have g5:=(kJ.out.frm hf id).frozen 5;have g6:=(kJ.out.frm hf id).frozen 6;have g7:=(kJ.out.frm hf id).frozen 7;have g8:=(kJ.out.frm hf id).frozen 8;obtain⟨g,yE,Ir,RL,qs,xS,LR⟩:=gI.out.set_ (p * 9+6) (by omega) (.bool (n==1));rw[hx0] at Ir;have hgo:w.heap.size+1+1<g:=by have h1:=LQ.out g (by rw[yE];rfl);have h2:=zM.out;omega
     have hg0:¬g=w.heap.size:=by omega
     have hg1:¬g=w.heap.size+1:=by omega
     have hg2:¬g=w.heap.size+1+1:=by omega
     have zN:¬w.heap.size=g:=by omega
     have LS:¬w.heap.size+1=g:=by omega
     have ut:¬w.heap.size+1+1=g:=by omega
     have rQ:=h_ qs;obtain⟨s0,s1,s2,s3,s4,s5,s6,s7,s8⟩:=ak ((qU.out.frm hf id).far (p:=⟨g,p * 9+6,none⟩) zN (.bool (n==1)));have gB:=(kJ.out.frm hf id).far (p:=⟨g,p * 9+6,none⟩) ut (.bool (n==1));obtain⟨t0,t1,t2,t3,t4,t5,t6,t7,t8⟩:=ak gB;have q0:=gB.frozen 0;have q1:=gB.frozen 1;have q2:=gB.frozen 2;have q3:=gB.frozen 3;have q4:=gB.frozen 4;have q5:=gB.frozen 5;have q6:=gB.frozen 6;have q7:=gB.frozen 7;have q8:=gB.frozen 8;clear gB;subst yE;clear hf qs))
 obtain⟨wf,qq⟩:∃wf,wf=w2.setCell ⟨g,p * 9+6,none⟩ (.bool (n==1)):=⟨_,rfl⟩;have ff:aa (λk=>k=g) w2 wf:=by rw[qq];exact(aa.refl (λk=>k=g) w2).setCell (.inl rfl) _
 have hb4:ai wf (w.heap.size+1+1) 36 #[I J 0,U none 0 0,U none 0 0,U none 0 0,U none 0 0,I J 0,I J 0,I J 0,I J 0]:=(kJ.out.frm Z2.out id).frm ff (by simpa using ut);rw[←qq] at rQ;obtain⟨we,eB⟩:∃we,we=wf.setCells (w.heap.size+1+1) 0 [I J x.clock,U fo.1 x.fols.length fo.2,U fe.1 x.fees.length fe.2,U (some ⟨g,0,none⟩) x.itms.length rc,U se.1 x.seas.length se.2,I J x.tFol,I J x.tFee,I J x.tItm,I J x.tSea]:=⟨_,rfl⟩
 have eo:ai we (w.heap.size+1+1) 36 #[I J x.clock,U fo.1 x.fols.length fo.2,U fe.1 x.fees.length fe.2,U (some ⟨g,0,none⟩) x.itms.length rc,U se.1 x.seas.length se.2,I J x.tFol,I J x.tFee,I J x.tItm,I J x.tSea]:=by
  have:=ai.putL [I J x.clock,U fo.1 x.fols.length fo.2,U fe.1 x.fees.length fe.2,U (some ⟨g,0,none⟩) x.itms.length rc,U se.1 x.seas.length se.2,I J x.tFol,I J x.tFee,I J x.tItm,I J x.tSea] 0 hb4;rw[i7] at this;rw[eB];exact this
 have fe_:aa (λk=>k=w.heap.size+1+1) wf we:=by rw[eB];exact aa.setCells _ 0 (aa.refl _ _) (.inl rfl)
 have cY:Hid (aa ac w we):=((uq.out.trans Z2.out).next ff (λk hk=>.inr (by omega))).next fe_ (λk hk=>.inr (by omega))
 have fp:=h_ eo
 have hrow:aN we (λk=>w.heap.size≤k) 9 (some ⟨g,0,none⟩,rc) x.itms.length ((ts.flatMap iY).set (p * 9+6) (.bool (n==1))):=by
  have hr3:=rQ.out.far fe_ (λk hk=>by omega) (λk hk e=>by simp[Value.ownBlock] at hk;omega);exact hr3.sl
 have mZ:p<ts.length:=by rw[hlen];exact hpl
 have wR:(ts[p]'mZ).2=x.itms[p]:=Fk iW.out mZ hpl
 have HL:Hid ((gM aJ.id a (λt=>{t with read:=decide (n=1)}) x.itms)=x.itms.set p ((λt=>{t with read:=decide (n=1)}) x.itms[p])):=by
  unfold Hid;have:=@pT _ aJ.id a (λt=>{t with read:=decide (n=1)}) x.itms (by rw[uR];exact hpl);simp only[uR] at this;exact this
 rw[pU dp ts p mZ ((ts[p]'mZ).1,((λt=>{t with read:=decide (n=1)}) (ts[p]'mZ).2)) 6 (by decide) (.bool (n==1)) rfl] at hrow
 have uF:(ts.set p ((ts[p]'mZ).1,((λt=>{t with read:=decide (n=1)}) (ts[p]'mZ).2))).map (·.2)=(gM aJ.id a (λt=>{t with read:=decide (n=1)}) x.itms):=by
  rw[List.map_set,iW.out.same,HL.out,wR]
 have lG:(gM aJ.id a (λt=>{t with read:=decide (n=1)}) x.itms).length=x.itms.length:=by rw[HL.out,List.length_set]
 have hlt2:(ts.set p ((ts[p]'mZ).1,((λt=>{t with read:=decide (n=1)}) (ts[p]'mZ).2))).length=x.itms.length:=by rw[List.length_set,hlen]
 rw[←hlt2] at hrow
 have sf:∀q∈ts.set p ((ts[p]'mZ).1,((λt=>{t with read:=decide (n=1)}) (ts[p]'mZ).2)),aN we (λk=>G k∨w.heap.size≤k) 1 q.1 q.2.tags.length (q.2.tags.map Value.string):=λq hq=>by
  rcases List.mem_or_eq_of_mem_set hq with hq|rfl
  ·exact((iW.out.nix cY.out).itms.tags q hq).mono λk hk=>.inl hk
  ·exact((iW.out.nix cY.out).itms.tags _ (List.getElem_mem mZ)).mono λk hk=>.inl hk
 simp only[World.setCells] at eB;rw[qq] at eB;rw[←eB];refine bodyPost_ret (jf fp.out rfl rfl) rfl ?_;exact⟨fo,fe,(some ⟨g,0,none⟩,rc),se,_,by rw[←lG];rfl,⟨(iW.out.nix cY.out).fols.mono λk hk=>.inl hk,(iW.out.nix cY.out).fees.mono λk hk=>.inl hk,⟨hrow.mono λk hk=>.inr hk,sf⟩,uF,(iW.out.nix cY.out).seas.mono λk hk=>.inl hk⟩,cY.out⟩
theorem LW{w:World}{fo fe it se:Sl}{ts:List (Sl×aJ)}{x:St}{G:Nat→Prop}(hS:aM w G fo fe it se ts x)(hsm:aH x){a b n:Int}{s t u:ByteArray}(aR:av x ⟨9,a,b,n,s,t,u⟩=true):
  Calls pQ 14 #[bE fo fe it se x,dt ⟨9,a,b,n,s,t,u⟩] w (pV w G (iB x ⟨9,a,b,n,s,t,u⟩) true):=by
 obtain⟨w0,hw0,hf0,hb1,hb2,hb3⟩:=iH w fo fe it se x 9 a b n s t u;have ew:=hsm.itms
 have hi:aS aJ.id a x.itms=true:=by
  unfold av at aR;simp at aR;exact aR.2
 obtain⟨p,hpl,hp,-,-,uR⟩:=dh hi;have iW:=h_ hS;have HS:=h_ (hS.nix hf0);have nP:=h_ hsm;have gH:=h_ hb1;have kh:=h_ hb2;have pF:=h_ hb3;have dM:=h_ hf0;have HW:=h_ hw0;have MG:=h_ aR
 have pp:Hid (Calls pQ 30 #[bE fo fe it se x,.agg #[I J 9,I J a,I J b,I J n,V s,V t,V u]] w0 λe w'=>e=.returned (.bool true)∧aa ac w0 w'):=by
  have:=gJ (hS.nix hf0) hsm ⟨9,a,b,n,s,t,u⟩;rw[aR] at this;exact this
 clear hS hsm hf0 hb1 hb2 hb3 hw0 aR;unfold bE dt;dsimp only;rw[Ri rfl];dsimp only;obtain⟨A,c⟩:=it;dsimp only at HS iW gH HW pp ⊢;go_enter Tryz.func14,Tryz.ntmps14;show Code.wp pQ (aj 0 (ae Tryz.f14)) _ _ _
 refine aG (k':=1) λK hK=>?_
 conv in bz _=>whnf
 go_wp2;rw[←HW.out];obtain⟨e0,e1,e2,e3,e4,e5,e6⟩:=ap kh.out;obtain⟨x0,x1,x2,x3,x4,x5,x6,x7,x8⟩:=ak gH.out;refine aG (k':=2) λK hK=>?_
 conv in bz _=>whnf
 go_wp2_with (go_at_call 30;refine pp.out.mono ?_;rintro e w1 ⟨rfl,hf⟩;have Z1:=h_ hf;clear hf);clear x0 x1 x2 x3 x4 x5 x6 x7 x8 e0 e1 e2 e3 e4 e5 e6;obtain⟨e0,e1,e2,e3,e4,e5,e6⟩:=ap (kh.out.frm Z1.out id);obtain⟨x0,x1,x2,x3,x4,x5,x6,x7,x8⟩:=ak (gH.out.frm Z1.out id);have hlen:ts.length=x.itms.length:=iW.out.len;have hs1:=(HS.out.nix Z1.out).itms.row;obtain⟨rA,rc,wa,jq,hrow⟩:=qV pj (c:=c) hs1.rd (tD ts) (by rw[hlen];exact ew) (by omega);obtain⟨A2,c2,yH,-,-,-,hblk⟩:=hrow.shape;injection yH with LN IE hsc;subst LN hsc;have iX:=gH.out.frm Z1.out id;have pd:=kh.out.frm Z1.out id;have qr:=pF.out.frm Z1.out id;have Et:=qr.lt;have fa:=hrow.frm;have FE:wa.cell? ⟨w.heap.size,3,none⟩=_:=((iX.frm fa id).cell 3).trans rfl;have J4:=(iX.frm fa id).frozen 3;have RJ:(w1.alloc (.cells #[] 82)).cell? ⟨w.heap.size,3,none⟩=some (U A x.itms.length c):=((iX.frm ((fR w1).alloc _) id).cell 3).trans rfl;have MF:=World.new_ne w1 ⟨w.heap.size,3,none⟩ x3;rw[hlen] at jq hrow;obtain⟨wd,hwd⟩:∃wd,wd=wa.setCell ⟨w.heap.size,3,none⟩ (U rA x.itms.length rc):=⟨_,rfl⟩;have fd:aa (λk=>k=w.heap.size) wa wd:=by rw[hwd];exact(aa.refl (λk=>k=w.heap.size) wa).setCell (.inl rfl) _
 have uq:Hid (aa ac w wd):=((dM.out.trans Z1.out).trans fa).next fd (λk hk=>.inr (by omega))
 have zL:∀k,(Value.slice rA x.itms.length rc).ownBlock=some k→w1.heap.size≤k:=λk hk=>by
  rcases rA with _|ad
  ·simp[Value.ownBlock] at hk
  ·have:=(hblk ad rfl).2.2.1
   simp[Value.ownBlock] at hk;omega
 have pq:Hid (aO 82 9 w wd (U rA x.itms.length rc) x.itms.length (ts.flatMap iY)):=(hrow.since (dM.out.trans Z1.out)).far fd (λk hk=>by omega) (λk hk e=>by have:=zL k hk;omega);have qU:Hid (ai wd w.heap.size 36 #[I J x.clock,U fo.1 x.fols.length fo.2,U fe.1 x.fees.length fe.2,U rA x.itms.length rc,U se.1 x.seas.length se.2,I J x.tFol,I J x.tFee,I J x.tItm,I J x.tSea]):=by unfold Hid;rw[hwd];exact((iX.frm fa id).set_ 3 _)
 have zW:Hid (ai wd (w.heap.size+1) 42 #[I J 9,I J a,I J b,I J n,V s,V t,V u]):=(pd.frm fa id).frm fd (by simp);have kJ:Hid (ai wd (w.heap.size+1+1) 36 #[I J 0,U none 0 0,U none 0 0,U none 0 0,U none 0 0,I J 0,I J 0,I J 0,I J 0]):=(qr.frm fa id).frm fd (by simp)
 have LO:Hid (aM wd (λk=>G k∨w.heap.size≤k) fo fe (rA,rc) se ts x):=by
  have h0:=(iW.out.nix uq.out).mono (G':=λk=>G k∨w.heap.size≤k) λk hk=>.inl hk
  have h1:=hrow.sl.frm fd (λk hk e=>by omega);rw[←hlen] at h1;exact⟨h0.fols,h0.fees,⟨h1.mono λk hk=>.inr (by omega),h0.itms.tags⟩,h0.same,h0.seas⟩
 obtain⟨old,hx0⟩:∃old,(ts.flatMap iY)[p * 9+7]? =some old:=⟨_,by rw[l4 dp ts p (by rw[hlen];exact hpl) 7 (by decide)];rfl⟩
 have KF:Hid (Calls pQ 34 #[.agg #[I J x.clock,U fo.1 x.fols.length fo.2,U fe.1 x.fees.length fe.2,U rA x.itms.length rc,U se.1 x.seas.length se.2,I J x.tFol,I J x.tFee,I J x.tItm,I J x.tSea],I J a] wd λe w'=>e=.returned (I J p)∧aa ac wd w'):=by
  have:=jr LO.out nP.out a;rw[hp] at this;exact this
 obtain⟨z0,z1,z2,z3,z4,z5,z6,z7,z8⟩:=ak qU.out;obtain⟨d0,d1,d2,d3,d4,d5,d6⟩:=ap zW.out;have LP:=h_ hwd;rw[hwd] at z0 z1 z2 z3 z4 z5 z6 z7 z8 d0 d1 d2 d3 d4 d5 d6;have LQ:=h_ zL;have zM:=h_ Et;clear hs1 hrow hblk iX pd qr Et fa fd zL;simp only[aj,ae,Tryz.f14]
 go_wp2_with (first
  | (at_builtin;refine aq jq rfl _ _ rfl rfl rfl ?_)
  | (go_at_call 34
     rw[←LP.out];refine KF.out.mono ?_;rintro r w2 ⟨rfl,hf⟩;have Z2:=h_ hf;have gI:Hid (aO 82 9 w w2 (U rA x.itms.length rc) x.itms.length (ts.flatMap iY)):=pq.out.more hf;obtain⟨z0,z1,z2,z3,z4,z5,z6,z7,z8⟩:=ak (qU.out.frm hf id);obtain⟨d0,d1,d2,d3,d4,d5,d6⟩:=ap (zW.out.frm hf id);obtain⟨y0,y1,y2,y3,y4,y5,y6,y7,y8⟩:=ak (kJ.out.frm hf id);have g0:=(kJ.out.frm hf id).frozen 0;have g1:=(kJ.out.frm hf id).frozen 1;have g2:=(kJ.out.frm hf id).frozen 2;have g3:=(kJ.out.frm hf id).frozen 3;have g4:=(kJ.out.frm hf id).frozen 4;have g5:=(kJ.out.frm hf id).frozen 5;have g6:=(kJ.out.frm hf id).frozen 6;have g7:=(kJ.out.frm hf id).frozen 7;have g8:=(kJ.out.frm hf id).frozen 8;obtain⟨g,yE,Ir,RL,qs,xS,LR⟩:=gI.out.set_ (p * 9+7) (by omega) (.bool (n==1));rw[hx0] at Ir;have hgo:w.heap.size+1+1<g:=by have h1:=LQ.out g (by rw[yE];rfl);have h2:=zM.out;omega
     have hg0:¬g=w.heap.size:=by omega
     have hg1:¬g=w.heap.size+1:=by omega
     have hg2:¬g=w.heap.size+1+1:=by omega
     have zN:¬w.heap.size=g:=by omega
     have LS:¬w.heap.size+1=g:=by omega
     have ut:¬w.heap.size+1+1=g:=by omega
     have rQ:=h_ qs;obtain⟨s0,s1,s2,s3,s4,s5,s6,s7,s8⟩:=ak ((qU.out.frm hf id).far (p:=⟨g,p * 9+7,none⟩) zN (.bool (n==1)));have gB:=(kJ.out.frm hf id).far (p:=⟨g,p * 9+7,none⟩) ut (.bool (n==1));obtain⟨t0,t1,t2,t3,t4,t5,t6,t7,t8⟩:=ak gB;have q0:=gB.frozen 0;have q1:=gB.frozen 1;have q2:=gB.frozen 2;have q3:=gB.frozen 3;have q4:=gB.frozen 4;have q5:=gB.frozen 5;have q6:=gB.frozen 6;have q7:=gB.frozen 7;have q8:=gB.frozen 8;clear gB;subst yE;clear hf qs))
 obtain⟨wf,qq⟩:∃wf,wf=w2.setCell ⟨g,p * 9+7,none⟩ (.bool (n==1)):=⟨_,rfl⟩;have ff:aa (λk=>k=g) w2 wf:=by rw[qq];exact(aa.refl (λk=>k=g) w2).setCell (.inl rfl) _
 have hb4:ai wf (w.heap.size+1+1) 36 #[I J 0,U none 0 0,U none 0 0,U none 0 0,U none 0 0,I J 0,I J 0,I J 0,I J 0]:=(kJ.out.frm Z2.out id).frm ff (by simpa using ut);rw[←qq] at rQ;obtain⟨we,eB⟩:∃we,we=wf.setCells (w.heap.size+1+1) 0 [I J x.clock,U fo.1 x.fols.length fo.2,U fe.1 x.fees.length fe.2,U (some ⟨g,0,none⟩) x.itms.length rc,U se.1 x.seas.length se.2,I J x.tFol,I J x.tFee,I J x.tItm,I J x.tSea]:=⟨_,rfl⟩
 have eo:ai we (w.heap.size+1+1) 36 #[I J x.clock,U fo.1 x.fols.length fo.2,U fe.1 x.fees.length fe.2,U (some ⟨g,0,none⟩) x.itms.length rc,U se.1 x.seas.length se.2,I J x.tFol,I J x.tFee,I J x.tItm,I J x.tSea]:=by
  have:=ai.putL [I J x.clock,U fo.1 x.fols.length fo.2,U fe.1 x.fees.length fe.2,U (some ⟨g,0,none⟩) x.itms.length rc,U se.1 x.seas.length se.2,I J x.tFol,I J x.tFee,I J x.tItm,I J x.tSea] 0 hb4;rw[i7] at this;rw[eB];exact this
 have fe_:aa (λk=>k=w.heap.size+1+1) wf we:=by rw[eB];exact aa.setCells _ 0 (aa.refl _ _) (.inl rfl)
 have cY:Hid (aa ac w we):=((uq.out.trans Z2.out).next ff (λk hk=>.inr (by omega))).next fe_ (λk hk=>.inr (by omega))
 have fp:=h_ eo
 have hrow:aN we (λk=>w.heap.size≤k) 9 (some ⟨g,0,none⟩,rc) x.itms.length ((ts.flatMap iY).set (p * 9+7) (.bool (n==1))):=by
  have hr3:=rQ.out.far fe_ (λk hk=>by omega) (λk hk e=>by simp[Value.ownBlock] at hk;omega);exact hr3.sl
 have mZ:p<ts.length:=by rw[hlen];exact hpl
 have wR:(ts[p]'mZ).2=x.itms[p]:=Fk iW.out mZ hpl
 have HL:Hid ((gM aJ.id a (λt=>{t with star:=decide (n=1)}) x.itms)=x.itms.set p ((λt=>{t with star:=decide (n=1)}) x.itms[p])):=by
  unfold Hid;have:=@pT _ aJ.id a (λt=>{t with star:=decide (n=1)}) x.itms (by rw[uR];exact hpl);simp only[uR] at this;exact this
 rw[pU dp ts p mZ ((ts[p]'mZ).1,((λt=>{t with star:=decide (n=1)}) (ts[p]'mZ).2)) 7 (by decide) (.bool (n==1)) rfl] at hrow
 have uF:(ts.set p ((ts[p]'mZ).1,((λt=>{t with star:=decide (n=1)}) (ts[p]'mZ).2))).map (·.2)=(gM aJ.id a (λt=>{t with star:=decide (n=1)}) x.itms):=by
  rw[List.map_set,iW.out.same,HL.out,wR]
 have lG:(gM aJ.id a (λt=>{t with star:=decide (n=1)}) x.itms).length=x.itms.length:=by rw[HL.out,List.length_set]
 have hlt2:(ts.set p ((ts[p]'mZ).1,((λt=>{t with star:=decide (n=1)}) (ts[p]'mZ).2))).length=x.itms.length:=by rw[List.length_set,hlen]
 rw[←hlt2] at hrow
 have sf:∀q∈ts.set p ((ts[p]'mZ).1,((λt=>{t with star:=decide (n=1)}) (ts[p]'mZ).2)),aN we (λk=>G k∨w.heap.size≤k) 1 q.1 q.2.tags.length (q.2.tags.map Value.string):=λq hq=>by
  rcases List.mem_or_eq_of_mem_set hq with hq|rfl
  ·exact((iW.out.nix cY.out).itms.tags q hq).mono λk hk=>.inl hk
  ·exact((iW.out.nix cY.out).itms.tags _ (List.getElem_mem mZ)).mono λk hk=>.inl hk
 simp only[World.setCells] at eB;rw[qq] at eB;rw[←eB];refine bodyPost_ret (jf fp.out rfl rfl) rfl ?_;exact⟨fo,fe,(some ⟨g,0,none⟩,rc),se,_,by rw[←lG];rfl,⟨(iW.out.nix cY.out).fols.mono λk hk=>.inl hk,(iW.out.nix cY.out).fees.mono λk hk=>.inl hk,⟨hrow.mono λk hk=>.inr hk,sf⟩,uF,(iW.out.nix cY.out).seas.mono λk hk=>.inl hk⟩,cY.out⟩
theorem JI{w:World}{fo fe it se:Sl}{ts:List (Sl×aJ)}{x:St}{G:Nat→Prop}(hS:aM w G fo fe it se ts x)(hsm:aH x){a b n:Int}{s t u:ByteArray}(aR:av x ⟨10,a,b,n,s,t,u⟩=true):
  Calls pQ 14 #[bE fo fe it se x,dt ⟨10,a,b,n,s,t,u⟩] w (pV w G (iB x ⟨10,a,b,n,s,t,u⟩) true):=by
 obtain⟨w0,hw0,hf0,hb1,hb2,hb3⟩:=iH w fo fe it se x 10 a b n s t u;have ew:=hsm.itms
 have hi:aS aJ.id a x.itms=true:=by
  unfold av at aR
  cases hat:eV aJ.id a x.itms with
  | none=>rw[hat] at aR;simp at aR
  | some f=>exact dg.2 ⟨f,List.mem_of_find?_eq_some hat,by simpa using List.find?_some hat⟩
 obtain⟨p,hpl,hp,-,-,uR⟩:=dh hi;have iW:=h_ hS;have HS:=h_ (hS.nix hf0);have nP:=h_ hsm;have gH:=h_ hb1;have kh:=h_ hb2;have pF:=h_ hb3;have dM:=h_ hf0;have HW:=h_ hw0;have MG:=h_ aR
 have pp:Hid (Calls pQ 30 #[bE fo fe it se x,.agg #[I J 10,I J a,I J b,I J n,V s,V t,V u]] w0 λe w'=>e=.returned (.bool true)∧aa ac w0 w'):=by
  have:=gJ (hS.nix hf0) hsm ⟨10,a,b,n,s,t,u⟩;rw[aR] at this;exact this
 clear hS hsm hf0 hb1 hb2 hb3 hw0 aR;unfold bE dt;dsimp only;rw[Ks rfl];dsimp only;obtain⟨A,c⟩:=it;dsimp only at HS iW gH HW pp ⊢;go_enter Tryz.func14,Tryz.ntmps14;show Code.wp pQ (aj 0 (ae Tryz.f14)) _ _ _
 refine aG (k':=1) λK hK=>?_
 conv in bz _=>whnf
 go_wp2;rw[←HW.out];obtain⟨e0,e1,e2,e3,e4,e5,e6⟩:=ap kh.out;obtain⟨x0,x1,x2,x3,x4,x5,x6,x7,x8⟩:=ak gH.out;refine aG (k':=2) λK hK=>?_
 conv in bz _=>whnf
 go_wp2_with (go_at_call 30;refine pp.out.mono ?_;rintro e w1 ⟨rfl,hf⟩;have Z1:=h_ hf;clear hf);clear x0 x1 x2 x3 x4 x5 x6 x7 x8 e0 e1 e2 e3 e4 e5 e6;obtain⟨e0,e1,e2,e3,e4,e5,e6⟩:=ap (kh.out.frm Z1.out id);obtain⟨x0,x1,x2,x3,x4,x5,x6,x7,x8⟩:=ak (gH.out.frm Z1.out id);have hlen:ts.length=x.itms.length:=iW.out.len;have hs1:=(HS.out.nix Z1.out).itms.row;obtain⟨rA,rc,wa,jq,hrow⟩:=qV pj (c:=c) hs1.rd (tD ts) (by rw[hlen];exact ew) (by omega);obtain⟨A2,c2,yH,-,-,-,hblk⟩:=hrow.shape;injection yH with LN IE hsc;subst LN hsc;have iX:=gH.out.frm Z1.out id;have pd:=kh.out.frm Z1.out id;have qr:=pF.out.frm Z1.out id;have Et:=qr.lt;have fa:=hrow.frm;have FE:wa.cell? ⟨w.heap.size,3,none⟩=_:=((iX.frm fa id).cell 3).trans rfl;have J4:=(iX.frm fa id).frozen 3;have RJ:(w1.alloc (.cells #[] 82)).cell? ⟨w.heap.size,3,none⟩=some (U A x.itms.length c):=((iX.frm ((fR w1).alloc _) id).cell 3).trans rfl;have MF:=World.new_ne w1 ⟨w.heap.size,3,none⟩ x3;rw[hlen] at jq hrow;obtain⟨wd,hwd⟩:∃wd,wd=wa.setCell ⟨w.heap.size,3,none⟩ (U rA x.itms.length rc):=⟨_,rfl⟩;have fd:aa (λk=>k=w.heap.size) wa wd:=by rw[hwd];exact(aa.refl (λk=>k=w.heap.size) wa).setCell (.inl rfl) _
 have uq:Hid (aa ac w wd):=((dM.out.trans Z1.out).trans fa).next fd (λk hk=>.inr (by omega))
 have zL:∀k,(Value.slice rA x.itms.length rc).ownBlock=some k→w1.heap.size≤k:=λk hk=>by
  rcases rA with _|ad
  ·simp[Value.ownBlock] at hk
  ·have:=(hblk ad rfl).2.2.1
   simp[Value.ownBlock] at hk;omega
 obtain⟨q,mZ,hq,nk,LX⟩:∃(q:Sl×aJ) (mZ:p<ts.length),ts[p]'mZ=q∧q.2=x.itms[p]∧aN w G 1 q.1 q.2.tags.length (q.2.tags.map Value.string):=by
  obtain⟨mZ,h2⟩:=pw iW.out hpl;exact⟨ts[p]'mZ,mZ,rfl,h2,iW.out.itms.tags _ (List.getElem_mem mZ)⟩
 have zR:q.2.tags.length≤1000:=by rw[nk];exact nP.out.tags _ (List.getElem_mem hpl)
 have KT:Hid (∀W,aa ac w W→Calls pQ 35 #[U q.1.1 q.2.tags.length q.1.2,V s,.bool (n==1)] W λe w'=>∃v':Sl,e=.returned (U v'.1 (ei q.2.tags s (decide (n=1))).length v'.2)∧aN w' (λk=>W.heap.size≤k) 1 v' (ei q.2.tags s (decide (n=1))).length ((ei q.2.tags s (decide (n=1))).map Value.string)∧aa ac W w'):=λW hW=>G9 q.2.tags (LX.nix hW) zR s _
 have VC:(ts.flatMap iY)[p * 9+8]? =some (U q.1.1 q.2.tags.length q.1.2):=by
  rw[l4 dp ts p mZ 8 (by decide),hq];rfl
 have HQ:=h_ (And.intro hq (And.intro nk LX));clear hq nk LX zR;have pq:Hid (aO 82 9 w wd (U rA x.itms.length rc) x.itms.length (ts.flatMap iY)):=(hrow.since (dM.out.trans Z1.out)).far fd (λk hk=>by omega) (λk hk e=>by have:=zL k hk;omega);have qU:Hid (ai wd w.heap.size 36 #[I J x.clock,U fo.1 x.fols.length fo.2,U fe.1 x.fees.length fe.2,U rA x.itms.length rc,U se.1 x.seas.length se.2,I J x.tFol,I J x.tFee,I J x.tItm,I J x.tSea]):=by unfold Hid;rw[hwd];exact((iX.frm fa id).set_ 3 _)
 have zW:Hid (ai wd (w.heap.size+1) 42 #[I J 10,I J a,I J b,I J n,V s,V t,V u]):=(pd.frm fa id).frm fd (by simp);have kJ:Hid (ai wd (w.heap.size+1+1) 36 #[I J 0,U none 0 0,U none 0 0,U none 0 0,U none 0 0,I J 0,I J 0,I J 0,I J 0]):=(qr.frm fa id).frm fd (by simp)
 have LO:Hid (aM wd (λk=>G k∨w.heap.size≤k) fo fe (rA,rc) se ts x):=by
  have h0:=(iW.out.nix uq.out).mono (G':=λk=>G k∨w.heap.size≤k) λk hk=>.inl hk
  have h1:=hrow.sl.frm fd (λk hk e=>by omega);rw[←hlen] at h1;exact⟨h0.fols,h0.fees,⟨h1.mono λk hk=>.inr (by omega),h0.itms.tags⟩,h0.same,h0.seas⟩
 obtain⟨old,hx0⟩:∃old,(ts.flatMap iY)[p * 9+8]? =some old:=⟨_,by rw[l4 dp ts p (by rw[hlen];exact hpl) 8 (by decide)];rfl⟩
 have KF:Hid (Calls pQ 34 #[.agg #[I J x.clock,U fo.1 x.fols.length fo.2,U fe.1 x.fees.length fe.2,U rA x.itms.length rc,U se.1 x.seas.length se.2,I J x.tFol,I J x.tFee,I J x.tItm,I J x.tSea],I J a] wd λe w'=>e=.returned (I J p)∧aa ac wd w'):=by
  have:=jr LO.out nP.out a;rw[hp] at this;exact this
 obtain⟨z0,z1,z2,z3,z4,z5,z6,z7,z8⟩:=ak qU.out;obtain⟨d0,d1,d2,d3,d4,d5,d6⟩:=ap zW.out;have LP:=h_ hwd;rw[hwd] at z0 z1 z2 z3 z4 z5 z6 z7 z8 d0 d1 d2 d3 d4 d5 d6;have LQ:=h_ zL;have zM:=h_ Et;clear hs1 hrow hblk iX pd qr Et fa fd zL;simp only[aj,ae,Tryz.f14]
 go_wp2_with (first
  | (at_builtin;refine aq jq rfl _ _ rfl rfl rfl ?_)
  | (go_at_call 34
     rw[←LP.out];refine KF.out.mono ?_;rintro r w2 ⟨rfl,hf⟩;have Z2:=h_ hf;have gI:Hid (aO 82 9 w w2 (U rA x.itms.length rc) x.itms.length (ts.flatMap iY)):=pq.out.more hf;obtain⟨z0,z1,z2,z3,z4,z5,z6,z7,z8⟩:=ak (qU.out.frm hf id);obtain⟨d0,d1,d2,d3,d4,d5,d6⟩:=ap (zW.out.frm hf id);obtain⟨y0,y1,y2,y3,y4,y5,y6,y7,y8⟩:=ak (kJ.out.frm hf id);have g0:=(kJ.out.frm hf id).frozen 0;have g1:=(kJ.out.frm hf id).frozen 1;have g2:=(kJ.out.frm hf id).frozen 2;have g3:=(kJ.out.frm hf id).frozen 3;have g4:=(kJ.out.frm hf id).frozen 4;have g5:=(kJ.out.frm hf id).frozen 5;have g6:=(kJ.out.frm hf id).frozen 6;have g7:=(kJ.out.frm hf id).frozen 7;have g8:=(kJ.out.frm hf id).frozen 8;obtain⟨g,yE,Ir,RL,qs,xS,LR⟩:=gI.out.set_ (p * 9+8) (by omega) undef;have hgo:w.heap.size+1+1<g:=by have h1:=LQ.out g (by rw[yE];rfl);have h2:=zM.out;omega
     have hg0:¬g=w.heap.size:=by omega
     have hg1:¬g=w.heap.size+1:=by omega
     have hg2:¬g=w.heap.size+1+1:=by omega
     have zN:¬w.heap.size=g:=by omega
     have LS:¬w.heap.size+1=g:=by omega
     have ut:¬w.heap.size+1+1=g:=by omega
     rw[VC] at Ir;have HC:Hid (∀W,aa ac w2 W→W.cell? ⟨w.heap.size,3,none⟩=some (U rA x.itms.length rc)∧W.cell? ⟨w.heap.size+1,3,none⟩=some (I J n)∧W.cell? ⟨w.heap.size+1,4,none⟩=some (V s)):=λW hW=>⟨(hW.cell (p:=⟨w.heap.size,3,none⟩) ((qU.out.frm hf id).lt) id).trans z3,(hW.cell (p:=⟨w.heap.size+1,3,none⟩) ((zW.out.frm hf id).lt) id).trans d3,(hW.cell (p:=⟨w.heap.size+1,4,none⟩) ((zW.out.frm hf id).lt) id).trans d4⟩
     subst yE;clear hf qs))
 refine wp_region_held_drew (S:=λW=>W.cell? ⟨w.heap.size,3,none⟩=some (U (some ⟨g,0,none⟩) x.itms.length rc)∧W.cell? ⟨w.heap.size+1,3,none⟩=some (I J n)∧W.cell? ⟨w.heap.size+1,4,none⟩=some (V s)) (by kernel_rfl) (HC.out _ (fR w2).drew) λhH=>?_
 refine sx (i:=0) rfl (λ_ _ _ h=>h) hH ?_
 try simp only[lt]
 refine sx (i:=1) rfl (λ_ _ _ h=>h) hH ?_
 try simp only[lt]
 refine sx (i:=2) rfl (λ_ _ _ h=>h) hH ?_
 try simp only[lt]
 refine sx (i:=3) rfl (λ_ _ _ h=>h) hH ?_
 try simp only[lt]
 refine sx (i:=4) rfl (λ_ _ _ h=>h) hH ?_
 try simp only[lt]
 refine sx (i:=5) rfl (λ_ _ _ h=>h) hH ?_
 try simp only[lt]
 refine sx (i:=6) rfl (λ_ _ _ h=>h) hH ?_
 try simp only[lt]
 refine sx (i:=7) rfl (λ_ _ _ h=>h) hH ?_
 try simp only[lt]
 refine sx (i:=9) rfl (λ_ _ _ h=>h) hH ?_
 try simp only[lt]
 refine sx (i:=10) rfl (λ_ _ _ h=>h) hH ?_
 try simp only[lt]
 refine sx (i:=11) rfl (λ_ _ _ h=>h) hH ?_
 try simp only[lt]
 refine sx (i:=12) rfl (λ_ _ _ h=>h) hH ?_
 try simp only[lt]
 refine sx (i:=13) rfl (λ_ _ _ h=>h) hH ?_
 try simp only[lt]
 refine aD (i:=8) rfl (λK hK=>?_);go_simp;refine hK.out _ _ (HC.out _ (fR w2).drew) (λhH=>?_);clear hK K
 try simp only[lt]
 refine aD (i:=14) rfl (λK hK=>?_);go_simp;go_at_call 35;refine(KT.out _ ((uq.out.trans Z2.out).drew)).mono ?_;rintro r w3 ⟨v',rfl,hv,hf⟩;have HV:=h_ hv;have Z3:Hid (aa ac w2 w3):=(fR w2).drew.trans hf;have hg3:=(gI.out.more Z3.out).set_ (p * 9+8) (by omega) (U v'.1 (ei q.2.tags s (decide (n=1))).length v'.2);obtain⟨g',yE,T9,Yr,qs,-,-⟩:=hg3;injection yE with yE;injection yE with yE;subst yE;rw[VC] at T9;have rQ:=h_ qs;clear hf hv qs;dsimp only;refine hK.out _ _ (HC.out _ Z3.out) (λhH=>?_);clear hK K
 try simp only[lt]
 refine sx (i:=15) rfl (λ_ _ _ h=>h) hH ?_
 try simp only[lt]
 refine sx (i:=16) rfl (λ_ _ _ h=>h) hH ?_
 try simp only[lt]
 refine aD (i:=17) rfl (λK hK=>?_);go_simp;refine hK.out _ _ (by first|exact HC.out _ Z3.out|go_keep) (λhH=>?_);clear hK K
 try simp only[lt]
 refine wpAnyH_done (by kernel_rfl) ?_ _;have qs:=rQ.out;obtain⟨wf,qq⟩:∃wf,wf=w3.setCell ⟨g,p * 9+8,none⟩ (U v'.1 (ei q.2.tags s (decide (n=1))).length v'.2):=⟨_,rfl⟩;rw[←qq] at qs ⊢;have ff:aa (λk=>k=g) w3 wf:=by rw[qq];exact(aa.refl (λk=>k=g) w3).setCell (.inl rfl) _
 have hb4:ai wf (w.heap.size+1+1) 36 #[I J 0,U none 0 0,U none 0 0,U none 0 0,U none 0 0,I J 0,I J 0,I J 0,I J 0]:=(kJ.out.frm (Z2.out.trans Z3.out) id).frm ff (by simpa using ut);have PJ:ai wf w.heap.size 36 #[I J x.clock,U fo.1 x.fols.length fo.2,U fe.1 x.fees.length fe.2,U (some ⟨g,0,none⟩) x.itms.length rc,U se.1 x.seas.length se.2,I J x.tFol,I J x.tFee,I J x.tItm,I J x.tSea]:=(qU.out.frm (Z2.out.trans Z3.out) id).frm ff (by simpa using zN);clear qq;clear z0 z1 z2 z3 z4 z5 z6 z7 z8 y0 y1 y2 y3 y4 y5 y6 y7 y8 g0 g1 g2 g3 g4 g5 g6 g7 g8 d0 d1 d2 d3 d4 d5 d6;obtain⟨z0,z1,z2,z3,z4,z5,z6,z7,z8⟩:=ak PJ;obtain⟨y0,y1,y2,y3,y4,y5,y6,y7,y8⟩:=ak hb4;have g0:=hb4.frozen 0;have g1:=hb4.frozen 1;have g2:=hb4.frozen 2;have g3:=hb4.frozen 3;have g4:=hb4.frozen 4;have g5:=hb4.frozen 5;have g6:=hb4.frozen 6;have g7:=hb4.frozen 7;have g8:=hb4.frozen 8;go_wp2;obtain⟨we,eB⟩:∃we,we=wf.setCells (w.heap.size+1+1) 0 [I J x.clock,U fo.1 x.fols.length fo.2,U fe.1 x.fees.length fe.2,U (some ⟨g,0,none⟩) x.itms.length rc,U se.1 x.seas.length se.2,I J x.tFol,I J x.tFee,I J x.tItm,I J x.tSea]:=⟨_,rfl⟩
 have eo:ai we (w.heap.size+1+1) 36 #[I J x.clock,U fo.1 x.fols.length fo.2,U fe.1 x.fees.length fe.2,U (some ⟨g,0,none⟩) x.itms.length rc,U se.1 x.seas.length se.2,I J x.tFol,I J x.tFee,I J x.tItm,I J x.tSea]:=by
  have:=ai.putL [I J x.clock,U fo.1 x.fols.length fo.2,U fe.1 x.fees.length fe.2,U (some ⟨g,0,none⟩) x.itms.length rc,U se.1 x.seas.length se.2,I J x.tFol,I J x.tFee,I J x.tItm,I J x.tSea] 0 hb4;rw[i7] at this;rw[eB];exact this
 have fe_:aa (λk=>k=w.heap.size+1+1) wf we:=by rw[eB];exact aa.setCells _ 0 (aa.refl _ _) (.inl rfl)
 have cY:Hid (aa ac w we):=(((uq.out.trans Z2.out).trans Z3.out).next ff (λk hk=>.inr (by omega))).next fe_ (λk hk=>.inr (by omega))
 have fp:=h_ eo
 have hrow:aN we (λk=>w.heap.size≤k) 9 (some ⟨g,0,none⟩,rc) x.itms.length ((ts.flatMap iY).set (p * 9+8) (U v'.1 (ei q.2.tags s (decide (n=1))).length v'.2)):=by
  have hr3:=qs.far fe_ (λk hk=>by omega) (λk hk e=>by simp[Value.ownBlock] at hk;omega);exact hr3.sl
 have HL:Hid ((gM aJ.id a (λt=>{t with tags:=ei t.tags s (decide (n=1))}) x.itms)=x.itms.set p ((λt=>{t with tags:=ei t.tags s (decide (n=1))}) x.itms[p])):=by
  unfold Hid;have:=@pT _ aJ.id a (λt=>{t with tags:=ei t.tags s (decide (n=1))}) x.itms (by rw[uR];exact hpl);simp only[uR] at this;exact this
 obtain⟨hq,nk,LX⟩:=HQ.out;rw[pU dp ts p mZ (v',((λt=>{t with tags:=ei t.tags s (decide (n=1))}) q.2)) 8 (by decide) _ (by rw[hq];rfl)] at hrow
 have uF:(ts.set p (v',((λt=>{t with tags:=ei t.tags s (decide (n=1))}) q.2))).map (·.2)=(gM aJ.id a (λt=>{t with tags:=ei t.tags s (decide (n=1))}) x.itms):=by
  rw[List.map_set,iW.out.same,HL.out,nk]
 have lG:(gM aJ.id a (λt=>{t with tags:=ei t.tags s (decide (n=1))}) x.itms).length=x.itms.length:=by rw[HL.out,List.length_set]
 have hlt2:(ts.set p (v',((λt=>{t with tags:=ei t.tags s (decide (n=1))}) q.2))).length=x.itms.length:=by rw[List.length_set,hlen]
 rw[←hlt2] at hrow;have hw2:=qU.out.lt;have Ys:=Z2.out.size
 have hV:aN we (λk=>G k∨w.heap.size≤k) 1 v' (ei q.2.tags s (decide (n=1))).length ((ei q.2.tags s (decide (n=1))).map Value.string):=by
  have h1:w2.heap.size≤w2.drew.heap.size:=(fR w2).drew.size;refine((HV.out.frm ff ?_).frm fe_ ?_).mono ?_
  ·exact λk hk e=>by subst e;first|omega|(simp at hk;omega)
  ·exact λk hk e=>by subst e;first|omega|(simp at hk;omega)
  ·exact λk hk=>.inr (by first|omega|(simp at hk;omega))
 have sf:∀q'∈ts.set p (v',((λt=>{t with tags:=ei t.tags s (decide (n=1))}) q.2)),aN we (λk=>G k∨w.heap.size≤k) 1 q'.1 q'.2.tags.length (q'.2.tags.map Value.string):=λq' hq'=>by
  rcases List.mem_or_eq_of_mem_set hq' with hq'|rfl
  ·exact((iW.out.nix cY.out).itms.tags q' hq').mono λk hk=>.inl hk
  ·exact hV
 simp only[World.setCells] at eB;rw[←eB];refine bodyPost_ret (jf fp.out rfl rfl) rfl ?_;exact⟨fo,fe,(some ⟨g,0,none⟩,rc),se,_,by rw[←lG];rfl,⟨(iW.out.nix cY.out).fols.mono λk hk=>.inl hk,(iW.out.nix cY.out).fees.mono λk hk=>.inl hk,⟨hrow.mono λk hk=>.inr hk,sf⟩,uF,(iW.out.nix cY.out).seas.mono λk hk=>.inl hk⟩,cY.out⟩
theorem EA(x:St)(e:Ev):(bB x e).2=av x e:=by
 unfold bB
 cases h:av x e<;>simp[h]
theorem sq{w:World}{fo fe it se:Sl}{ts:List (Sl×aJ)}{x:St}{G:Nat→Prop}(hS:aM w G fo fe it se ts x)(hsm:aH x)(e:Ev):
  Calls pQ 14 #[bE fo fe it se x,dt e] w (pV w G (bB x e).1 (bB x e).2):=by
 obtain⟨k,a,b,n,s,t,u⟩:=e
 cases hf:av x ⟨k,a,b,n,s,t,u⟩ with
 | false=>
   have h1:bB x ⟨k,a,b,n,s,t,u⟩=(x,false):=by unfold bB;rw[hf];rfl
   rw[h1]
   exact Hc hS hsm hf
 | true=>
   have h1:bB x ⟨k,a,b,n,s,t,u⟩=(iB x ⟨k,a,b,n,s,t,u⟩,true):=by unfold bB;rw[hf];rfl
   rw[h1];have:=vX (dx hf);simp only at this;rcases this with h|h|h|h|h|h|h|h|h|h|h|h|h
   ·exact py hS hsm (by omega) hf
   ·exact qW hS hsm (by omega) hf
   ·exact py hS hsm (by omega) hf
   ·exact qW hS hsm (by omega) hf
   ·subst h;exact LM hS hsm hf
   ·subst h;exact LU hS hsm hf
   ·exact py hS hsm (by omega) hf
   ·subst h;exact LV hS hsm hf
   ·subst h;exact LW hS hsm hf
   ·subst h;exact JI hS hsm hf
   ·exact py hS hsm (by omega) hf
   ·exact qW hS hsm (by omega) hf
   ·subst h;exact JH hS hsm hf
theorem Hd{g:Nat}{a0 a1 a2 a3 a4 a5 a6 a7 a8:Value}(hb:ai W g 36 #[a0,a1,a2,a3,a4,a5,a6,a7,a8])(h2:tmps.getD 2 undef=O (some ⟨g,0,none⟩)):
  (results Tryz.f15 tmps).run pQ W=.ok (.agg #[a0,a1,a2,a3,a4,a5,a6,a7,a8]) W:=by
 obtain⟨c0,c1,c2,c3,c4,c5,c6,c7,c8⟩:=ak hb;have h2':tmps[2]?.getD undef=O (some ⟨g,0,none⟩):=by simpa using h2
 simp[results,Tryz.results15,h2',go_sem,c0,c1,c2,c3,c4,c5,c6,c7,c8]
theorem Om(w:World):∃w0,w0=(w.alloc (.cells #[I J 0,U none 0 0,U none 0 0,U none 0 0,U none 0 0,I J 0,I J 0,I J 0,I J 0] 36)).alloc (.cells #[I J 0,U none 0 0,U none 0 0,U none 0 0,U none 0 0,I J 0,I J 0,I J 0,I J 0] 36)∧aa ac w w0∧ai w0 w.heap.size 36 #[I J 0,U none 0 0,U none 0 0,U none 0 0,U none 0 0,I J 0,I J 0,I J 0,I J 0]∧ai w0 (w.heap.size+1) 36 #[I J 0,U none 0 0,U none 0 0,U none 0 0,U none 0 0,I J 0,I J 0,I J 0,I J 0]∧w0.heap.size=w.heap.size+2:=by
 refine⟨_,rfl,((fR w).alloc _).alloc _,(ai.new w _ _).frm ((fR _).alloc _) id,?_,by simp⟩;have:=ai.new (w.alloc (.cells #[I J 0,U none 0 0,U none 0 0,U none 0 0,U none 0 0,I J 0,I J 0,I J 0,I J 0] 36)) 36 #[I J 0,U none 0 0,U none 0 0,U none 0 0,U none 0 0,I J 0,I J 0,I J 0,I J 0]
 simpa using this
theorem uK{w:World}{v:Sl}{G:Nat→Prop}(l:List Ev)(hv:aN w G 7 v l.length (l.flatMap Ev.cells))(hn:l.length≤1000000):
  Calls pQ 15 #[U v.1 l.length v.2] w λr w'=>∃(fo fe it se:Sl) (ts:List (Sl×aJ)),r=.returned (bE fo fe it se (cZ m9 l))∧aM w' (λk=>w.heap.size≤k) fo fe it se ts (cZ m9 l)∧aa ac w w':=by
 obtain⟨w0,hw0,hf0,hb1,hb2,hsz⟩:=Om w;obtain⟨A,c⟩:=v;have hv:=hv.old;have Yt:Hid (∀k,(G k∧k<w.heap.size)→k<w.heap.size):=λk h=>h.2
 have HV:=h_ hv;have HW:=h_ hw0;have dM:=h_ hf0;have gH:=h_ hb1;have kh:=h_ hb2;have HZ:=h_ hsz;obtain⟨n,lG⟩:∃n,l.length=n:=⟨_,rfl⟩;have HL:=h_ lG;rw[lG] at hn;dsimp only;rw[lG];clear hv hw0 hf0 hb1 hb2 hsz lG;go_enter Tryz.func15,Tryz.ntmps15;show Code.wp pQ (aj 0 (ae Tryz.f15)) _ _ _
 refine aG (k':=1) λK hK=>?_
 conv in bz _=>whnf
 go_wp2;refine aG (k':=2) λK hK=>?_
 conv in bz _=>whnf
 go_wp2;rw[←HW.out];refine aG (k':=3) λK hK=>?_
 conv in bz _=>whnf
 go_wp2
 go_loopw [4] (λkv wr=>∃(k:Nat) (fo fe it se:Sl) (ts:List (Sl×aJ)) (x:St),k≤n∧kv=I J k∧x=cZ m9 (l.take k)∧ai wr (w.heap.size+1) 36 #[I J x.clock,U fo.1 x.fols.length fo.2,U fe.1 x.fees.length fe.2,U it.1 x.itms.length it.2,U se.1 x.seas.length se.2,I J x.tFol,I J x.tFee,I J x.tItm,I J x.tSea]∧aM wr (λk=>w.heap.size+1<k) fo fe it se ts x∧ai wr w.heap.size 36 #[I J 0,U none 0 0,U none 0 0,U none 0 0,U none 0 0,I J 0,I J 0,I J 0,I J 0]∧aa ac w wr) (λkv _=>n-(intOf kv).toNat)
 case atStart=>exact⟨0,(none,0),(none,0),(none,0),(none,0),[],m9,by omega,rfl,rfl,kh.out,aM.zero _ _,gH.out,dM.out⟩
 case round=>
  obtain⟨k,fo,fe,it,se,ts,x,hk,rfl,hx,hb,hs,hz,hf⟩:=hrel;have HX:=h_ hx;have HB:=h_ hb;have HS:=h_ hs;have uL:=h_ hz;have HF:=h_ hf;have HP:Hid (di x):=by rw[hx];exact qK _ yS
  clear hx hb hs hz hf
  by_cases hlt:k<n
  ·have dX:k<l.length:=by rw[HL.out];exact hlt
   obtain⟨b,off,hA,hgb,hbl,hcell⟩:=pO HV.out HF.out dX;subst hA;have E7:=h_ (qj (x:=m9) dX);obtain⟨ev,hev⟩:∃ev,l[k]=ev:=⟨_,rfl⟩;rw[hev] at hcell E7;have KA:Hid (∀W,aa ac wr W→Calls pQ 14 #[bE fo fe it se x,.agg #[I J ev.kind,I J ev.a,I J ev.b,I J ev.n,V ev.s,V ev.t,V ev.u]] W (pV W (λk=>w.heap.size+1<k) (bB x ev).1 (bB x ev).2)):=λW hW=>sq (HS.out.nix hW) HP.out.small ev
   obtain⟨x0,x1,x2,x3,x4,x5,x6,x7,x8⟩:=ak HB.out;obtain⟨c0,c1,c2,c3,c4,c5,c6⟩:=hcell ac wr id (aa.refl _ _);have Ua:=HB.out.lt;have HC:Hid (∀W,aa ac wr W→(W.cell? ⟨w.heap.size+1,0,none⟩=some (I J x.clock)∧W.cell? ⟨w.heap.size+1,1,none⟩=some (U fo.1 x.fols.length fo.2)∧W.cell? ⟨w.heap.size+1,2,none⟩=some (U fe.1 x.fees.length fe.2)∧W.cell? ⟨w.heap.size+1,3,none⟩=some (U it.1 x.itms.length it.2)∧W.cell? ⟨w.heap.size+1,4,none⟩=some (U se.1 x.seas.length se.2)∧W.cell? ⟨w.heap.size+1,5,none⟩=some (I J x.tFol)∧W.cell? ⟨w.heap.size+1,6,none⟩=some (I J x.tFee)∧W.cell? ⟨w.heap.size+1,7,none⟩=some (I J x.tItm)∧W.cell? ⟨w.heap.size+1,8,none⟩=some (I J x.tSea))∧W.cell? ⟨b,off+k * 7,none⟩=some (I J ev.kind)∧W.cell? ⟨b,off+k * 7+1,none⟩=some (I J ev.a)∧W.cell? ⟨b,off+k * 7+2,none⟩=some (I J ev.b)∧W.cell? ⟨b,off+k * 7+3,none⟩=some (I J ev.n)∧W.cell? ⟨b,off+k * 7+4,none⟩=some (V ev.s)∧W.cell? ⟨b,off+k * 7+5,none⟩=some (V ev.t)∧W.cell? ⟨b,off+k * 7+6,none⟩=some (V ev.u)):=λW hW=>⟨ak (HB.out.frm hW id),hcell ac W id hW⟩
   clear hcell hev;obtain⟨y,hy⟩:∃y,(bB x ev).1=y:=⟨_,rfl⟩;obtain⟨bb,rI⟩:∃bb,(bB x ev).2=bb:=⟨_,rfl⟩;rw[hy,rI] at KA;have HY:Hid (y=cZ m9 (l.take (k+1))):=by unfold Hid;rw[E7.out,←HX.out,hy]
   clear hy rI;go_wp2;have xy:¬w.heap.size+1=b:=by have:=Yt.out b hgb;omega
   have QH:¬b=w.heap.size+1:=λe=>xy e.symm
   refine wp_region_held_drew (S:=λW=>W.cell? ⟨b,off+k * 7,none⟩=some (I J ev.kind)∧W.cell? ⟨b,off+k * 7+1,none⟩=some (I J ev.a)∧W.cell? ⟨b,off+k * 7+2,none⟩=some (I J ev.b)∧W.cell? ⟨b,off+k * 7+3,none⟩=some (I J ev.n)∧W.cell? ⟨b,off+k * 7+4,none⟩=some (V ev.s)∧W.cell? ⟨b,off+k * 7+5,none⟩=some (V ev.t)∧W.cell? ⟨b,off+k * 7+6,none⟩=some (V ev.u)) (by kernel_rfl) (HC.out _ (fR wr).drew).2 λhH=>?_
   refine sx (i:=1) rfl (λ_ _ _ h=>h) hH ?_
   try simp only[lt]
   refine sx (i:=2) rfl (λ_ _ _ h=>h) hH ?_
   try simp only[lt]
   refine sx (i:=3) rfl (λ_ _ _ h=>h) hH ?_
   try simp only[lt]
   refine sx (i:=4) rfl (λ_ _ _ h=>h) hH ?_
   try simp only[lt]
   refine aD (i:=0) rfl (λK hK=>?_);go_simp;refine hK.out _ _ (HC.out _ (fR wr).drew).2 (λhH=>?_);clear hK K
   try simp only[lt]
   refine aD (i:=5) rfl (λK hK=>?_);go_simp;go_at_call 14;refine(KA.out _ (fR _).drew).mono ?_;rintro r w1 ⟨fo',fe',it',se',ts',rfl,hs,hf⟩;have Hj:=h_ hs;have Z1:Hid (aa ac wr w1):=(fR _).drew.trans hf;clear hs hf;have hb1:=HB.out.frm Z1.out id;obtain⟨y0,y1,y2,y3,y4,y5,y6,y7,y8⟩:=ak hb1;have g0:=hb1.frozen 0;have g1:=hb1.frozen 1;have g2:=hb1.frozen 2;have g3:=hb1.frozen 3;have g4:=hb1.frozen 4;have g5:=hb1.frozen 5;have g6:=hb1.frozen 6;have g7:=hb1.frozen 7;have g8:=hb1.frozen 8;unfold bE;dsimp only;refine hK.out _ _ (HC.out _ Z1.out).2 (λhH=>?_);clear hK K
   try simp only[lt]
   refine sx (i:=6) rfl (λ_ _ _ h=>h) hH ?_
   try simp only[lt]
   refine sx (i:=7) rfl (λ_ _ _ h=>h) hH ?_
   try simp only[lt]
   refine sx (i:=8) rfl (λ_ _ _ h=>h) hH ?_
   try simp only[lt]
   refine aD (i:=9) rfl (λK hK=>?_);go_simp;refine hK.out _ _ (by obtain⟨c0,c1,c2,c3,c4,c5,c6⟩:=HC.out _ Z1.out |>.2;simp[*,World.cell?_setCell_far]) (λhH=>?_);clear hK K
   try simp only[lt]
   refine wpAnyH_done (by kernel_rfl) ?_ _
   all_goals
    obtain⟨we,eB⟩:∃we,we=w1.setCells (w.heap.size+1) 0 [I J y.clock,U fo'.1 y.fols.length fo'.2,U fe'.1 y.fees.length fe'.2,U it'.1 y.itms.length it'.2,U se'.1 y.seas.length se'.2,I J y.tFol,I J y.tFee,I J y.tItm,I J y.tSea]:=⟨_,rfl⟩
    have eo:ai we (w.heap.size+1) 36 #[I J y.clock,U fo'.1 y.fols.length fo'.2,U fe'.1 y.fees.length fe'.2,U it'.1 y.itms.length it'.2,U se'.1 y.seas.length se'.2,I J y.tFol,I J y.tFee,I J y.tItm,I J y.tSea]:=by
     have:=ai.putL [I J y.clock,U fo'.1 y.fols.length fo'.2,U fe'.1 y.fees.length fe'.2,U it'.1 y.itms.length it'.2,U se'.1 y.seas.length se'.2,I J y.tFol,I J y.tFee,I J y.tItm,I J y.tSea] 0 hb1;rw[i7] at this;rw[eB];exact this
    have fe_:aa (λk=>k=w.heap.size+1) w1 we:=by rw[eB];exact aa.setCells _ 0 (aa.refl _ _) (.inl rfl)
    simp only[World.setCells] at eB;rw[←eB];have QI:aa ac w we:=(HF.out.trans Z1.out).next fe_ (λk hk=>.inr (by omega))
    have QJ:aM we (λk=>w.heap.size+1<k) fo' fe' it' se' ts' y:=(Hj.out.mono (G':=λk=>w.heap.size+1<k) λk hk=>by rcases hk with hk|hk;exact hk;have h1:=Ua;have h2:wr.heap.size≤wr.drew.heap.size:=(fR wr).drew.size;first|omega|(simp at hk;omega)).frm fe_ λk hk e=>by omega
    have QK:ai we w.heap.size 36 #[I J 0,U none 0 0,U none 0 0,U none 0 0,U none 0 0,I J 0,I J 0,I J 0,I J 0]:=(uL.out.frm Z1.out id).frm fe_ (by simp);have H9:=h_ (And.intro eo (And.intro QJ (And.intro QK QI)));clear eB eo fe_ QI QJ QK hb1;go_wp2;go_roundw
    case rel=>exact⟨k+1,fo',fe',it',se',ts',y,by omega,by go_num,HY.out,H9.out⟩
    case measure=>simp[intOf];omega
  ·obtain rfl:k=n:=by omega
   have xg:Hid (x=cZ m9 l):=by unfold Hid;rw[HX.out,List.take_of_length_le (by rw[HL.out];exact Nat.le_refl _)]
   obtain⟨x0,x1,x2,x3,x4,x5,x6,x7,x8⟩:=ak HB.out;obtain⟨y0,y1,y2,y3,y4,y5,y6,y7,y8⟩:=ak uL.out;have g0:=uL.out.frozen 0;have g1:=uL.out.frozen 1;have g2:=uL.out.frozen 2;have g3:=uL.out.frozen 3;have g4:=uL.out.frozen 4;have g5:=uL.out.frozen 5;have g6:=uL.out.frozen 6;have g7:=uL.out.frozen 7;have g8:=uL.out.frozen 8;go_wp2;simp only[aj,ae,Tryz.f15];go_wp2;obtain⟨we,eB⟩:∃we,we=wr.setCells w.heap.size 0 [I J x.clock,U fo.1 x.fols.length fo.2,U fe.1 x.fees.length fe.2,U it.1 x.itms.length it.2,U se.1 x.seas.length se.2,I J x.tFol,I J x.tFee,I J x.tItm,I J x.tSea]:=⟨_,rfl⟩
   have eo:ai we w.heap.size 36 #[I J x.clock,U fo.1 x.fols.length fo.2,U fe.1 x.fees.length fe.2,U it.1 x.itms.length it.2,U se.1 x.seas.length se.2,I J x.tFol,I J x.tFee,I J x.tItm,I J x.tSea]:=by
    have:=ai.putL [I J x.clock,U fo.1 x.fols.length fo.2,U fe.1 x.fees.length fe.2,U it.1 x.itms.length it.2,U se.1 x.seas.length se.2,I J x.tFol,I J x.tFee,I J x.tItm,I J x.tSea] 0 uL.out;rw[i7] at this;rw[eB];exact this
   have fe_:aa (λk=>k=w.heap.size) wr we:=by rw[eB];exact aa.setCells _ 0 (aa.refl _ _) (.inl rfl)
   have Ub:Hid (aa ac w we):=HF.out.next fe_ (λk hk=>.inr (by omega))
   have fp:=h_ eo;have QG:Hid (aM we (λk=>w.heap.size≤k) fo fe it se ts x):=(HS.out.frm fe_ λk hk e=>by omega).mono λk hk=>by omega
   simp only[World.setCells] at eB;rw[←eB];refine bodyPost_ret (Hd fp.out rfl) rfl ?_;rw[←xg.out];exact⟨fo,fe,it,se,ts,rfl,QG.out,Ub.out⟩
end Go.Proofs.YtaecjmiobllhmaaGreat
