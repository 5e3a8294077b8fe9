/- Words. -/
import Derived.Test.YtaecjmiobllhmaaGreatGr86
set_option linter.unusedVariables false
set_option linter.unusedSimpArgs false
set_option maxRecDepth 100000
set_option maxHeartbeats 16000000
namespace Go.Proofs.YtaecjmiobllhmaaGreat
open Go.Value renaming int→I,string→V,slice→U,pointer→O
open Go.IntKind renaming i64→J
open Tryz renaming prog→pQ
open Go.RowKit Go.Lib
variable {G:Nat→Prop}{w W:World}{vw:Sl}{d:WD}{g:Nat}{fo fe it se:Sl}{ts:List (Sl×aR)}{m:Mv}{Gm:Nat→Prop}
structure qK where
 v:Sl
 d:WD
def qK.cells(p:qK):List Value:=[I J p.d.mode,U p.v.1 p.d.all.length p.v.2,I J p.d.last,I J p.d.sure,I J p.d.snap]
theorem qK.clen(p:qK):p.cells.length=5:=rfl
theorem qK.one(p:qK):∀u∈p.cells,u.oneCell'=true:=by
 intro u hu;simp[qK.cells] at hu;rcases hu with rfl|rfl|rfl|rfl|rfl<;>rfl
def bJ(w:World)(G:Nat→Prop)(ls:List WD)(e:Ending)(w':World):Prop:=
 ∃(v:Sl) (l:List qK),e=.returned (U v.1 ls.length v.2)∧l.map (·.d)=ls∧aF w' (λk=>w.heap.size≤k) 5 v l.length (l.flatMap qK.cells)∧(∀p∈l,aF w' (λk=>G k∨w.heap.size≤k) 7 p.v p.d.all.length (p.d.all.flatMap Ev.cells))∧aa ag w w'
theorem bJ.up{w w1 w2:World}{ls:List WD}{e:Ending}(hf:aa ag w w1)(h:bJ w1 G ls e w2):bJ w G ls e w2:=by
 obtain⟨v,l,h1,h2,h3,h4,h5⟩:=h;exact⟨v,l,h1,h2,h3.mono λk hk=>Nat.le_trans hf.size hk,λp hp=>(h4 p hp).mono λk hk=>hk.imp id λh=>Nat.le_trans hf.size h,hf.trans h5⟩
theorem gD(hF:aa ag w W):bJ w G [] (.returned (U none 0 0)) W:=
 ⟨(none,0),[],rfl,rfl,aF.none_ _ _ _,(λp hp=>by cases hp),hF⟩
theorem xC(hF:aa ag w W)(hv:aF W (λk=>G k∨w.heap.size≤k) 7 vw d.all.length (d.all.flatMap Ev.cells)):
  bJ w G [d] (.returned (U (some ⟨W.heap.size,0,none⟩) 1 1)) (W.alloc (.cells #[I J d.mode,U vw.1 d.all.length vw.2,I J d.last,I J d.sure,I J d.snap] 74)):=by
 have q:=(aI.lit (s:=5) 74 hF 1 (qK.cells ⟨vw,d⟩) rfl (by unfold maxLen;omega)).sl;refine⟨(some ⟨W.heap.size,0,none⟩,1),[⟨vw,d⟩],rfl,rfl,?_,λp hp=>?_,hF.alloc _⟩
 ·rw[List.flatMap_singleton]
  exact q
 ·rw[List.mem_singleton.1 hp]
  exact hv.nix ((fR W).alloc _)
theorem O5{v1 v2 v3 v4:Sl}{d1 d2 d3 d4:WD}(hF:aa ag w W)(h1:aF W G 7 v1 d1.all.length (d1.all.flatMap Ev.cells))(h2:aF W G 7 v2 d2.all.length (d2.all.flatMap Ev.cells))(h3:aF W G 7 v3 d3.all.length (d3.all.flatMap Ev.cells))(h4:aF W G 7 v4 d4.all.length (d4.all.flatMap Ev.cells)):
  bJ w G [d1,d2,d3,d4] (.returned (U (some ⟨W.heap.size,0,none⟩) 4 4)) (W.alloc (.cells #[I J d1.mode,U v1.1 d1.all.length v1.2,I J d1.last,I J d1.sure,I J d1.snap,I J d2.mode,U v2.1 d2.all.length v2.2,I J d2.last,I J d2.sure,I J d2.snap,I J d3.mode,U v3.1 d3.all.length v3.2,I J d3.last,I J d3.sure,I J d3.snap,I J d4.mode,U v4.1 d4.all.length v4.2,I J d4.last,I J d4.sure,I J d4.snap] 74)):=by
 have q:=(aI.lit (s:=5) 74 hF 4 ([⟨v1,d1⟩,⟨v2,d2⟩,⟨v3,d3⟩,⟨v4,d4⟩].flatMap qK.cells) rfl (by unfold maxLen;omega)).sl;refine⟨(some ⟨W.heap.size,0,none⟩,4),[⟨v1,d1⟩,⟨v2,d2⟩,⟨v3,d3⟩,⟨v4,d4⟩],rfl,rfl,q,λp hp=>?_,hF.alloc _⟩;have hA:aa ag W (W.alloc (.cells #[I J d1.mode,U v1.1 d1.all.length v1.2,I J d1.last,I J d1.sure,I J d1.snap,I J d2.mode,U v2.1 d2.all.length v2.2,I J d2.last,I J d2.sure,I J d2.snap,I J d3.mode,U v3.1 d3.all.length v3.2,I J d3.last,I J d3.sure,I J d3.snap,I J d4.mode,U v4.1 d4.all.length v4.2,I J d4.last,I J d4.sure,I J d4.snap] 74)):=(fR W).alloc _;simp only[List.mem_cons,List.not_mem_nil,or_false] at hp;rcases hp with rfl|rfl|rfl|rfl
 ·exact(h1.nix hA).mono λ_=>.inl
 ·exact(h2.nix hA).mono λ_=>.inl
 ·exact(h3.nix hA).mono λ_=>.inl
 ·exact(h4.nix hA).mono λ_=>.inl
theorem bP{a b c e f:Value}(hb:aj W g 74 #[a,b,c,e,f]):W.cell? ⟨g,0,none⟩=some a∧W.cell? ⟨g,1,none⟩=some b∧W.cell? ⟨g,2,none⟩=some c∧W.cell? ⟨g,3,none⟩=some e∧W.cell? ⟨g,4,none⟩=some f:=
 ⟨(hb.cell 0).trans rfl,(hb.cell 1).trans rfl,(hb.cell 2).trans rfl,(hb.cell 3).trans rfl,(hb.cell 4).trans rfl⟩
theorem d7(h:jE w G fo fe it se ts m):Calls pQ 67 #[.agg #[I J m.kind,I J m.ev.kind,I J m.ev.a,I J m.ev.b,I J m.ev.n,V m.ev.s,V m.ev.t,V m.ev.u,I J m.err,I J m.last,I J m.snap,I J m.st.clock,U fo.1 m.st.fols.length fo.2,U fe.1 m.st.fees.length fe.2,U it.1 m.st.itms.length it.2,U se.1 m.st.seas.length se.2,I J m.st.tFol,I J m.st.tFee,I J m.st.tItm,I J m.st.tSea]] w λe w'=>e=.returned (.bool (aN m))∧aa ag w w':=by
 have KS:Hid (∀W,aa ag w W→Calls pQ 16 #[.agg #[I J m.st.clock,U fo.1 m.st.fols.length fo.2,U fe.1 m.st.fees.length fe.2,U it.1 m.st.itms.length it.2,U se.1 m.st.seas.length se.2,I J m.st.tFol,I J m.st.tFee,I J m.st.tItm,I J m.st.tSea],.agg #[I J 0,U none 0 0,U none 0 0,U none 0 0,U none 0 0,I J 0,I J 0,I J 0,I J 0]] W λe w'=>e=.returned (.bool (decide (m.st=iV)))∧aa ag W w'):=λW hW=>by
  have q:=uF (h.st.nix hW) (aY.zero W λ_=>False) h.small DM;exact q
 have HE:Hid (aN m=(decide (m.snap=0)&&decide (m.st=iV))):=rfl;clear h;generalize decide (m.st=iV)=q at *
 by_cases h0:m.snap=0
 ·have e0:(m.snap==0)=true:=beq_iff_eq.2 h0
  have xa:Hid (aN m=q):=by unfold Hid;rw[HE.out,decide_eq_true h0,Bool.true_and]
  clear h0 HE;go_enter Tryz.func67,Tryz.ntmps67;go_wp2_with (first|(go_at_call 16;refine(KS.out _ ((fR w).alloc _)).mono ?_;rintro e w1 ⟨rfl,hf⟩;have Z1:Hid (aa ag w w1):=((fR w).alloc _).trans hf;clear hf)|fail);go_ret;exact⟨af xa.out.symm,Z1.out⟩
 ·have e0:(m.snap==0)=false:=beq_eq_false_iff_ne.2 h0
  have xa:Hid (aN m=false):=by unfold Hid;rw[HE.out,decide_eq_false h0];rfl
  clear h0 HE;go_enter Tryz.func67,Tryz.ntmps67;go_wp2;go_ret;exact⟨af xa.out.symm,(fR w).alloc _⟩
theorem F7{tmps:Array Value}{a0 a1 a2 a3 a4 a5 a6 a7 a8:Value}(hb:aj W g 36 #[a0,a1,a2,a3,a4,a5,a6,a7,a8])(h2:tmps.getD 2 undef=O (some ⟨g,0,none⟩)):
  (results Tryz.f126 tmps).run pQ W=.ok (.agg #[a0,a1,a2,a3,a4,a5,a6,a7,a8]) W:=by
 obtain⟨c0,c1,c2,c3,c4,c5,c6,c7,c8⟩:=aA hb;have h2':tmps[2]?.getD undef=O (some ⟨g,0,none⟩):=by simpa using h2
 simp[results,Tryz.results126,h2',go_sem,c0,c1,c2,c3,c4,c5,c6,c7,c8]
theorem IV(fo fe it se:Sl)(x:St):∀u∈([I J x.clock,U fo.1 x.fols.length fo.2,U fe.1 x.fees.length fe.2,U it.1 x.itms.length it.2,U se.1 x.seas.length se.2,I J x.tFol,I J x.tFee,I J x.tItm,I J x.tSea]:List Value),u.oneCell'=true:=by
 intro u hu;simp at hu;rcases hu with rfl|rfl|rfl|rfl|rfl|rfl|rfl|rfl|rfl<;>rfl
theorem zN(hv:aF w G 7 vw d.all.length (d.all.flatMap Ev.cells))(hl:d.last≤d.all.length)(hn:d.all.length≤10000):
  Calls pQ 126 #[.agg #[I J d.mode,U vw.1 d.all.length vw.2,I J d.last,I J d.sure,I J d.snap]] w λr w'=>∃(fo fe it se:Sl) (ts:List (Sl×aR)),r=.returned (.agg #[I J (pZ d).clock,U fo.1 (pZ d).fols.length fo.2,U fe.1 (pZ d).fees.length fe.2,U it.1 (pZ d).itms.length it.2,U se.1 (pZ d).seas.length se.2,I J (pZ d).tFol,I J (pZ d).tFee,I J (pZ d).tItm,I J (pZ d).tSea])∧aY w' (λk=>w.heap.size≤k) fo fe it se ts (pZ d)∧aa ag w w':=by
 obtain⟨W0,hW0⟩:∃W0,W0=(w.alloc (.cells #[I J d.mode,U vw.1 d.all.length vw.2,I J d.last,I J d.sure,I J d.snap] 74)).alloc (.cells #[I J 0,U none 0 0,U none 0 0,U none 0 0,U none 0 0,I J 0,I J 0,I J 0,I J 0] 36):=⟨_,rfl⟩;have bI:Hid (aa ag w W0):=by unfold Hid;rw[hW0];exact((fR w).alloc _).alloc _
 have HBw:Hid (aj W0 w.heap.size 74 #[I J d.mode,U vw.1 d.all.length vw.2,I J d.last,I J d.sure,I J d.snap]):=by unfold Hid;rw[hW0];exact(aj.new w _ _).alloc _
 have HBs:Hid (aj W0 (w.heap.size+1) 36 #[I J 0,U none 0 0,U none 0 0,U none 0 0,U none 0 0,I J 0,I J 0,I J 0,I J 0]):=by
  unfold Hid;rw[hW0];have q:=aj.new (w.alloc (.cells #[I J d.mode,U vw.1 d.all.length vw.2,I J d.last,I J d.sure,I J d.snap] 74)) 36 #[I J 0,U none 0 0,U none 0 0,U none 0 0,U none 0 0,I J 0,I J 0,I J 0,I J 0];rw[show (w.alloc (.cells #[I J d.mode,U vw.1 d.all.length vw.2,I J d.last,I J d.sure,I J d.snap] 74)).heap.size=w.heap.size+1 by simp] at q;exact q
 have HW:=h_ hW0;obtain⟨A,c⟩:=vw;have cm:d.all.length≤c:=hv.cap;have hmx:c≤maxLen:=hv.max;have hnil:A=none→c=0:=hv.nil;obtain⟨y,hy⟩:∃y,pZ d=y:=⟨_,rfl⟩
 have KF:Hid (∀W,aa ag w W→Calls pQ 15 #[U A d.last c] W λe w'=>∃(fo fe it se:Sl) (ts:List (Sl×aR)),e=.returned (.agg #[I J y.clock,U fo.1 y.fols.length fo.2,U fe.1 y.fees.length fe.2,U it.1 y.itms.length it.2,U se.1 y.seas.length se.2,I J y.tFol,I J y.tFee,I J y.tItm,I J y.tSea])∧aY w' (λk=>W.heap.size≤k) fo fe it se ts y∧aa ag W w'):=λW hW=>by
  have q:=uL (v:=(A,c)) (d.all.take d.last) (EvsAll.first (hv.nix hW) hl) (by rw[List.length_take];omega);have e:bG iV (d.all.take d.last)=y:=hy;rw[e,List.length_take,Nat.min_eq_left hl] at q;exact q
 rw[hy];have wJ:(0:Int)≤(d.last:Int):=by omega
 have I5:(d.last:Int)≤(c:Int):=by omega
 have Il:(d.last:Int)≤(d.all.length:Int):=by omega
 have hi4:(d.all.length:Int)≤(c:Int):=by omega
 obtain⟨b0,b1,b2,b3,b4⟩:=bP HBw.out;clear hW0 hv hy hl;dsimp only at *;generalize d.all.length=na at *;generalize d.last=la at *;go_enter Tryz.func126,Tryz.ntmps126;show Code.wp pQ (ai 0 (ae Tryz.f126)) _ _ _
 refine aC (k':=1) λK hK=>?_
 conv in aD _=>whnf
 go_wp2;rw[←HW.out];simp only[ai,ae,Tryz.f126];go_wp2_with (first|(go_at_call 15;refine(KF.out _ bI.out).mono ?_;rintro e w1 ⟨fo,fe,it,se,ts,rfl,hd,hf⟩;have D1:=h_ hd;have Y1:=h_ hf;clear hd hf)|(refine Kw (l:=[I J y.clock,U fo.1 y.fols.length fo.2,U fe.1 y.fees.length fe.2,U it.1 y.itms.length it.2,U se.1 y.seas.length se.2,I J y.tFol,I J y.tFee,I J y.tItm,I J y.tSea]) (HBs.out.frm Y1.out id) rfl rfl (IV fo fe it se y) _ _ rfl rfl rfl rfl ?_;intro w2 hw2;have HW2:=h_ hw2;clear hw2)|fail)
 have im:Hid (aj w2 (w.heap.size+1) 36 #[I J y.clock,U fo.1 y.fols.length fo.2,U fe.1 y.fees.length fe.2,U it.1 y.itms.length it.2,U se.1 y.seas.length se.2,I J y.tFol,I J y.tFee,I J y.tItm,I J y.tSea]):=by
  have q:=aj.putL [I J y.clock,U fo.1 y.fols.length fo.2,U fe.1 y.fees.length fe.2,U it.1 y.itms.length it.2,U se.1 y.seas.length se.2,I J y.tFol,I J y.tFee,I J y.tItm,I J y.tSea] 0 (HBs.out.frm Y1.out id);rw[kK] at q;unfold Hid;rw[HW2.out];exact q
 have kX:Hid (aa (λk=>k=w.heap.size+1) w1 w2):=by unfold Hid;rw[HW2.out];exact aa.setCells _ 0 (aa.refl _ _) (.inl rfl)
 have HZ:Hid (W0.heap.size=w.heap.size+2):=by unfold Hid;rw[HW.out];simp
 refine bodyPost_ret (F7 im.out rfl) rfl ?_;exact⟨fo,fe,it,se,ts,rfl,(D1.out.frm kX.out λk hk e=>by have:=HZ.out;omega).mono λk hk=>by have:=HZ.out;omega,(bI.out.trans Y1.out).next kX.out λk hk=>.inr (by omega)⟩
theorem B7{G G':Nat→Prop}{vw ve:Sl}{d e:WD}(hv:aF w G 7 vw d.all.length (d.all.flatMap Ev.cells))(he:aF w G' 7 ve e.all.length (e.all.flatMap Ev.cells)):
  Calls pQ 29 #[.agg #[I J d.mode,U vw.1 d.all.length vw.2,I J d.last,I J d.sure,I J d.snap],.agg #[I J e.mode,U ve.1 e.all.length ve.2,I J e.last,I J e.sure,I J e.snap]] w λr w'=>r=.returned (.bool (decide (d=e)))∧aa ag w w':=by
 obtain⟨W0,hW0⟩:∃W0,W0=(w.alloc (.cells #[I J d.mode,U vw.1 d.all.length vw.2,I J d.last,I J d.sure,I J d.snap] 74)).alloc (.cells #[I J e.mode,U ve.1 e.all.length ve.2,I J e.last,I J e.sure,I J e.snap] 74):=⟨_,rfl⟩;have bI:Hid (aa ag w W0):=by unfold Hid;rw[hW0];exact((fR w).alloc _).alloc _
 have HBw:Hid (aj W0 w.heap.size 74 #[I J d.mode,U vw.1 d.all.length vw.2,I J d.last,I J d.sure,I J d.snap]):=by unfold Hid;rw[hW0];exact(aj.new w _ _).alloc _
 have lS:Hid (aj W0 (w.heap.size+1) 74 #[I J e.mode,U ve.1 e.all.length ve.2,I J e.last,I J e.sure,I J e.snap]):=by
  unfold Hid;rw[hW0];have q:=aj.new (w.alloc (.cells #[I J d.mode,U vw.1 d.all.length vw.2,I J d.last,I J d.sure,I J d.snap] 74)) 74 #[I J e.mode,U ve.1 e.all.length ve.2,I J e.last,I J e.sure,I J e.snap];rw[show (w.alloc (.cells #[I J d.mode,U vw.1 d.all.length vw.2,I J d.last,I J d.sure,I J d.snap] 74)).heap.size=w.heap.size+1 by simp] at q;exact q
 have HW:=h_ hW0;obtain⟨R,hR⟩:∃R,decide (d=e)=R:=⟨_,rfl⟩;rw[hR];have yc:Hid (∀(p:WD→WD→Prop),(∀d,p d d)→¬p d e→R=false):=λp h1 h2=>by rw[←hR];exact decide_eq_false λh=>h2 (h ▸ h1 d)
 have uZ:Hid (d.mode=e.mode→d.all=e.all→d.last=e.last→d.sure=e.sure→d.snap=e.snap→R=true):=λh1 h2 h3 h4 h5=>by
  rw[←hR];refine decide_eq_true ?_
  cases d;cases e
  simp only at h1 h2 h3 h4 h5;subst h1 h2 h3 h4 h5;rfl
 obtain⟨b14,NC⟩:∃b14,decide (d.all=e.all)=b14:=⟨_,rfl⟩
 have O6:Hid (∀W,aa ag w W→Calls pQ 22 #[U vw.1 d.all.length vw.2,U ve.1 e.all.length ve.2] W λr w'=>r=.returned (.bool b14)∧aa ag W w'):=λW hW=>by
  have q:=B5 d.all e.all (hv.nix hW) (he.nix hW);rw[NC] at q;exact q
 obtain⟨b0,b1,b2,b3,b4⟩:=bP HBw.out;obtain⟨c0,c1,c2,c3,c4⟩:=bP lS.out;clear hW0 hR hv he
 by_cases h1:d.mode=e.mode
 ·have q1:(d.mode==e.mode)=true:=beq_iff_eq.2 h1
  cases b14 with
  | false=>
    have HR:Hid (R=false):=yc.out (λa b=>a.all=b.all) (λ_=>rfl) (of_decide_eq_false NC);clear h1 NC;go_enter Tryz.func29,Tryz.ntmps29;show Code.wp pQ (ai 0 (ae Tryz.f29)) _ _ _
    refine aC (k':=1) λK hK=>?_
    conv in aD _=>whnf
    go_wp2;rw[←HW.out];simp only[ai,ae,Tryz.f29];go_wp2_with (first|(go_at_call 22;refine(O6.out _ bI.out).mono ?_;rintro r w1 ⟨rfl,hf⟩;have Y1:Hid (aa ag w w1):=bI.out.trans hf;obtain⟨b0,b1,b2,b3,b4⟩:=bP (HBw.out.frm hf id);obtain⟨c0,c1,c2,c3,c4⟩:=bP (lS.out.frm hf id);clear hf)|fail);go_ret
    exact⟨by rw[HR.out];rfl,Y1.out⟩
  | true=>
    have h2:d.all=e.all:=of_decide_eq_true NC;clear NC
    by_cases h3:d.last=e.last
    ·have q3:((d.last:Int)==(e.last:Int))=true:=beq_iff_eq.2 (by omega)
     by_cases h4:d.sure=e.sure
     ·have q4:(d.sure==e.sure)=true:=beq_iff_eq.2 h4
      by_cases h5:d.snap=e.snap
      ·have q5:(d.snap==e.snap)=true:=beq_iff_eq.2 h5
       have HR:Hid (R=true):=uZ.out h1 h2 h3 h4 h5;clear h1 h2 h3 h4 h5;go_enter Tryz.func29,Tryz.ntmps29;show Code.wp pQ (ai 0 (ae Tryz.f29)) _ _ _
       refine aC (k':=1) λK hK=>?_
       conv in aD _=>whnf
       go_wp2;rw[←HW.out];simp only[ai,ae,Tryz.f29];go_wp2_with (first|(go_at_call 22;refine(O6.out _ bI.out).mono ?_;rintro r w1 ⟨rfl,hf⟩;have Y1:Hid (aa ag w w1):=bI.out.trans hf;obtain⟨b0,b1,b2,b3,b4⟩:=bP (HBw.out.frm hf id);obtain⟨c0,c1,c2,c3,c4⟩:=bP (lS.out.frm hf id);clear hf)|fail);go_ret;exact⟨by rw[HR.out];rfl,Y1.out⟩
      ·have q5:(d.snap==e.snap)=false:=beq_eq_false_iff_ne.2 h5
       have HR:Hid (R=false):=yc.out (λa b=>a.snap=b.snap) (λ_=>rfl) h5;clear h1 h2 h3 h4 h5;go_enter Tryz.func29,Tryz.ntmps29;show Code.wp pQ (ai 0 (ae Tryz.f29)) _ _ _
       refine aC (k':=1) λK hK=>?_
       conv in aD _=>whnf
       go_wp2;rw[←HW.out];simp only[ai,ae,Tryz.f29];go_wp2_with (first|(go_at_call 22;refine(O6.out _ bI.out).mono ?_;rintro r w1 ⟨rfl,hf⟩;have Y1:Hid (aa ag w w1):=bI.out.trans hf;obtain⟨b0,b1,b2,b3,b4⟩:=bP (HBw.out.frm hf id);obtain⟨c0,c1,c2,c3,c4⟩:=bP (lS.out.frm hf id);clear hf)|fail);go_ret;exact⟨by rw[HR.out];rfl,Y1.out⟩
     ·have q4:(d.sure==e.sure)=false:=beq_eq_false_iff_ne.2 h4
      have HR:Hid (R=false):=yc.out (λa b=>a.sure=b.sure) (λ_=>rfl) h4;clear h1 h2 h3 h4;go_enter Tryz.func29,Tryz.ntmps29;show Code.wp pQ (ai 0 (ae Tryz.f29)) _ _ _
      refine aC (k':=1) λK hK=>?_
      conv in aD _=>whnf
      go_wp2;rw[←HW.out];simp only[ai,ae,Tryz.f29];go_wp2_with (first|(go_at_call 22;refine(O6.out _ bI.out).mono ?_;rintro r w1 ⟨rfl,hf⟩;have Y1:Hid (aa ag w w1):=bI.out.trans hf;obtain⟨b0,b1,b2,b3,b4⟩:=bP (HBw.out.frm hf id);obtain⟨c0,c1,c2,c3,c4⟩:=bP (lS.out.frm hf id);clear hf)|fail);go_ret;exact⟨by rw[HR.out];rfl,Y1.out⟩
    ·have q3:((d.last:Int)==(e.last:Int))=false:=beq_eq_false_iff_ne.2 (by omega)
     have HR:Hid (R=false):=yc.out (λa b=>a.last=b.last) (λ_=>rfl) h3;clear h1 h2 h3;go_enter Tryz.func29,Tryz.ntmps29;show Code.wp pQ (ai 0 (ae Tryz.f29)) _ _ _
     refine aC (k':=1) λK hK=>?_
     conv in aD _=>whnf
     go_wp2;rw[←HW.out];simp only[ai,ae,Tryz.f29];go_wp2_with (first|(go_at_call 22;refine(O6.out _ bI.out).mono ?_;rintro r w1 ⟨rfl,hf⟩;have Y1:Hid (aa ag w w1):=bI.out.trans hf;obtain⟨b0,b1,b2,b3,b4⟩:=bP (HBw.out.frm hf id);obtain⟨c0,c1,c2,c3,c4⟩:=bP (lS.out.frm hf id);clear hf)|fail);go_ret;exact⟨by rw[HR.out];rfl,Y1.out⟩
 ·have q1:(d.mode==e.mode)=false:=beq_eq_false_iff_ne.2 h1
  have HR:Hid (R=false):=yc.out (λa b=>a.mode=b.mode) (λ_=>rfl) h1;clear h1 NC;go_enter Tryz.func29,Tryz.ntmps29;show Code.wp pQ (ai 0 (ae Tryz.f29)) _ _ _
  refine aC (k':=1) λK hK=>?_
  conv in aD _=>whnf
  go_wp2;rw[←HW.out];simp only[ai,ae,Tryz.f29];go_wp2_with (first|fail);go_ret;exact⟨by rw[HR.out];rfl,bI.out⟩
theorem B8{b:Nat}(hb:b=W.heap.size)(hF:aa ag w W)(hv:aF W (λk=>G k∨w.heap.size≤k) 7 vw d.all.length (d.all.flatMap Ev.cells)):
  bJ w G [d] (.returned (U (some ⟨b,0,none⟩) 1 1)) (W.alloc (.cells #[I J d.mode,U vw.1 d.all.length vw.2,I J d.last,I J d.sure,I J d.snap] 74)):=by
 subst hb;exact xC hF hv
theorem B9(hv:aF w G 7 vw d.all.length (d.all.flatMap Ev.cells))(hl:d.last≤d.all.length)(hn:d.all.length≤10000)(hm:jE w Gm fo fe it se ts m):
  Calls pQ 68 #[.agg #[I J d.mode,U vw.1 d.all.length vw.2,I J d.last,I J d.sure,I J d.snap],.agg #[I J m.kind,I J m.ev.kind,I J m.ev.a,I J m.ev.b,I J m.ev.n,V m.ev.s,V m.ev.t,V m.ev.u,I J m.err,I J m.last,I J m.snap,I J m.st.clock,U fo.1 m.st.fols.length fo.2,U fe.1 m.st.fees.length fe.2,U it.1 m.st.itms.length it.2,U se.1 m.st.seas.length se.2,I J m.st.tFol,I J m.st.tFee,I J m.st.tItm,I J m.st.tSea]] w (bJ w G (jM d m)):=by
 obtain⟨W0,hW0⟩:∃W0,W0=(w.alloc (.cells #[I J d.mode,U vw.1 d.all.length vw.2,I J d.last,I J d.sure,I J d.snap] 74)).alloc (.cells #[I J m.kind,I J m.ev.kind,I J m.ev.a,I J m.ev.b,I J m.ev.n,V m.ev.s,V m.ev.t,V m.ev.u,I J m.err,I J m.last,I J m.snap,I J m.st.clock,U fo.1 m.st.fols.length fo.2,U fe.1 m.st.fees.length fe.2,U it.1 m.st.itms.length it.2,U se.1 m.st.seas.length se.2,I J m.st.tFol,I J m.st.tFee,I J m.st.tItm,I J m.st.tSea] 44):=⟨_,rfl⟩;have bI:Hid (aa ag w W0):=by unfold Hid;rw[hW0];exact((fR w).alloc _).alloc _
 have HBw:Hid (aj W0 w.heap.size 74 #[I J d.mode,U vw.1 d.all.length vw.2,I J d.last,I J d.sure,I J d.snap]):=by unfold Hid;rw[hW0];exact(aj.new w _ _).alloc _
 have HBm:Hid (aj W0 (w.heap.size+1) 44 #[I J m.kind,I J m.ev.kind,I J m.ev.a,I J m.ev.b,I J m.ev.n,V m.ev.s,V m.ev.t,V m.ev.u,I J m.err,I J m.last,I J m.snap,I J m.st.clock,U fo.1 m.st.fols.length fo.2,U fe.1 m.st.fees.length fe.2,U it.1 m.st.itms.length it.2,U se.1 m.st.seas.length se.2,I J m.st.tFol,I J m.st.tFee,I J m.st.tItm,I J m.st.tSea]):=by
  unfold Hid;rw[hW0];have q:=aj.new (w.alloc (.cells #[I J d.mode,U vw.1 d.all.length vw.2,I J d.last,I J d.sure,I J d.snap] 74)) 44 #[I J m.kind,I J m.ev.kind,I J m.ev.a,I J m.ev.b,I J m.ev.n,V m.ev.s,V m.ev.t,V m.ev.u,I J m.err,I J m.last,I J m.snap,I J m.st.clock,U fo.1 m.st.fols.length fo.2,U fe.1 m.st.fees.length fe.2,U it.1 m.st.itms.length it.2,U se.1 m.st.seas.length se.2,I J m.st.tFol,I J m.st.tFee,I J m.st.tItm,I J m.st.tSea];rw[show (w.alloc (.cells #[I J d.mode,U vw.1 d.all.length vw.2,I J d.last,I J d.sure,I J d.snap] 74)).heap.size=w.heap.size+1 by simp] at q;exact q
 have HW:=h_ hW0;have HV:Hid (∀W,aa ag w W→aF W (λk=>G k∨w.heap.size≤k) 7 vw d.all.length (d.all.flatMap Ev.cells)):=λW hW=>(hv.nix hW).mono λ_=>.inl
 have HV0:Hid (∀W,aa ag w W→aF W G 7 vw d.all.length (d.all.flatMap Ev.cells)):=λW hW=>hv.nix hW
 have I6:Hid (W0.heap.size=w.heap.size+2):=by unfold Hid;rw[hW0];simp
 have HMC:Hid (∀F W,¬F (w.heap.size+1)→aa F W0 W→W.cell? ⟨w.heap.size+1,8,none⟩=some (I J m.err)∧W.cell? ⟨w.heap.size+1,9,none⟩=some (I J m.last)∧W.cell? ⟨w.heap.size+1,10,none⟩=some (I J m.snap)):=λF W hn hW=>by
  have q:=HBm.out.frm hW hn;exact⟨(q.cell 8).trans rfl,(q.cell 9).trans rfl,(q.cell 10).trans rfl⟩
 obtain⟨b0,b1,b2,b3,b4⟩:=bP HBw.out;obtain⟨m8,m9,m10⟩:=HMC.out ag _ id (fR W0);have z0:=HBw.out.frozen 0;have z3:=HBw.out.frozen 3;have FR:=h_ bI.out;clear hW0 hv hl hn hm;go_enter Tryz.func68,Tryz.ntmps68;show Code.wp pQ (ai 0 (ae Tryz.f68)) _ _ _
 refine aC (k':=1) λK hK=>?_
 conv in aD _=>whnf
 go_wp2;rw[←HW.out]
 by_cases h6:m.err=6
 ·by_cases h3:d.mode=3
  ·have k6:(m.err==6)=true:=beq_iff_eq.2 (by omega)
   have q3:(d.mode==3)=true:=beq_iff_eq.2 (by omega);have HE:Hid (jM d m=[d]):=by unfold Hid jM;simp[h6,h3]
   rw[HE.out];clear h6 h3 HE;simp only[ai,ae,Tryz.f68];go_wp2;go_ret;exact xC FR.out (HV.out _ FR.out)
  ·have n30:¬m.err=30:=by omega
   have n0:¬m.err=0:=by omega
   have k6:(m.err==6)=true:=beq_iff_eq.2 (by omega);have q3:(d.mode==3)=false:=beq_eq_false_iff_ne.2 (by omega);have k30:(m.err==30)=false:=beq_eq_false_iff_ne.2 (by omega);have k0:(m.err==0)=false:=beq_eq_false_iff_ne.2 (by omega);have HE:Hid (jM d m=[]):=by unfold Hid jM;simp[h6,h3]
   rw[HE.out];clear h6 h3 n30 n0 HE;simp only[ai,ae,Tryz.f68];go_wp2;go_ret;exact gD FR.out
 ·by_cases h30:m.err=30
  ·by_cases h3:d.mode=3
   ·have hm1:¬d.mode=1:=by omega
    have k6:(m.err==6)=false:=beq_eq_false_iff_ne.2 (by omega);have k30:(m.err==30)=true:=beq_iff_eq.2 (by omega);have n3:(d.mode !=3)=false:=by simp;omega
    have k0:(m.err==0)=false:=beq_eq_false_iff_ne.2 (by omega);have HE:Hid (jM d m=[]):=by unfold Hid jM;simp[h30,h3]
    rw[HE.out];clear h6 h30 h3 hm1 HE;simp only[ai,ae,Tryz.f68];go_wp2;go_ret;exact gD FR.out
   ·have hz:(0:Int)≠30:=by decide
    have k6:(m.err==6)=false:=beq_eq_false_iff_ne.2 (by omega);have k30:(m.err==30)=true:=beq_iff_eq.2 (by omega);have n3:(d.mode !=3)=true:=by simp;omega
    have HE:Hid (jM d m=[⟨3,d.all,d.last,d.sure,d.snap⟩]):=by unfold Hid jM;simp[h30,h3]
    rw[HE.out];clear h6 h30 h3 hz HE;simp only[ai,ae,Tryz.f68];go_wp2;go_ret;have pG:Hid (aa ag w (W0.setCell ⟨w.heap.size,0,none⟩ (I J 3))):=FR.out.setCell (.inr (Nat.le_refl _)) _;exact B8 (b:=W0.heap.size) (d:=⟨3,d.all,d.last,d.sure,d.snap⟩) (by simp) pG.out (HV.out _ pG.out)
  ·by_cases h0:m.err=0
   ·by_cases h1:d.mode=1
    ·have h3:¬d.mode=3:=by omega
     have k6:(m.err==6)=false:=beq_eq_false_iff_ne.2 (by omega);have k30:(m.err==30)=false:=beq_eq_false_iff_ne.2 (by omega);have k0:(m.err==0)=true:=beq_iff_eq.2 (by omega);have q1:(d.mode==1)=true:=beq_iff_eq.2 (by omega);have HE:Hid (jM d m=[⟨d.mode,d.all,d.last,d.last,d.snap⟩]):=by unfold Hid jM;simp[h0,h1]
     rw[HE.out];clear h6 h30 h0 h1 h3 HE;simp only[ai,ae,Tryz.f68];go_wp2;go_ret;have pG:Hid (aa ag w (W0.setCell ⟨w.heap.size,3,none⟩ (I J d.last))):=FR.out.setCell (.inr (Nat.le_refl _)) _;exact B8 (b:=W0.heap.size) (d:=⟨d.mode,d.all,d.last,d.last,d.snap⟩) (by simp) pG.out (HV.out _ pG.out)
    ·have hz:(0:Int)≠30:=by decide
     have k6:(m.err==6)=false:=beq_eq_false_iff_ne.2 (by omega);have k30:(m.err==30)=false:=beq_eq_false_iff_ne.2 (by omega);have k0:(m.err==0)=true:=beq_iff_eq.2 (by omega);have q1:(d.mode==1)=false:=beq_eq_false_iff_ne.2 (by omega);have HE:Hid (jM d m=[]):=by unfold Hid jM;simp[h0,h1]
     rw[HE.out];clear h6 h30 h0 h1 hz HE;simp only[ai,ae,Tryz.f68];go_wp2;go_ret;exact gD FR.out
   ·have hz:(0:Int)≠30:=by decide
    have k6:(m.err==6)=false:=beq_eq_false_iff_ne.2 (by omega);have k30:(m.err==30)=false:=beq_eq_false_iff_ne.2 (by omega);have k0:(m.err==0)=false:=beq_eq_false_iff_ne.2 (by omega);have HE:Hid (jM d m=[]):=by unfold Hid jM;simp[h0,h6,h30]
    rw[HE.out];clear h6 h30 h0 hz HE;simp only[ai,ae,Tryz.f68];go_wp2;go_ret;exact gD FR.out
theorem Ng{Q:Exit→Act→World→Prop}{W1:World}{bw bd:Nat}(hb:aj W1 bw 74 #[I J d.mode,U vw.1 d.all.length vw.2,I J d.last,I J d.sure,I J d.snap])(hd:aj W1 bd 74 #[I J d.mode,U vw.1 d.all.length vw.2,I J d.last,I J d.sure,I J d.snap])(hne:bw≠bd){u0 u1 u3 u4 u6 u7 u8 u9 u10 u11 u12 u13 u14 u15 u16 cG cH cI cR cS cT u23 u24 cN u26 dc u28 dm dp dr u32 u33 df dg u36 dt u38 dB dC dO dP dQ u44 u45 dI dJ dK dL dD dE dF dR dS dT dM dG dH dw dx dy dz dA u64 dh di dl cU cX fA fB fF fG fw iO iP iQ:Value}
  (hP:∀(e:_) (a:Act) (i:Nat) (v:Value) (w:World),Q (.panic e) (a.put (some i) v) w→Q (.panic e) a w) (hQ:∀(W':World) (z8 z9 zl ye Lt yf:Value),aa (λk=>k=bd) W1 W'→aj W' bd 74 #[I J d.mode,U vw.1 d.all.length vw.2,I J d.last,I J d.last,I J d.last]→Q .normal ⟨#[u0,u1,O (some ⟨bw,0,none⟩),u3,u4,O (some ⟨bd,0,none⟩),u6,u7,z8,z9,zl,ye,Lt,yf,u14,u15,u16,cG,cH,cI,cR,cS,cT,u23,u24,cN,u26,dc,u28,dm,dp,dr,u32,u33,df,dg,u36,dt,u38,dB,dC,dO,dP,dQ,u44,u45,dI,dJ,dK,dL,dD,dE,dF,dR,dS,dT,dM,dG,dH,dw,dx,dy,dz,dA,u64,dh,di,dl,cU,cX,fA,fB,fF,fG,fw,iO,iP,iQ],[]⟩ W'):
  Code.wp pQ (aD (ai 2 (ae Tryz.f69))) Q ⟨#[u0,u1,O (some ⟨bw,0,none⟩),u3,u4,O (some ⟨bd,0,none⟩),u6,u7,u8,u9,u10,u11,u12,u13,u14,u15,u16,cG,cH,cI,cR,cS,cT,u23,u24,cN,u26,dc,u28,dm,dp,dr,u32,u33,df,dg,u36,dt,u38,dB,dC,dO,dP,dQ,u44,u45,dI,dJ,dK,dL,dD,dE,dF,dR,dS,dT,dM,dG,dH,dw,dx,dy,dz,dA,u64,dh,di,dl,cU,cX,fA,fB,fF,fG,fw,iO,iP,iQ],[]⟩ W1:=by
 have HP:=h_ hP;have HQ:=h_ hQ;have HS:Hid (∀W,aa (λk=>k=bd) W1 W→W.cell? ⟨bw,2,none⟩=some (I J d.last)):=λW hW=>((hb.frm hW hne).cell 2).trans rfl
 have HD:=h_ hd;have d3:=(hd.cell 3).trans rfl;have d4:=(hd.cell 4).trans rfl;have z3:=hd.frozen 3;have z4:=hd.frozen 4;have HA:Hid (aa (λk=>k=bd) W1 (W1.setCell ⟨bd,3,none⟩ (I J d.last)).drew∧aj (W1.setCell ⟨bd,3,none⟩ (I J d.last)).drew bd 74 #[I J d.mode,U vw.1 d.all.length vw.2,I J d.last,I J d.last,I J d.snap]):=⟨(aa.setCell (F:=λk=>k=bd) (aa.refl _ W1) (.inl rfl) _).drew,(hd.set_ 3 _).drew⟩;clear hb hd hP hQ;simp only[aD,ai,ae,Tryz.f69];refine wp_region_held_drew (S:=λW=>W.cell? ⟨bw,2,none⟩=some (I J d.last)) (by kernel_rfl) (HS.out _ (aa.refl _ W1).drew) λhH=>?_
 refine tk (i:=0) HP rfl rfl hH ?_
 try simp only[lt]
 refine tk (i:=1) HP rfl rfl hH ?_
 try simp only[lt]
 refine tk (i:=2) HP rfl rfl hH ?_
 try simp only[lt]
 refine tk (i:=3) HP rfl rfl hH ?_
 try simp only[lt]
 refine tk (i:=4) HP rfl rfl hH ?_
 try simp only[lt]
 refine aw (i:=5) rfl (λK hK=>?_)
 ·go_simp
  refine hK.out _ _ (HS.out _ HA.out.1) (λhH=>?_);clear hK K
  try simp only[lt]
  have HE:Hid (aa (λk=>k=bd) W1 ((W1.setCell ⟨bd,3,none⟩ (I J d.last)).setCell ⟨bd,4,none⟩ (I J d.last)).drew∧aj ((W1.setCell ⟨bd,3,none⟩ (I J d.last)).setCell ⟨bd,4,none⟩ (I J d.last)).drew bd 74 #[I J d.mode,U vw.1 d.all.length vw.2,I J d.last,I J d.last,I J d.last]):=⟨(aa.setCell (F:=λk=>k=bd) (aa.setCell (F:=λk=>k=bd) (aa.refl _ W1) (.inl rfl) _) (.inl rfl) _).drew,((HD.out.set_ 3 _).set_ 4 _).drew⟩;refine tk (i:=6) HP rfl rfl hH ?_
  try simp only[lt]
  refine aw (i:=7) rfl (λK hK=>?_);go_simp;refine hK.out _ _ (HS.out _ HE.out.1) (λhH=>?_);clear hK K
  try simp only[lt]
  refine wpAnyH_done (by kernel_rfl) ?_ _;exact HQ.out _ _ _ _ _ _ _ HE.out.1 HE.out.2
theorem RD(w:World)(vw:Sl)(d:WD):∃w0,w0=w.alloc (.cells #[I J d.mode,U vw.1 d.all.length vw.2,I J d.last,I J d.sure,I J d.snap] 74)∧aa ag w w0∧aj w0 w.heap.size 74 #[I J d.mode,U vw.1 d.all.length vw.2,I J d.last,I J d.sure,I J d.snap]:=
 ⟨_,rfl,(fR w).alloc _,aj.new w _ _⟩
theorem Ca(hv:aF w G 7 vw d.all.length (d.all.flatMap Ev.cells))(hl:d.last≤d.all.length)(hn:d.all.length≤10000)(hm:jE w Gm fo fe it se ts m):
  Calls pQ 69 #[.agg #[I J d.mode,U vw.1 d.all.length vw.2,I J d.last,I J d.sure,I J d.snap],.agg #[I J m.kind,I J m.ev.kind,I J m.ev.a,I J m.ev.b,I J m.ev.n,V m.ev.s,V m.ev.t,V m.ev.u,I J m.err,I J m.last,I J m.snap,I J m.st.clock,U fo.1 m.st.fols.length fo.2,U fe.1 m.st.fees.length fe.2,U it.1 m.st.itms.length it.2,U se.1 m.st.seas.length se.2,I J m.st.tFol,I J m.st.tFee,I J m.st.tItm,I J m.st.tSea]] w (bJ w G (gJ d m)):=by
 obtain⟨W0,hW0⟩:∃W0,W0=(w.alloc (.cells #[I J d.mode,U vw.1 d.all.length vw.2,I J d.last,I J d.sure,I J d.snap] 74)).alloc (.cells #[I J m.kind,I J m.ev.kind,I J m.ev.a,I J m.ev.b,I J m.ev.n,V m.ev.s,V m.ev.t,V m.ev.u,I J m.err,I J m.last,I J m.snap,I J m.st.clock,U fo.1 m.st.fols.length fo.2,U fe.1 m.st.fees.length fe.2,U it.1 m.st.itms.length it.2,U se.1 m.st.seas.length se.2,I J m.st.tFol,I J m.st.tFee,I J m.st.tItm,I J m.st.tSea] 44):=⟨_,rfl⟩;have bI:Hid (aa ag w W0):=by unfold Hid;rw[hW0];exact((fR w).alloc _).alloc _
 have HBw:Hid (aj W0 w.heap.size 74 #[I J d.mode,U vw.1 d.all.length vw.2,I J d.last,I J d.sure,I J d.snap]):=by unfold Hid;rw[hW0];exact(aj.new w _ _).alloc _
 have HBm:Hid (aj W0 (w.heap.size+1) 44 #[I J m.kind,I J m.ev.kind,I J m.ev.a,I J m.ev.b,I J m.ev.n,V m.ev.s,V m.ev.t,V m.ev.u,I J m.err,I J m.last,I J m.snap,I J m.st.clock,U fo.1 m.st.fols.length fo.2,U fe.1 m.st.fees.length fe.2,U it.1 m.st.itms.length it.2,U se.1 m.st.seas.length se.2,I J m.st.tFol,I J m.st.tFee,I J m.st.tItm,I J m.st.tSea]):=by
  unfold Hid;rw[hW0];have q:=aj.new (w.alloc (.cells #[I J d.mode,U vw.1 d.all.length vw.2,I J d.last,I J d.sure,I J d.snap] 74)) 44 #[I J m.kind,I J m.ev.kind,I J m.ev.a,I J m.ev.b,I J m.ev.n,V m.ev.s,V m.ev.t,V m.ev.u,I J m.err,I J m.last,I J m.snap,I J m.st.clock,U fo.1 m.st.fols.length fo.2,U fe.1 m.st.fees.length fe.2,U it.1 m.st.itms.length it.2,U se.1 m.st.seas.length se.2,I J m.st.tFol,I J m.st.tFee,I J m.st.tItm,I J m.st.tSea];rw[show (w.alloc (.cells #[I J d.mode,U vw.1 d.all.length vw.2,I J d.last,I J d.sure,I J d.snap] 74)).heap.size=w.heap.size+1 by simp] at q;exact q
 have HW:=h_ hW0;have HV:Hid (∀W,aa ag w W→aF W (λk=>G k∨w.heap.size≤k) 7 vw d.all.length (d.all.flatMap Ev.cells)):=λW hW=>(hv.nix hW).mono λ_=>.inl
 have HV0:Hid (∀W,aa ag w W→aF W G 7 vw d.all.length (d.all.flatMap Ev.cells)):=λW hW=>hv.nix hW
 have I6:Hid (W0.heap.size=w.heap.size+2):=by unfold Hid;rw[hW0];simp
 have HMC:Hid (∀F W,¬F (w.heap.size+1)→aa F W0 W→W.cell? ⟨w.heap.size+1,8,none⟩=some (I J m.err)∧W.cell? ⟨w.heap.size+1,9,none⟩=some (I J m.last)∧W.cell? ⟨w.heap.size+1,10,none⟩=some (I J m.snap)):=λF W hn hW=>by
  have q:=HBm.out.frm hW hn;exact⟨(q.cell 8).trans rfl,(q.cell 9).trans rfl,(q.cell 10).trans rfl⟩
 obtain⟨b0,b1,b2,b3,b4⟩:=bP HBw.out;clear hW0 hv hl hn hm;go_enter Tryz.func69,Tryz.ntmps69;show Code.wp pQ (ai 0 (ae Tryz.f69)) _ _ _
 refine aC (k':=1) λK hK=>?_
 conv in aD _=>whnf
 go_wp2;rw[←HW.out];refine aC (k':=2) λK hK=>?_
 conv in aD _=>whnf
 go_wp2;obtain⟨W1,hW1,gI,hb1⟩:=RD W0 vw d;rw[←hW1];have bT:=h_ hb1;have pG:=h_ gI;obtain⟨bd,rJ⟩:∃bd,W0.heap.size=bd:=⟨_,rfl⟩;rw[rJ] at bT ⊢;have qy:Hid (bd=w.heap.size+2):=by rw[←rJ];exact I6.out
 have hne:w.heap.size≠bd:=by have:=qy.out;omega
 have hne1:¬w.heap.size+1=bd:=by have:=qy.out;omega
 clear hW1 gI hb1 rJ b0 b1 b2 b3 b4;refine aC (k':=3) λK hK=>?_
 refine Ng (bw:=w.heap.size) (bd:=bd) (vw:=vw) (d:=d) (HBw.out.frm pG.out id) bT.out hne (λ_ _ _ _ _ h=>h) ?_;intro W2 z8 z9 zl ye Lt yf hf2 hb2;have FR:Hid (aa ag w W2):=(bI.out.trans pG.out).next hf2 λk hk=>.inr (by have:=qy.out;omega)
 obtain⟨b0,b1,b2,b3,b4⟩:=bP ((HBw.out.frm pG.out id).frm hf2 hne);obtain⟨d0,d1,d2,d3,d4⟩:=bP hb2;obtain⟨m8,m9,m10⟩:=HMC.out (λk=>k=bd) W2 hne1 ((pG.out.mono λ_ e=>e.elim).trans hf2);clear hf2 hb2 hne hne1;go_wp2
 by_cases h3:d.mode=3
 ·by_cases h6:m.err=6
  ·have q3:(d.mode==3)=true:=beq_iff_eq.2 (by omega)
   have k6:(m.err==6)=true:=beq_iff_eq.2 (by omega);have HE:Hid (gJ d m=[d]):=by unfold Hid gJ;simp[h6,h3,gw]
   rw[HE.out];clear h6 h3 HE;simp only[ai,ae,Tryz.f69];go_wp2;go_ret;exact xC FR.out (HV.out _ FR.out)
  ·have q3:(d.mode==3)=true:=beq_iff_eq.2 (by omega)
   have k6:(m.err==6)=false:=beq_eq_false_iff_ne.2 (by omega);have HE:Hid (gJ d m=[]):=by unfold Hid gJ;simp[h6,h3,gw]
   rw[HE.out];clear h6 h3 HE;simp only[ai,ae,Tryz.f69];go_wp2;go_ret;exact gD FR.out
 ·by_cases he:(d.last:Int)=d.snap
  ·by_cases h1:m.err=1
   ·have q3:(d.mode==3)=false:=beq_eq_false_iff_ne.2 (by omega)
    have qe:((d.last:Int)==d.snap)=true:=beq_iff_eq.2 (by omega);have k1:(m.err==1)=true:=beq_iff_eq.2 (by omega);have HE:Hid (gJ d m=[d]):=by unfold Hid gJ;simp[h1,h3,he,gw]
    rw[HE.out];clear h1 h3 he HE;simp only[ai,ae,Tryz.f69];go_wp2;go_ret;exact xC FR.out (HV.out _ FR.out)
   ·have q3:(d.mode==3)=false:=beq_eq_false_iff_ne.2 (by omega)
    have qe:((d.last:Int)==d.snap)=true:=beq_iff_eq.2 (by omega);have k1:(m.err==1)=false:=beq_eq_false_iff_ne.2 (by omega);have HE:Hid (gJ d m=[]):=by unfold Hid gJ;simp[h1,h3,he,gw]
    rw[HE.out];clear h1 h3 he HE;simp only[ai,ae,Tryz.f69];go_wp2;go_ret;exact gD FR.out
  ·by_cases h0:m.err=0
   ·by_cases h1:d.mode=1
    ·have q3:(d.mode==3)=false:=beq_eq_false_iff_ne.2 (by omega)
     have qe:((d.last:Int)==d.snap)=false:=beq_eq_false_iff_ne.2 (by omega);have k0:(m.err==0)=true:=beq_iff_eq.2 (by omega);have q1:(d.mode==1)=true:=beq_iff_eq.2 (by omega);have HE:Hid (gJ d m=[⟨d.mode,d.all,d.last,d.last,d.last⟩]):=by unfold Hid gJ;simp[h0,h1,he]
     rw[HE.out];clear h1 h3 he h0 HE;simp only[ai,ae,Tryz.f69];go_wp2;go_ret;exact xC (d:=⟨d.mode,d.all,d.last,d.last,d.last⟩) FR.out (HV.out _ FR.out)
    ·have q3:(d.mode==3)=false:=beq_eq_false_iff_ne.2 (by omega)
     have qe:((d.last:Int)==d.snap)=false:=beq_eq_false_iff_ne.2 (by omega);have k0:(m.err==0)=true:=beq_iff_eq.2 (by omega);have q1:(d.mode==1)=false:=beq_eq_false_iff_ne.2 (by omega);have k30:(m.err==30)=false:=beq_eq_false_iff_ne.2 (by omega);have HE:Hid (gJ d m=[]):=by unfold Hid gJ;simp[h0,h1,h3,he]
     rw[HE.out];clear h1 h3 he h0 HE;simp only[ai,ae,Tryz.f69];go_wp2;go_ret;exact gD FR.out
   ·by_cases h30:m.err=30
    ·by_cases h2:d.mode=2
     ·have q3:(d.mode==3)=false:=beq_eq_false_iff_ne.2 (by omega)
      have qe:((d.last:Int)==d.snap)=false:=beq_eq_false_iff_ne.2 (by omega);have k0:(m.err==0)=false:=beq_eq_false_iff_ne.2 (by omega);have k30:(m.err==30)=true:=beq_iff_eq.2 (by omega);have q2:(d.mode==2)=true:=beq_iff_eq.2 (by omega);have HE:Hid (gJ d m=[d]):=by unfold Hid gJ;simp[h30,h2,he]
      rw[HE.out];clear h2 h3 he h0 h30 HE;simp only[ai,ae,Tryz.f69];go_wp2;go_ret;exact xC FR.out (HV.out _ FR.out)
     ·have q3:(d.mode==3)=false:=beq_eq_false_iff_ne.2 (by omega)
      have qe:((d.last:Int)==d.snap)=false:=beq_eq_false_iff_ne.2 (by omega);have k0:(m.err==0)=false:=beq_eq_false_iff_ne.2 (by omega);have k30:(m.err==30)=true:=beq_iff_eq.2 (by omega);have q2:(d.mode==2)=false:=beq_eq_false_iff_ne.2 (by omega);have HE:Hid (gJ d m=[⟨2,d.all,d.last,d.sure,d.snap⟩,⟨3,d.all,d.last,d.sure,d.snap⟩,⟨2,d.all,d.last,d.last,d.last⟩,⟨3,d.all,d.last,d.last,d.last⟩]):=by unfold Hid gJ;simp[h30,h2,h3,he]
      rw[HE.out];clear h2 h3 he h0 h30 HE;simp only[ai,ae,Tryz.f69];go_wp2;go_ret;have gG:=HV0.out _ FR.out;exact O5 (d1:=⟨2,d.all,d.last,d.sure,d.snap⟩) (d2:=⟨3,d.all,d.last,d.sure,d.snap⟩) (d3:=⟨2,d.all,d.last,d.last,d.last⟩) (d4:=⟨3,d.all,d.last,d.last,d.last⟩) FR.out gG gG gG gG
    ·have q3:(d.mode==3)=false:=beq_eq_false_iff_ne.2 (by omega)
     have qe:((d.last:Int)==d.snap)=false:=beq_eq_false_iff_ne.2 (by omega);have k0:(m.err==0)=false:=beq_eq_false_iff_ne.2 (by omega);have k30:(m.err==30)=false:=beq_eq_false_iff_ne.2 (by omega);have HE:Hid (gJ d m=[]):=by unfold Hid gJ;simp[h30,h0,h3,he]
     rw[HE.out];clear h3 he h0 h30 HE;simp only[ai,ae,Tryz.f69];go_wp2;go_ret;exact gD FR.out
end Go.Proofs.YtaecjmiobllhmaaGreat
