/- Words. -/
import Derived.Test.YtaecjmiobllhmaaGreatGq64
import Derived.Test.YtaecjmiobllhmaaGreatGq32
set_option linter.unusedVariables false
set_option linter.unusedSimpArgs false
set_option maxRecDepth 100000
set_option maxHeartbeats 16000000
namespace Go.Proofs.YtaecjmiobllhmaaGreat
open Go.Value renaming int→I,string→V,slice→U,pointer→O
open Go.IntKind renaming i64→J
open Tryz renaming prog→pQ
open Go.RowKit Go.Lib
variable {w:World}{fo fe it se:Sl}{ts:List (Sl×aJ)}{x:St}{G:Nat→Prop}
theorem Cq(s:ByteArray)(k:Nat):aX (s.extract k s.size)=(aX s).drop k:=uY s k
theorem JJ(s:ByteArray)(rs:List Nat)(hv:∀r∈rs,Vr r)(hs:aX s=enc rs)(hsz:s.size≤1000000)(n:Int)(hn:bj n)(w:World):
  Calls pQ 155 #[V s,I J n] w λe w'=>e=.returned (V (fB (enc (kH rs n))))∧w=w':=by
 have HS:=h_ hs;have HV:=h_ hv;have uV:Hid (s.size=(enc rs).length):=by unfold Hid;rw[aT,hs]
 have HI:=h_ hn;clear hs hv hn;go_enter Tryz.func155,Tryz.ntmps155;go_wp2
 go_loopw [5] (λev wr=>∃(k E:Nat),k≤rs.length∧ev=I J E∧E=(enc (rs.take k)).length∧(k=0∨(E:Int)≤n)∧w=wr) (λev _=>s.size-(intOf ev).toNat)
 case atStart=>exact⟨0,0,by omega,rfl,rfl,.inl rfl,rfl⟩
 case round=>
  obtain⟨k,E,hk,rfl,hE,hn,rfl⟩:=hrel;have HE:=h_ hE;have HN:=h_ hn;have XC:E≤s.size:=by rw[hE,uV.out];exact tj rs _
  have XD:(0:Int)≤(E:Int):=Int.natCast_nonneg _;have Zi:(E:Int)≤(s.size:Int):=by omega
  have hlo: -9223372036854775808≤n-(E:Int)∧n-(E:Int)≤9223372036854775807:=by
   have h1:=HI.out;unfold bj at h1;rcases hn with h0|h0
   ·subst h0
    have:E=0:=by rw[hE];rfl
    omega
   ·omega
  obtain⟨hlo,Zj⟩:=hlo;clear hE hn
  by_cases hlt:k<rs.length
  ·have dL:=rK rs k hlt
   have xu:=nB rs[k];have hle:=tj rs (k+1);have Pj:E<s.size:=by rw[uV.out,HE.out];omega
   have hd:decodeL (aX (s.extract E s.size))=(rs[k],(en rs[k]).length):=by
    rw[Cq,HS.out,HE.out,BN,List.drop_eq_getElem_cons hlt,dn];exact mn _ (HV.out _ (List.getElem_mem hlt)) _
   have Pn:(s.extract E s.size).size=s.size-E:=by rw[aT,Cq,List.length_drop,←aT]
   have kf:=tU (s.extract E s.size) w (by omega) (by omega);rw[hd] at kf;have KF:=h_ kf;have O6:Hid (E+(en rs[k]).length=(enc (rs.take (k+1))).length):=by unfold Hid;rw[HE.out,dL]
   have Zk:E+(en rs[k]).length≤s.size:=by rw[O6.out,uV.out];exact hle
   have Qa:=xu.1;have hx0:decide ((E:Int)<(s.size:Int))=true:=decide_eq_true (by omega);have hx1:decide (E<s.size)=true:=decide_eq_true (by omega);clear hd dL xu hle kf Pn;generalize (en rs[k]).length=K at *;generalize rs[k]=R at *
   by_cases Qb:n-(E:Int)<(K:Int)
   ·have HR:Hid (s.extract 0 E=fB (enc (kH rs n))):=by
     unfold Hid;have e1:=O6.out;have q:=pR HS.out n k (by omega) (HN.out.imp id λh=>by rw[←HE.out];exact h) (.inr (by rw[←O6.out];omega));rw[←HE.out] at q;exact q
    go_wp2_with (go_at_call 197;refine KF.out.mono ?_;rintro e w' ⟨rfl,rfl⟩);go_ret;exact⟨by rw[←HR.out]<;>rfl,rfl⟩
   ·have XE:¬n-(E:Int)<(K:Int):=Qb
    clear Qb;go_wp2_with (go_at_call 197;refine KF.out.mono ?_;rintro e w' ⟨rfl,rfl⟩);go_roundw
    case rel=>exact⟨k+1,E+K,by omega,by go_num,O6.out,.inr (by omega),by first|trivial|rfl⟩
    case measure=>simp[intOf];omega
  ·obtain rfl:k=rs.length:=by omega
   have Vi:E=s.size:=by rw[HE.out,List.take_length,uV.out]
   have HR:Hid (s.extract 0 E=fB (enc (kH rs n))):=by
    unfold Hid;have q:=pR HS.out n rs.length (Nat.le_refl _) (HN.out.imp id λh=>by rw[←HE.out];exact h) (.inl rfl);rw[←HE.out] at q;exact q
   have hx0:decide ((E:Int)<(s.size:Int))=false:=decide_eq_false (by omega);have hx1:decide (E<s.size)=false:=decide_eq_false (by omega);clear Vi;go_wp2;go_ret;exact⟨by rw[←HR.out]<;>rfl,rfl⟩
theorem iu(s:ByteArray)(hs:s.size≤10000)(m:Int)(hm:bj m)(w:World):
  Calls pQ 104 #[V s,I J m] w λe w'=>e=.returned (V (ah s m))∧aa ac w w':=by
 obtain⟨rs,Hk⟩:∃rs,bh (cV (aX s)) [] false=rs:=⟨_,rfl⟩;have hv:∀r∈rs,Vr r:=by rw[←Hk];exact jb _ _ _ (kR _) (by simp)
 have hcs:dP (aX s)=enc rs:=by unfold dP;rw[Hk]
 have Qc:∀r∈kH rs m,Vr r:=λr hr=>hv r (td _ _ r hr)
 have h1:rs.length≤2 * s.size:=by
  have h1:=nG (cV (aX s)) [] false;have h2:=lq (aX s);rw[Hk] at h1;rw[←aT] at h2;simp at h1;omega
 have h2:=(mI rs).2;have hsz:(fB (enc rs)).size≤1000000:=by rw[aT,eU];omega
 have h3:(enc (kH rs m)).length≤(enc rs).length:=DL rs m;have F7:(fB (enc (kH rs m))).size≤1000000:=by rw[aT,eU];omega
 obtain⟨r1,hr1⟩:∃r1,fB (enc rs)=r1:=⟨_,rfl⟩;obtain⟨r2,hr2⟩:∃r2,fB (enc (kH rs m))=r2:=⟨_,rfl⟩;obtain⟨r3,hr3⟩:∃r3,ah s m=r3:=⟨_,rfl⟩
 have K1:Hid (∀W,Calls pQ 154 #[V s] W λe w'=>e=.returned (V r1)∧aa ac W w'):=λW=>by
  have q:=rS s W (by omega);rw[hcs,hr1] at q;exact q
 have K2:Hid (∀W,Calls pQ 155 #[V r1,I J m] W λe w'=>e=.returned (V r2)∧aa ac W w'):=λW=>by
  have q:=JJ (fB (enc rs)) rs hv (eU _) hsz m hm W;rw[hr1,hr2] at q;exact q.mono λe w' h=>⟨h.1,by rw[h.2];exact aa.refl _ _⟩
 have K3:Hid (∀W,Calls pQ 154 #[V r2] W λe w'=>e=.returned (V r3)∧aa ac W w'):=λW=>by
  have q:=rS (fB (enc (kH rs m))) W F7
  have e3:fB (dP (aX (fB (enc (kH rs m)))))=r3:=by
   rw[eU,wK Qc,←hr3];unfold ah pC;rw[Hk]
  rw[e3,hr2] at q;exact q
 rw[hr3];clear Hk hv hcs Qc h1 h2 hsz h3 F7 hs hr1 hr2 hr3 hm;go_enter Tryz.func104,Tryz.ntmps104
 go_wp2_with (first
  | (go_at_call 154;have _q:=Z2;refine(K3.out _).mono ?_;rintro e w3 ⟨rfl,hf⟩;have Z3:Hid (aa ac w w3):=Z2.out.trans hf;clear hf)
  | (go_at_call 155;have _q:=Z1;refine(K2.out _).mono ?_;rintro e w2 ⟨rfl,hf⟩;have Z2:Hid (aa ac w w2):=Z1.out.trans hf;clear hf)
  | (go_at_call 154;refine(K1.out _).mono ?_;rintro e w1 ⟨rfl,hf⟩;have Z1:=h_ hf;clear hf))
 go_ret;exact⟨rfl,Z3.out⟩
theorem wY(a b:Int):decide (a=b)=(a==b):=by by_cases h:a=b<;>simp[h]
theorem sr(hS:aM w G fo fe it se ts x)(hsm:aH x)(id:Int):
  Calls pQ 105 #[bE fo fe it se x,I J id] w λe w'=>e=.returned (.bool (eQ x id))∧aa ac w w':=by
 obtain⟨w0,hw0,hf0,hb0⟩:=nM w fo fe it se x;obtain⟨x0,x1,x2,x3,x4,x5,x6,x7,x8⟩:=ak hb0;have KF:Hid (Calls pQ 72 #[bE fo fe it se x,I J id] w0 λe w'=>e=.returned (I J (gA bg.id id x.fols))∧aa ac w0 w'):=ja (hS.nix hf0) hsm id;have dM:=h_ hf0;have HW:=h_ hw0;have HE:Hid (eQ x id=(decide (id=0)||aS bg.id id x.fols)):=rfl;unfold bE
 by_cases h0:id=0
 ·have e0:(id==0)=true:=beq_iff_eq.2 h0
  have qz:Hid (eQ x id=true):=by unfold Hid;rw[HE.out,decide_eq_true h0];rfl
  clear hS hsm hw0 hf0 hb0 h0;go_enter Tryz.func105,Tryz.ntmps105;go_wp2;rw[←HW.out];go_ret;exact⟨af qz.out.symm,dM.out⟩
 ·have e0:(id==0)=false:=beq_eq_false_iff_ne.2 h0
  have qz:Hid (eQ x id=aS bg.id id x.fols):=by unfold Hid;rw[HE.out,decide_eq_false h0];rfl
  cases hi:aS bg.id id x.fols with
  | false=>
    rw[dr hi] at KF;rw[hi] at qz;clear hS hsm hw0 hf0 hb0 h0 hi;go_enter Tryz.func105,Tryz.ntmps105;go_wp2_with (first|(go_at_call 72;rw[←HW.out];refine KF.out.mono ?_;rintro e w1 ⟨rfl,hf⟩;have Z1:=h_ hf;clear hf)|fail);go_ret
    exact⟨af qz.out.symm,dM.out.trans Z1.out⟩
  | true=>
    obtain⟨p,-,hp,-⟩:=dh hi;rw[hp] at KF;rw[hi] at qz;have qi:(0:Int)≤(p:Int):=Int.natCast_nonneg _;clear hS hsm hw0 hf0 hb0 h0 hi hp;go_enter Tryz.func105,Tryz.ntmps105;go_wp2_with (first|(go_at_call 72;rw[←HW.out];refine KF.out.mono ?_;rintro e w1 ⟨rfl,hf⟩;have Z1:=h_ hf;clear hf)|fail);go_ret;exact⟨af qz.out.symm,dM.out.trans Z1.out⟩
theorem Cr(hS:aM w G fo fe it se ts x)(hP:di x){i0 u:Int}(hid:eQ x i0=true):
  Calls pQ 108 #[bE fo fe it se x,I J i0,I J u] w λe w'=>e=.returned (.bool (bD x i0 u))∧aa ac w w':=by
 obtain⟨w0,hw0,hf0,hb0⟩:=nM w fo fe it se x;have hsm:=hP.small;have ew:=hsm.fols;obtain⟨R,hR⟩:∃R,xG x.fols 10 i0 u=R:=⟨_,rfl⟩;have HE:Hid (bD x i0 u=(decide (R=u)||decide (u=0))):=by unfold Hid bD;rw[hR]
 have KF:Hid (∀W,aa ac w0 W→∀i,Calls pQ 72 #[bE fo fe it se x,I J i] W λe w'=>e=.returned (I J (gA bg.id i x.fols))∧aa ac w0 w'∧aa ac W w'):=λW hW i=>(ja ((hS.nix hf0).nix hW) hsm i).mono λe w' q=>⟨q.1,hW.trans q.2,q.2⟩
 have HS:=h_ (hS.nix hf0);have HB:=h_ hb0;have dM:=h_ hf0;have HW:=h_ hw0;have HP:=h_ hP;have HR:=h_ hR;have HI:=h_ hid;clear hS hsm hw0 hf0 hb0 hP hR hid;unfold bE;obtain⟨A,c⟩:=fo;dsimp only at ⊢ KF HB HW;go_enter Tryz.func108,Tryz.ntmps108;go_wp2;rw[←HW.out]
 go_loopw [1,7] (λiv nv wr=>∃(i:Int) (m:Nat),iv=I J i∧nv=I J m∧m≤10∧eQ x i=true∧xG x.fols (10-m) i u=R∧aa ac w0 wr) (λ_ nv _=>10-(intOf nv).toNat)
 case atStart=>exact⟨i0,0,rfl,rfl,by omega,HI.out,HR.out,aa.refl _ _⟩
 case round=>
  obtain⟨i,m,rfl,rfl,hm,hin,hd,hf⟩:=hrel;have N8:=h_ hd;have SA:=h_ hin;have HF:=h_ hf;clear hd hf hin
  have Oo:Hid (m=10∨i=u∨i=0→R=i):=λh=>by
   rw[←N8.out];rcases h with rfl|h
   ·rfl
   ·exact sg h _
  by_cases h10:m=10
  ·subst h10
   have e:R=i:=Oo.out (.inl rfl);subst e
   by_cases hr:R=u
   ·have b1:(R==u)=true:=beq_iff_eq.2 hr
    have AA:Hid (bD x i0 u=true):=by unfold Hid;rw[HE.out,decide_eq_true hr];rfl
    clear hr;go_wp2;go_ret;exact⟨af AA.out.symm,dM.out.trans HF.out⟩
   ·have b1:(R==u)=false:=beq_eq_false_iff_ne.2 hr
    have AA:Hid (bD x i0 u=(u==0)):=by unfold Hid;rw[HE.out,decide_eq_false hr,wY];rfl
    clear hr;go_wp2;go_ret;exact⟨af AA.out.symm,dM.out.trans HF.out⟩
  have Yu:(m:Int)<10:=by omega
  by_cases hu:i=u
  ·have e:R=i:=Oo.out (.inr (.inl hu))
   subst e;have e1:(R !=u)=false:=by simp[hu]
   clear hu
   by_cases hr:R=u
   ·have b1:(R==u)=true:=beq_iff_eq.2 hr
    have AA:Hid (bD x i0 u=true):=by unfold Hid;rw[HE.out,decide_eq_true hr];rfl
    clear hr;go_wp2;go_ret;exact⟨af AA.out.symm,dM.out.trans HF.out⟩
   ·have b1:(R==u)=false:=beq_eq_false_iff_ne.2 hr
    have AA:Hid (bD x i0 u=(u==0)):=by unfold Hid;rw[HE.out,decide_eq_false hr,wY];rfl
    clear hr;go_wp2;go_ret;exact⟨af AA.out.symm,dM.out.trans HF.out⟩
  have e1:(i !=u)=true:=by simp[hu]
  by_cases hz:i=0
  ·have e:R=i:=Oo.out (.inr (.inr hz))
   subst e;have e2:(R !=0)=false:=by simp[hz]
   clear hu hz
   by_cases hr:R=u
   ·have b1:(R==u)=true:=beq_iff_eq.2 hr
    have AA:Hid (bD x i0 u=true):=by unfold Hid;rw[HE.out,decide_eq_true hr];rfl
    clear hr;go_wp2;go_ret;exact⟨af AA.out.symm,dM.out.trans HF.out⟩
   ·have b1:(R==u)=false:=beq_eq_false_iff_ne.2 hr
    have AA:Hid (bD x i0 u=(u==0)):=by unfold Hid;rw[HE.out,decide_eq_false hr,wY];rfl
    clear hr;go_wp2;go_ret;exact⟨af AA.out.symm,dM.out.trans HF.out⟩
  have e2:(i !=0)=true:=by simp[hz]
  have MD:aS bg.id i x.fols=true:=by
   have:=SA.out;unfold eQ at this;rw[decide_eq_false hz,Bool.false_or] at this;exact this
  obtain⟨q,Iw,hq,-,hat,-⟩:=dh MD;have MC:=h_ (λW hW=>KF.out W hW i);rw[hq] at MC
  have VD:Hid (xG x.fols (10-(m+1)) (x.fols[q]'Iw).inn u=R):=by
   have:=N8.out;rw[show 10-m=(10-(m+1))+1 by omega,vo hu hz hat] at this;exact this
  have QL:Hid (eQ x (x.fols[q]'Iw).inn=true):=by
   unfold Hid eQ;rcases Lu HP.out (List.getElem_mem Iw) with h|h
   ·rw[decide_eq_true h];rfl
   ·rw[dg.2 h,Bool.or_true]
  obtain⟨b,off,hA,-,hbl,hcell⟩:=(HS.out.fols.nix HF.out).at_ bg.clen (by decide) (by omega);dsimp only at hA;subst hA;obtain⟨f,tB⟩:∃f,x.fols[q]'Iw=f:=⟨_,rfl⟩;have hc:=hcell q Iw;rw[tB] at hc VD QL;have xh:(0:Int)≤(q:Int):=Int.natCast_nonneg _;have nk:(q:Int)<(x.fols.length:Int):=by omega
  have dH:Hid (∀W,aa ac wr W→W.cell? ⟨w.heap.size,0,none⟩=some (I J x.clock)∧W.cell? ⟨w.heap.size,1,none⟩=some (U (some ⟨b,off,none⟩) x.fols.length c)∧W.cell? ⟨w.heap.size,2,none⟩=some (U fe.1 x.fees.length fe.2)∧W.cell? ⟨w.heap.size,3,none⟩=some (U it.1 x.itms.length it.2)∧W.cell? ⟨w.heap.size,4,none⟩=some (U se.1 x.seas.length se.2)∧W.cell? ⟨w.heap.size,5,none⟩=some (I J x.tFol)∧W.cell? ⟨w.heap.size,6,none⟩=some (I J x.tFee)∧W.cell? ⟨w.heap.size,7,none⟩=some (I J x.tItm)∧W.cell? ⟨w.heap.size,8,none⟩=some (I J x.tSea)∧W.cell? ⟨b,off+q * 3+1,none⟩=some (I J f.inn)):=λW hW=>by
   obtain⟨y0,y1,y2,y3,y4,y5,y6,y7,y8⟩:=ak (HB.out.frm (HF.out.trans hW) id);exact⟨y0,y1,y2,y3,y4,y5,y6,y7,y8,(hW.cell (p:=⟨b,off+q * 3+1,none⟩) hbl id).trans (hc 1 _ rfl)⟩
  have Zl:=h_ (And.intro hu hz);clear hcell hc tB hq hat MD hu hz h10;go_wp2
  go_region_held3 (λW=>W.cell? ⟨w.heap.size,0,none⟩=some (I J x.clock)∧W.cell? ⟨w.heap.size,1,none⟩=some (U (some ⟨b,off,none⟩) x.fols.length c)∧W.cell? ⟨w.heap.size,2,none⟩=some (U fe.1 x.fees.length fe.2)∧W.cell? ⟨w.heap.size,3,none⟩=some (U it.1 x.itms.length it.2)∧W.cell? ⟨w.heap.size,4,none⟩=some (U se.1 x.seas.length se.2)∧W.cell? ⟨w.heap.size,5,none⟩=some (I J x.tFol)∧W.cell? ⟨w.heap.size,6,none⟩=some (I J x.tFee)∧W.cell? ⟨w.heap.size,7,none⟩=some (I J x.tItm)∧W.cell? ⟨w.heap.size,8,none⟩=some (I J x.tSea)∧W.cell? ⟨b,off+q * 3+1,none⟩=some (I J f.inn)) ((refine dH.out _ ?_;first|exact(fR wr).drew|exact Y2.out))
   (first|(go_at_call 72;refine(MC.out _ HF.out.drew).mono ?_;rintro e w2 ⟨rfl,hf2,hf3⟩;have Z2:=h_ hf2;have Y2:Hid (aa ac wr w2):=(fR wr).drew.trans hf3;clear hf2 hf3))
  all_goals
   go_wp2;go_roundw
   case rel=>exact⟨f.inn,m+1,rfl,by go_num,by omega,QL.out,VD.out,Z2.out⟩
   case measure=>simp[intOf];omega
theorem wZ(s:ByteArray)(hs:s.size≤100000)(w:World):Calls pQ 106 #[V s] w λe w'=>e=.returned (V (aC s))∧aa ac w w':=by
 have KW:=vK s w (by omega);have HT:Hid (aC s=match js s with | []=>eS|w::_=>if lJ w=true then w else eS):=rfl;obtain⟨r,hr⟩:∃r,aC s=r:=⟨_,rfl⟩;rw[hr] at HT;rw[hr];have Cw:=vS s;generalize js s=l at *;clear hr
 cases l with
 | nil=>
   have HR:Hid (r=eS):=HT.out;clear hs HT Cw;go_enter Tryz.func106,Tryz.ntmps106;go_wp2_with (first|(go_at_call 156;refine KW.mono ?_;rintro e w1 ⟨A,c,rfl,hrow⟩;have HF:=h_ hrow.frm;clear hrow)|fail);go_ret
   exact⟨by rw[HR.out];rfl,HF.out⟩
 | cons y l=>
   have KT:=λW=>vT y W
   have Yv:l.length+1≤200000:=by simp only[List.length_cons] at Cw;omega
   have HR:Hid (r=if lJ y=true then y else eS):=HT.out;have hl0:(0:Int)<(l.length:Int)+1:=by omega
   have JZ:(((l.length:Int)+1)==0)=false:=beq_eq_false_iff_ne.2 (by omega)
   have HA:Hid (∀(A:Option Addr) (c:Nat) (w1:World),aK 9 w w1 (U A (y::l).length c) (y::l).length ((y::l).map Value.string)→∃b o,A=some ⟨b,o,none⟩∧∀w2,aa ac w1 w2→w2.cell? ⟨b,o,none⟩=some (V y)):=λA c w1 h=>by
    have q:=h.toK.sl;rw[sV] at q;obtain⟨b,o,hA,-,hbl,hc⟩:=q.at_ (f:=λi=>[Value.string i]) (λ_=>rfl) (by decide) (by simp);exact⟨b,o,hA,λw2 hf=>(hf.cell (p:=⟨b,o,none⟩) hbl id).trans (by have q0:=hc 0 (by simp) 0 _ rfl;simp only[Nat.zero_mul,Nat.add_zero] at q0;exact q0)⟩
   clear hs HT Cw
   cases ht:lJ y with
   | false=>
     rw[ht] at KT HR;clear ht;go_enter Tryz.func106,Tryz.ntmps106;go_wp2_with (first|(go_at_call 156;refine KW.mono ?_;rintro e w1 ⟨A,c,rfl,hrow⟩;have HF:=h_ hrow.frm;obtain⟨b,o,rfl,hc⟩:=HA.out _ _ _ hrow;have z1:=hc w1 (aa.refl _ _);have Mo:=h_ hc;clear hrow hc)|(go_at_call 131;refine(KT _).mono ?_;rintro e w2 ⟨rfl,hf⟩;have qx:=h_ hf;have z2:=Mo.out w2 hf;clear hf)|fail);go_ret
     exact⟨by rw[HR.out];rfl,HF.out.trans qx.out⟩
   | true=>
     rw[ht] at KT HR;clear ht;go_enter Tryz.func106,Tryz.ntmps106;go_wp2_with (first|(go_at_call 156;refine KW.mono ?_;rintro e w1 ⟨A,c,rfl,hrow⟩;have HF:=h_ hrow.frm;obtain⟨b,o,rfl,hc⟩:=HA.out _ _ _ hrow;have z1:=hc w1 (aa.refl _ _);have Mo:=h_ hc;clear hrow hc)|(go_at_call 131;refine(KT _).mono ?_;rintro e w2 ⟨rfl,hf⟩;have qx:=h_ hf;have z2:=Mo.out w2 hf;clear hf)|fail);go_ret;exact⟨by rw[HR.out];rfl,HF.out.trans qx.out⟩
def Cs(x:St)(k b:Int)(q:ByteArray)(top:Int)(nm:Bool)(ev:Ev):Int:=
 if q=eS then 1 else if k≠12∧eQ x b=false then 4 else if nm=true then 5 else if top=1048576∨av x ev=false then 2 else 0
theorem LY(x:St)(b:Int)(q:ByteArray):iV x 1 b q=Cs x 1 b q x.tFol (ey x b q) ⟨1,1048576,b,0,q,eS,eS⟩:=rfl
theorem LZ(x:St)(b:Int)(q:ByteArray):iV x 3 b q=Cs x 3 b q x.tFee (decide (0<cH x q)) ⟨3,1048576,b,0,q,⟨#[116]⟩,eS⟩:=rfl
theorem JK(x:St)(b:Int)(q:ByteArray):iV x 12 b q=Cs x 12 b q x.tSea false ⟨11,1048576,0,0,q,⟨#[116]⟩,eS⟩:=rfl
theorem JL{w wc:World}{bx bc be:Nat}{k a b n top:Int}{s t q:ByteArray}{nm:Bool}{ev:Ev}(hS:aM wc G fo fe it se ts x)(hsm:aH x)(hx:ai wc bx 36 #[I J x.clock,U fo.1 x.fols.length fo.2,U fe.1 x.fees.length fe.2,U it.1 x.itms.length it.2,U se.1 x.seas.length se.2,I J x.tFol,I J x.tFee,I J x.tItm,I J x.tSea])(hc:ai wc bc 49 #[I J k,I J a,I J b,I J n,V s,V t])(he:ai wc be 42 #[I J ev.kind,I J ev.a,I J ev.b,I J ev.n,V ev.s,V ev.t,V ev.u])(hF:aa ac w wc){u0 u1 u5 u10 u11 u12 u13 u14 u15 u16 eG eH eI eJ eK eM u23 u24 eO u26 eW u28 eX eY eZ u32 u33 fh fj u36 fk u38 fw fx fy fG fH u44 u45 fJ fK gC gD gw gy gj gl gm gp fM fO fP fQ fU fV fW fX u64 fY fZ gc gg gF gO gP gQ gR gS gT gU gV gW gX gY gZ g9 hZ ie ig ii ij il im io ip:Value}:
  Code.wp pQ (aj 5 (ae Tryz.f103)) (bodyPost pQ Tryz.f103 λe w'=>e=.returned (I J (Cs x k b q top nm ev))∧aa ac w w') ⟨#[u0,u1,V q,O (some ⟨bx,0,none⟩),O (some ⟨bc,0,none⟩),u5,I J 0,O (some ⟨be,0,none⟩),I J top,.bool nm,u10,u11,u12,u13,u14,u15,u16,eG,eH,eI,eJ,eK,eM,u23,u24,eO,u26,eW,u28,eX,eY,eZ,u32,u33,fh,fj,u36,fk,u38,fw,fx,fy,fG,fH,u44,u45,fJ,fK,gC,gD,gw,gy,gj,gl,gm,gp,fM,fO,fP,fQ,fU,fV,fW,fX,u64,fY,fZ,gc,gg,gF,gO,gP,gQ,gR,gS,gT,gU,gV,gW,gX,gY,gZ,g9,hZ,ie,ig,ii,ij,il,im,io,ip],[]⟩ wc:=by
 obtain⟨R,hR⟩:∃R,Cs x k b q top nm ev=R:=⟨_,rfl⟩;rw[hR];have HE:Hid (R=if q=eS then 1 else if k≠12∧eQ x b=false then 4 else if nm=true then 5 else if top=1048576∨av x ev=false then 2 else 0):=hR.symm;have KF:Hid (∀W,aa ac wc W→Calls pQ 105 #[bE fo fe it se x,I J b] W λe w'=>e=.returned (.bool (eQ x b))∧aa ac W w'):=λW hW=>sr (hS.nix hW) hsm b
 have KI:Hid (∀W,aa ac wc W→Calls pQ 30 #[bE fo fe it se x,.agg #[I J ev.kind,I J ev.a,I J ev.b,I J ev.n,V ev.s,V ev.t,V ev.u]] W λe w'=>e=.returned (.bool (av x ev))∧aa ac W w'):=λW hW=>gJ (hS.nix hW) hsm ev
 have mG:=h_ hx;have fp:=h_ he;have HF:=h_ hF;obtain⟨x0,x1,x2,x3,x4,x5,x6,x7,x8⟩:=ak hx;obtain⟨c0,c1,c2,c3,c4,c5⟩:=bn hc;obtain⟨e0,e1,e2,e3,e4,e5,e6⟩:=ap he;clear hS hsm hx hc he hF hR;generalize eQ x b=ib at *;generalize av x ev=ft at *
 by_cases hq:q=eS
 ·have HR:Hid (R=1):=by unfold Hid;rw[HE.out,if_pos hq]
  have JM:q.toList=[]:=cX.2 hq;have JN:q.toList.isEmpty=true:=by rw[JM];rfl
  clear hq;simp only[aj,ae,Tryz.f103];go_wp2_with (first|fail);go_ret;exact⟨by rw[HR.out];rfl,HF.out⟩
 have JM:¬q.toList=[]:=λe=>hq (cX.1 e)
 have JN:q.toList.isEmpty=false:=by cases hh:q.toList.isEmpty with|false=>rfl|true=>exact absurd (List.isEmpty_iff.1 hh) JM
 by_cases hk:k=12
 ·have k0:(k !=12)=false:=by simp[hk]
  have qz:Hid (R=if nm=true then 5 else if top=1048576∨ft=false then 2 else 0):=by unfold Hid;rw[HE.out,if_neg hq,if_neg (λh=>h.1 hk)]
  clear hk hq KF
  cases nm with
  | true=>
    have HR:Hid (R=5):=by unfold Hid;rw[qz.out,if_pos rfl]
    simp only[aj,ae,Tryz.f103];go_wp2_with (first|fail);go_ret
    exact⟨by rw[HR.out];rfl,HF.out⟩
  | false=>
  by_cases ht:top=1048576
  ·have t0:(top==1048576)=true:=beq_iff_eq.2 ht
   have HR:Hid (R=2):=by unfold Hid;rw[qz.out,if_neg (by simp),if_pos (.inl ht)]
   clear ht;simp only[aj,ae,Tryz.f103];go_wp2_with (first|fail);go_ret;exact⟨by rw[HR.out];rfl,HF.out⟩
  have t0:(top==1048576)=false:=beq_eq_false_iff_ne.2 ht
  cases ft with
  | false=>
    have HR:Hid (R=2):=by unfold Hid;rw[qz.out,if_neg (by simp),if_pos (.inr rfl)]
    clear ht;simp only[aj,ae,Tryz.f103];go_wp2_with (first|(go_at_call 30;refine(KI.out _ (fR wc)).mono ?_;rintro e w2 ⟨rfl,hf⟩;have Y2:Hid (aa ac wc w2):=((fR wc)).trans hf;clear hf)|fail);go_ret
    exact⟨by rw[HR.out];rfl,HF.out.trans Y2.out⟩
  | true=>
    have HR:Hid (R=0):=by unfold Hid;rw[qz.out,if_neg (by simp),if_neg (λh=>by rcases h with h|h;exact ht h;cases h)]
    clear ht;simp only[aj,ae,Tryz.f103];go_wp2_with (first|(go_at_call 30;refine(KI.out _ (fR wc)).mono ?_;rintro e w2 ⟨rfl,hf⟩;have Y2:Hid (aa ac wc w2):=((fR wc)).trans hf;clear hf)|fail);go_ret;exact⟨by rw[HR.out];rfl,HF.out.trans Y2.out⟩
 have k0:(k !=12)=true:=by simp[hk]
 cases ib with
 | false=>
   have HR:Hid (R=4):=by unfold Hid;rw[HE.out,if_neg hq,if_pos ⟨hk,rfl⟩]
   clear hk hq;simp only[aj,ae,Tryz.f103];go_wp2_with (first|(go_at_call 105;refine(KF.out _ (fR wc)).mono ?_;rintro e w1 ⟨rfl,hf⟩;have Y1:=h_ hf;obtain⟨z0,z1,z2,z3,z4,z5,z6,z7,z8⟩:=ak (mG.out.frm hf id);obtain⟨v0,v1,v2,v3,v4,v5,v6⟩:=ap (fp.out.frm hf id);clear hf)|fail);go_ret
   exact⟨by rw[HR.out];rfl,HF.out.trans Y1.out⟩
 | true=>
   have qz:Hid (R=if nm=true then 5 else if top=1048576∨ft=false then 2 else 0):=by unfold Hid;rw[HE.out,if_neg hq,if_neg (λh=>by cases h.2)]
   clear hk hq
   cases nm with
   | true=>
     have HR:Hid (R=5):=by unfold Hid;rw[qz.out,if_pos rfl]
     simp only[aj,ae,Tryz.f103];go_wp2_with (first|(go_at_call 105;refine(KF.out _ (fR wc)).mono ?_;rintro e w1 ⟨rfl,hf⟩;have Y1:=h_ hf;obtain⟨z0,z1,z2,z3,z4,z5,z6,z7,z8⟩:=ak (mG.out.frm hf id);obtain⟨v0,v1,v2,v3,v4,v5,v6⟩:=ap (fp.out.frm hf id);clear hf)|fail);go_ret
     exact⟨by rw[HR.out];rfl,HF.out.trans Y1.out⟩
   | false=>
   by_cases ht:top=1048576
   ·have t0:(top==1048576)=true:=beq_iff_eq.2 ht
    have HR:Hid (R=2):=by unfold Hid;rw[qz.out,if_neg (by simp),if_pos (.inl ht)]
    clear ht;simp only[aj,ae,Tryz.f103];go_wp2_with (first|(go_at_call 105;refine(KF.out _ (fR wc)).mono ?_;rintro e w1 ⟨rfl,hf⟩;have Y1:=h_ hf;obtain⟨z0,z1,z2,z3,z4,z5,z6,z7,z8⟩:=ak (mG.out.frm hf id);obtain⟨v0,v1,v2,v3,v4,v5,v6⟩:=ap (fp.out.frm hf id);clear hf)|fail);go_ret;exact⟨by rw[HR.out];rfl,HF.out.trans Y1.out⟩
   have t0:(top==1048576)=false:=beq_eq_false_iff_ne.2 ht
   cases ft with
   | false=>
     have HR:Hid (R=2):=by unfold Hid;rw[qz.out,if_neg (by simp),if_pos (.inr rfl)]
     clear ht;simp only[aj,ae,Tryz.f103];go_wp2_with (first|(go_at_call 105;refine(KF.out _ (fR wc)).mono ?_;rintro e w1 ⟨rfl,hf⟩;have Y1:=h_ hf;obtain⟨z0,z1,z2,z3,z4,z5,z6,z7,z8⟩:=ak (mG.out.frm hf id);obtain⟨v0,v1,v2,v3,v4,v5,v6⟩:=ap (fp.out.frm hf id);clear hf)|(go_at_call 30;refine(KI.out _ Y1.out).mono ?_;rintro e w2 ⟨rfl,hf⟩;have Y2:Hid (aa ac wc w2):=(Y1.out).trans hf;clear hf)|fail);go_ret
     exact⟨by rw[HR.out];rfl,HF.out.trans Y2.out⟩
   | true=>
     have HR:Hid (R=0):=by unfold Hid;rw[qz.out,if_neg (by simp),if_neg (λh=>by rcases h with h|h;exact ht h;cases h)]
     clear ht;simp only[aj,ae,Tryz.f103];go_wp2_with (first|(go_at_call 105;refine(KF.out _ (fR wc)).mono ?_;rintro e w1 ⟨rfl,hf⟩;have Y1:=h_ hf;obtain⟨z0,z1,z2,z3,z4,z5,z6,z7,z8⟩:=ak (mG.out.frm hf id);obtain⟨v0,v1,v2,v3,v4,v5,v6⟩:=ap (fp.out.frm hf id);clear hf)|(go_at_call 30;refine(KI.out _ Y1.out).mono ?_;rintro e w2 ⟨rfl,hf⟩;have Y2:Hid (aa ac wc w2):=(Y1.out).trans hf;clear hf)|fail);go_ret;exact⟨by rw[HR.out];rfl,HF.out.trans Y2.out⟩
theorem L0(hS:aM w G fo fe it se ts x)(hsm:aH x)(a b n:Int)(s t q:ByteArray):
  Calls pQ 103 #[bE fo fe it se x,.agg #[I J 12,I J a,I J b,I J n,V s,V t],V q] w λe w'=>e=.returned (I J (iV x 12 b q))∧aa ac w w':=by
 rw[JK];obtain⟨W0,hW0⟩:∃W0,W0=((w.alloc (.cells #[I J x.clock,U fo.1 x.fols.length fo.2,U fe.1 x.fees.length fe.2,U it.1 x.itms.length it.2,U se.1 x.seas.length se.2,I J x.tFol,I J x.tFee,I J x.tItm,I J x.tSea] 36)).alloc (.cells #[I J 12,I J a,I J b,I J n,V s,V t] 49)).alloc (.cells #[I J 0,I J 1048576,I J b,I J 0,V q,V ⟨#[116]⟩,V ⟨#[]⟩] 42):=⟨_,rfl⟩;have Fl:aa ac w W0:=by rw[hW0];exact(((fR w).alloc _).alloc _).alloc _
 have JO:ai W0 w.heap.size 36 #[I J x.clock,U fo.1 x.fols.length fo.2,U fe.1 x.fees.length fe.2,U it.1 x.itms.length it.2,U se.1 x.seas.length se.2,I J x.tFol,I J x.tFee,I J x.tItm,I J x.tSea]:=by rw[hW0];exact((ai.new w _ _).alloc _).alloc _
 have JP:ai W0 (w.heap.size+1) 49 #[I J 12,I J a,I J b,I J n,V s,V t]:=by
  rw[hW0];have q1:=ai.new (w.alloc (.cells #[I J x.clock,U fo.1 x.fols.length fo.2,U fe.1 x.fees.length fe.2,U it.1 x.itms.length it.2,U se.1 x.seas.length se.2,I J x.tFol,I J x.tFee,I J x.tItm,I J x.tSea] 36)) 49 #[I J 12,I J a,I J b,I J n,V s,V t];rw[show (w.alloc (.cells #[I J x.clock,U fo.1 x.fols.length fo.2,U fe.1 x.fees.length fe.2,U it.1 x.itms.length it.2,U se.1 x.seas.length se.2,I J x.tFol,I J x.tFee,I J x.tItm,I J x.tSea] 36)).heap.size=w.heap.size+1 by simp] at q1;exact q1.alloc _
 have rp:ai W0 (w.heap.size+1+1) 42 #[I J 0,I J 1048576,I J b,I J 0,V q,V ⟨#[116]⟩,V ⟨#[]⟩]:=by
  rw[hW0];have q1:=ai.new ((w.alloc (.cells #[I J x.clock,U fo.1 x.fols.length fo.2,U fe.1 x.fees.length fe.2,U it.1 x.itms.length it.2,U se.1 x.seas.length se.2,I J x.tFol,I J x.tFee,I J x.tItm,I J x.tSea] 36)).alloc (.cells #[I J 12,I J a,I J b,I J n,V s,V t] 49)) 42 #[I J 0,I J 1048576,I J b,I J 0,V q,V ⟨#[116]⟩,V ⟨#[]⟩];rw[show ((w.alloc (.cells #[I J x.clock,U fo.1 x.fols.length fo.2,U fe.1 x.fees.length fe.2,U it.1 x.itms.length it.2,U se.1 x.seas.length se.2,I J x.tFol,I J x.tFee,I J x.tItm,I J x.tSea] 36)).alloc (.cells #[I J 12,I J a,I J b,I J n,V s,V t] 49)).heap.size=w.heap.size+1+1 by simp] at q1;exact q1
 have HW:=h_ hW0;have dM:=h_ Fl;have mG:=h_ JO;have dw:=h_ JP;have fp:=h_ rp;have HS:=h_ (hS.nix Fl);have nP:=h_ hsm;have ew:=hsm.fols;obtain⟨x0,x1,x2,x3,x4,x5,x6,x7,x8⟩:=ak JO;obtain⟨c0,c1,c2,c3,c4,c5⟩:=bn JP;have g0:=rp.frozen 0;have g2:=rp.frozen 2;have g5:=rp.frozen 5;have p0:=(rp.cell 0).trans rfl;have p2:=(rp.cell 2).trans rfl;have p5:=(rp.cell 5).trans rfl;have QM:Hid (aM W0 (λj=>G j∧j<w.heap.size) fo fe it se ts x):=(hS.cOld).nix Fl;clear hS hsm hW0 Fl JO JP rp;unfold bE;go_enter Tryz.func103,Tryz.ntmps103;show Code.wp pQ (aj 0 (ae Tryz.f103)) _ _ _
 refine aG (k':=1) λK hK=>?_
 conv in bz _=>whnf
 go_wp2;refine aG (k':=2) λK hK=>?_
 conv in bz _=>whnf
 go_wp2;refine aG (k':=3) λK hK=>?_
 conv in bz _=>whnf
 go_wp2;refine aG (k':=4) λK hK=>?_
 conv in bz _=>whnf
 go_wp2;rw[←HW.out];refine aG (k':=5) λK hK=>?_
 conv in bz _=>whnf
 have sD:Hid (∀(W:World) (i:Nat) (u:Value),W.cell? ⟨w.heap.size,8,none⟩=some (I J x.tSea)→(W.setCell ⟨(w.heap.size+1+1),i,none⟩ u).cell? ⟨w.heap.size,8,none⟩=some (I J x.tSea)):=λW i u h=>(World.cell?_setCell_far _ _ _ _ (by simp;omega)).trans h
 go_wp2
 go_region_held3 (λW=>W.cell? ⟨w.heap.size,8,none⟩=some (I J x.tSea)) ((first|exact x8|exact sD.out _ _ _ x8|exact sD.out _ _ _ (sD.out _ _ _ x8))) (fail)
 all_goals
  go_wp2;obtain⟨W1,hW1⟩:∃W1,W1=((W0.setCell ⟨(w.heap.size+1+1),0,none⟩ (I J 11)).setCell ⟨(w.heap.size+1+1),2,none⟩ (I J 0)).drew:=⟨_,rfl⟩;have Bq:Hid (aa ac w W1):=by unfold Hid;rw[hW1];exact(aa.setCell ((aa.setCell (dM.out) (p:=⟨(w.heap.size+1+1),0,none⟩) (.inr (by simp;omega)) _)) (p:=⟨(w.heap.size+1+1),2,none⟩) (.inr (by simp;omega)) _).drew
  have JQ:Hid (aa (λj=>j=(w.heap.size+1+1)) W0 W1):=by unfold Hid;rw[hW1];exact(aa.setCell ((aa.setCell ((aa.refl (λj=>j=(w.heap.size+1+1)) W0)) (p:=⟨(w.heap.size+1+1),0,none⟩) (.inl rfl) _)) (p:=⟨(w.heap.size+1+1),2,none⟩) (.inl rfl) _).drew
  have Gp:Hid (ai W1 w.heap.size 36 #[I J x.clock,U fo.1 x.fols.length fo.2,U fe.1 x.fees.length fe.2,U it.1 x.itms.length it.2,U se.1 x.seas.length se.2,I J x.tFol,I J x.tFee,I J x.tItm,I J x.tSea]):=by unfold Hid;rw[hW1];exact(((mG.out).far (p:=⟨(w.heap.size+1+1),0,none⟩) (by simp;omega) _).far (p:=⟨(w.heap.size+1+1),2,none⟩) (by simp;omega) _).drew
  have NJ:Hid (ai W1 (w.heap.size+1) 49 #[I J 12,I J a,I J b,I J n,V s,V t]):=by unfold Hid;rw[hW1];exact(((dw.out).far (p:=⟨(w.heap.size+1+1),0,none⟩) (by simp) _).far (p:=⟨(w.heap.size+1+1),2,none⟩) (by simp) _).drew
  have QN:Hid (ai W1 (w.heap.size+1+1) 42 #[I J 11,I J 1048576,I J 0,I J 0,V q,V ⟨#[116]⟩,V ⟨#[]⟩]):=by unfold Hid;rw[hW1];exact(((fp.out).set_ 0 _).set_ 2 _).drew
  have Hj:Hid (aM W1 (λj=>G j∧j<w.heap.size) fo fe it se ts x):=QM.out.frm (JQ.out) (λj hj e=>by have:=hj.2;omega);rw[←hW1];clear hW1 p0 p2 p5 g0 g2 g5 x0 x1 x2 x3 x4 x5 x6 x7 x8 c0 c1 c2 c3 c4 c5;exact JL (ev:=⟨11,1048576,0,0,q,⟨#[116]⟩,eS⟩) Hj.out nP.out Gp.out NJ.out QN.out Bq.out
theorem Oq(hS:aM w G fo fe it se ts x)(hsm:aH x)(a b n:Int)(s t q:ByteArray):
  Calls pQ 103 #[bE fo fe it se x,.agg #[I J 3,I J a,I J b,I J n,V s,V t],V q] w λe w'=>e=.returned (I J (iV x 3 b q))∧aa ac w w':=by
 rw[LZ];obtain⟨W0,hW0⟩:∃W0,W0=((w.alloc (.cells #[I J x.clock,U fo.1 x.fols.length fo.2,U fe.1 x.fees.length fe.2,U it.1 x.itms.length it.2,U se.1 x.seas.length se.2,I J x.tFol,I J x.tFee,I J x.tItm,I J x.tSea] 36)).alloc (.cells #[I J 3,I J a,I J b,I J n,V s,V t] 49)).alloc (.cells #[I J 0,I J 1048576,I J b,I J 0,V q,V ⟨#[116]⟩,V ⟨#[]⟩] 42):=⟨_,rfl⟩;have Fl:aa ac w W0:=by rw[hW0];exact(((fR w).alloc _).alloc _).alloc _
 have JO:ai W0 w.heap.size 36 #[I J x.clock,U fo.1 x.fols.length fo.2,U fe.1 x.fees.length fe.2,U it.1 x.itms.length it.2,U se.1 x.seas.length se.2,I J x.tFol,I J x.tFee,I J x.tItm,I J x.tSea]:=by rw[hW0];exact((ai.new w _ _).alloc _).alloc _
 have JP:ai W0 (w.heap.size+1) 49 #[I J 3,I J a,I J b,I J n,V s,V t]:=by
  rw[hW0];have q1:=ai.new (w.alloc (.cells #[I J x.clock,U fo.1 x.fols.length fo.2,U fe.1 x.fees.length fe.2,U it.1 x.itms.length it.2,U se.1 x.seas.length se.2,I J x.tFol,I J x.tFee,I J x.tItm,I J x.tSea] 36)) 49 #[I J 3,I J a,I J b,I J n,V s,V t];rw[show (w.alloc (.cells #[I J x.clock,U fo.1 x.fols.length fo.2,U fe.1 x.fees.length fe.2,U it.1 x.itms.length it.2,U se.1 x.seas.length se.2,I J x.tFol,I J x.tFee,I J x.tItm,I J x.tSea] 36)).heap.size=w.heap.size+1 by simp] at q1;exact q1.alloc _
 have rp:ai W0 (w.heap.size+1+1) 42 #[I J 0,I J 1048576,I J b,I J 0,V q,V ⟨#[116]⟩,V ⟨#[]⟩]:=by
  rw[hW0];have q1:=ai.new ((w.alloc (.cells #[I J x.clock,U fo.1 x.fols.length fo.2,U fe.1 x.fees.length fe.2,U it.1 x.itms.length it.2,U se.1 x.seas.length se.2,I J x.tFol,I J x.tFee,I J x.tItm,I J x.tSea] 36)).alloc (.cells #[I J 3,I J a,I J b,I J n,V s,V t] 49)) 42 #[I J 0,I J 1048576,I J b,I J 0,V q,V ⟨#[116]⟩,V ⟨#[]⟩];rw[show ((w.alloc (.cells #[I J x.clock,U fo.1 x.fols.length fo.2,U fe.1 x.fees.length fe.2,U it.1 x.itms.length it.2,U se.1 x.seas.length se.2,I J x.tFol,I J x.tFee,I J x.tItm,I J x.tSea] 36)).alloc (.cells #[I J 3,I J a,I J b,I J n,V s,V t] 49)).heap.size=w.heap.size+1+1 by simp] at q1;exact q1
 have HW:=h_ hW0;have dM:=h_ Fl;have mG:=h_ JO;have dw:=h_ JP;have fp:=h_ rp;have HS:=h_ (hS.nix Fl);have nP:=h_ hsm;have ew:=hsm.fols;obtain⟨x0,x1,x2,x3,x4,x5,x6,x7,x8⟩:=ak JO;obtain⟨c0,c1,c2,c3,c4,c5⟩:=bn JP;have g0:=rp.frozen 0;have g2:=rp.frozen 2;have g5:=rp.frozen 5;have p0:=(rp.cell 0).trans rfl;have p2:=(rp.cell 2).trans rfl;have p5:=(rp.cell 5).trans rfl;have QM:Hid (aM W0 (λj=>G j∧j<w.heap.size) fo fe it se ts x):=(hS.cOld).nix Fl;clear hS hsm hW0 Fl JO JP rp;unfold bE;go_enter Tryz.func103,Tryz.ntmps103;show Code.wp pQ (aj 0 (ae Tryz.f103)) _ _ _
 refine aG (k':=1) λK hK=>?_
 conv in bz _=>whnf
 go_wp2;refine aG (k':=2) λK hK=>?_
 conv in bz _=>whnf
 go_wp2;refine aG (k':=3) λK hK=>?_
 conv in bz _=>whnf
 go_wp2;refine aG (k':=4) λK hK=>?_
 conv in bz _=>whnf
 go_wp2;rw[←HW.out];refine aG (k':=5) λK hK=>?_
 conv in bz _=>whnf
 have sD:Hid (∀(W:World) (i:Nat) (u:Value),W.cell? ⟨w.heap.size,6,none⟩=some (I J x.tFee)→(W.setCell ⟨(w.heap.size+1+1),i,none⟩ u).cell? ⟨w.heap.size,6,none⟩=some (I J x.tFee)):=λW i u h=>(World.cell?_setCell_far _ _ _ _ (by simp;omega)).trans h
 go_wp2
 go_region_held3 (λW=>W.cell? ⟨w.heap.size,6,none⟩=some (I J x.tFee)) ((first|exact x6|exact sD.out _ _ _ x6|exact sD.out _ _ _ (sD.out _ _ _ x6))) (fail)
 all_goals
  go_wp2_with fail;obtain⟨W1,hW1⟩:∃W1,W1=(W0.setCell ⟨(w.heap.size+1+1),0,none⟩ (I J 3)).drew:=⟨_,rfl⟩;have Bq:Hid (aa ac w W1):=by unfold Hid;rw[hW1];exact(aa.setCell (dM.out) (p:=⟨(w.heap.size+1+1),0,none⟩) (.inr (by simp;omega)) _).drew
  have JQ:Hid (aa (λj=>j=(w.heap.size+1+1)) W0 W1):=by unfold Hid;rw[hW1];exact(aa.setCell ((aa.refl (λj=>j=(w.heap.size+1+1)) W0)) (p:=⟨(w.heap.size+1+1),0,none⟩) (.inl rfl) _).drew
  have Gp:Hid (ai W1 w.heap.size 36 #[I J x.clock,U fo.1 x.fols.length fo.2,U fe.1 x.fees.length fe.2,U it.1 x.itms.length it.2,U se.1 x.seas.length se.2,I J x.tFol,I J x.tFee,I J x.tItm,I J x.tSea]):=by unfold Hid;rw[hW1];exact((mG.out).far (p:=⟨(w.heap.size+1+1),0,none⟩) (by simp;omega) _).drew
  have NJ:Hid (ai W1 (w.heap.size+1) 49 #[I J 3,I J a,I J b,I J n,V s,V t]):=by unfold Hid;rw[hW1];exact((dw.out).far (p:=⟨(w.heap.size+1+1),0,none⟩) (by simp) _).drew
  have QN:Hid (ai W1 (w.heap.size+1+1) 42 #[I J 3,I J 1048576,I J b,I J 0,V q,V ⟨#[116]⟩,V ⟨#[]⟩]):=by unfold Hid;rw[hW1];exact((fp.out).set_ 0 _).drew
  have Hj:Hid (aM W1 (λj=>G j∧j<w.heap.size) fo fe it se ts x):=QM.out.frm (JQ.out) (λj hj e=>by have:=hj.2;omega);rw[←hW1];clear hW1 p0 p2 p5 g0 g2 g5 x0 x1 x2 x3 x4 x5 x6 x7 x8 c0 c1 c2 c3 c4 c5;obtain⟨z0,z1,z2,z3,z4,z5,z6,z7,z8⟩:=ak Gp.out;have KP:Hid (Calls pQ 76 #[bE fo fe it se x,V q] W1 λe w'=>e=.returned (I J (cH x q))∧aa ac W1 w'):=wT Hj.out nP.out q;go_wp2_with (first|(go_at_call 76;refine KP.out.mono ?_;rintro e w2 ⟨rfl,hf⟩;have Y2:=h_ hf;clear hf)|fail);exact JL (ev:=⟨3,1048576,b,0,q,⟨#[116]⟩,eS⟩) (Hj.out.nix Y2.out) nP.out (Gp.out.frm Y2.out id) (NJ.out.frm Y2.out id) (QN.out.frm Y2.out id) (Bq.out.trans Y2.out)
theorem Ot(hS:aM w G fo fe it se ts x)(hsm:aH x)(a b n:Int)(s t q:ByteArray):
  Calls pQ 103 #[bE fo fe it se x,.agg #[I J 1,I J a,I J b,I J n,V s,V t],V q] w λe w'=>e=.returned (I J (iV x 1 b q))∧aa ac w w':=by
 rw[LY];obtain⟨W0,hW0⟩:∃W0,W0=((w.alloc (.cells #[I J x.clock,U fo.1 x.fols.length fo.2,U fe.1 x.fees.length fe.2,U it.1 x.itms.length it.2,U se.1 x.seas.length se.2,I J x.tFol,I J x.tFee,I J x.tItm,I J x.tSea] 36)).alloc (.cells #[I J 1,I J a,I J b,I J n,V s,V t] 49)).alloc (.cells #[I J 0,I J 1048576,I J b,I J 0,V q,V ⟨#[116]⟩,V ⟨#[]⟩] 42):=⟨_,rfl⟩;have Fl:aa ac w W0:=by rw[hW0];exact(((fR w).alloc _).alloc _).alloc _
 have JO:ai W0 w.heap.size 36 #[I J x.clock,U fo.1 x.fols.length fo.2,U fe.1 x.fees.length fe.2,U it.1 x.itms.length it.2,U se.1 x.seas.length se.2,I J x.tFol,I J x.tFee,I J x.tItm,I J x.tSea]:=by rw[hW0];exact((ai.new w _ _).alloc _).alloc _
 have JP:ai W0 (w.heap.size+1) 49 #[I J 1,I J a,I J b,I J n,V s,V t]:=by
  rw[hW0];have q1:=ai.new (w.alloc (.cells #[I J x.clock,U fo.1 x.fols.length fo.2,U fe.1 x.fees.length fe.2,U it.1 x.itms.length it.2,U se.1 x.seas.length se.2,I J x.tFol,I J x.tFee,I J x.tItm,I J x.tSea] 36)) 49 #[I J 1,I J a,I J b,I J n,V s,V t];rw[show (w.alloc (.cells #[I J x.clock,U fo.1 x.fols.length fo.2,U fe.1 x.fees.length fe.2,U it.1 x.itms.length it.2,U se.1 x.seas.length se.2,I J x.tFol,I J x.tFee,I J x.tItm,I J x.tSea] 36)).heap.size=w.heap.size+1 by simp] at q1;exact q1.alloc _
 have rp:ai W0 (w.heap.size+1+1) 42 #[I J 0,I J 1048576,I J b,I J 0,V q,V ⟨#[116]⟩,V ⟨#[]⟩]:=by
  rw[hW0];have q1:=ai.new ((w.alloc (.cells #[I J x.clock,U fo.1 x.fols.length fo.2,U fe.1 x.fees.length fe.2,U it.1 x.itms.length it.2,U se.1 x.seas.length se.2,I J x.tFol,I J x.tFee,I J x.tItm,I J x.tSea] 36)).alloc (.cells #[I J 1,I J a,I J b,I J n,V s,V t] 49)) 42 #[I J 0,I J 1048576,I J b,I J 0,V q,V ⟨#[116]⟩,V ⟨#[]⟩];rw[show ((w.alloc (.cells #[I J x.clock,U fo.1 x.fols.length fo.2,U fe.1 x.fees.length fe.2,U it.1 x.itms.length it.2,U se.1 x.seas.length se.2,I J x.tFol,I J x.tFee,I J x.tItm,I J x.tSea] 36)).alloc (.cells #[I J 1,I J a,I J b,I J n,V s,V t] 49)).heap.size=w.heap.size+1+1 by simp] at q1;exact q1
 have HW:=h_ hW0;have dM:=h_ Fl;have mG:=h_ JO;have dw:=h_ JP;have fp:=h_ rp;have HS:=h_ (hS.nix Fl);have nP:=h_ hsm;have ew:=hsm.fols;obtain⟨x0,x1,x2,x3,x4,x5,x6,x7,x8⟩:=ak JO;obtain⟨c0,c1,c2,c3,c4,c5⟩:=bn JP;have g0:=rp.frozen 0;have g2:=rp.frozen 2;have g5:=rp.frozen 5;have p0:=(rp.cell 0).trans rfl;have p2:=(rp.cell 2).trans rfl;have p5:=(rp.cell 5).trans rfl;have QM:Hid (aM W0 (λj=>G j∧j<w.heap.size) fo fe it se ts x):=(hS.cOld).nix Fl;clear hS hsm hW0 Fl JO JP rp;unfold bE;go_enter Tryz.func103,Tryz.ntmps103;show Code.wp pQ (aj 0 (ae Tryz.f103)) _ _ _
 refine aG (k':=1) λK hK=>?_
 conv in bz _=>whnf
 go_wp2;refine aG (k':=2) λK hK=>?_
 conv in bz _=>whnf
 go_wp2;refine aG (k':=3) λK hK=>?_
 conv in bz _=>whnf
 go_wp2;refine aG (k':=4) λK hK=>?_
 conv in bz _=>whnf
 go_wp2;rw[←HW.out];refine aG (k':=5) λK hK=>?_
 conv in bz _=>whnf
 have sD:Hid (∀(W:World) (i:Nat) (u:Value),W.cell? ⟨w.heap.size,5,none⟩=some (I J x.tFol)→(W.setCell ⟨(w.heap.size+1+1),i,none⟩ u).cell? ⟨w.heap.size,5,none⟩=some (I J x.tFol)):=λW i u h=>(World.cell?_setCell_far _ _ _ _ (by simp;omega)).trans h
 go_wp2
 go_region_held3 (λW=>W.cell? ⟨w.heap.size,5,none⟩=some (I J x.tFol)) ((first|exact x5|exact sD.out _ _ _ x5|exact sD.out _ _ _ (sD.out _ _ _ x5))) (fail)
 all_goals
  go_wp2;obtain⟨W1,hW1⟩:∃W1,W1=((W0.setCell ⟨(w.heap.size+1+1),0,none⟩ (I J 1)).setCell ⟨(w.heap.size+1+1),5,none⟩ (V ⟨#[]⟩)).drew:=⟨_,rfl⟩;have Bq:Hid (aa ac w W1):=by unfold Hid;rw[hW1];exact(aa.setCell ((aa.setCell (dM.out) (p:=⟨(w.heap.size+1+1),0,none⟩) (.inr (by simp;omega)) _)) (p:=⟨(w.heap.size+1+1),5,none⟩) (.inr (by simp;omega)) _).drew
  have JQ:Hid (aa (λj=>j=(w.heap.size+1+1)) W0 W1):=by unfold Hid;rw[hW1];exact(aa.setCell ((aa.setCell ((aa.refl (λj=>j=(w.heap.size+1+1)) W0)) (p:=⟨(w.heap.size+1+1),0,none⟩) (.inl rfl) _)) (p:=⟨(w.heap.size+1+1),5,none⟩) (.inl rfl) _).drew
  have Gp:Hid (ai W1 w.heap.size 36 #[I J x.clock,U fo.1 x.fols.length fo.2,U fe.1 x.fees.length fe.2,U it.1 x.itms.length it.2,U se.1 x.seas.length se.2,I J x.tFol,I J x.tFee,I J x.tItm,I J x.tSea]):=by unfold Hid;rw[hW1];exact(((mG.out).far (p:=⟨(w.heap.size+1+1),0,none⟩) (by simp;omega) _).far (p:=⟨(w.heap.size+1+1),5,none⟩) (by simp;omega) _).drew
  have NJ:Hid (ai W1 (w.heap.size+1) 49 #[I J 1,I J a,I J b,I J n,V s,V t]):=by unfold Hid;rw[hW1];exact(((dw.out).far (p:=⟨(w.heap.size+1+1),0,none⟩) (by simp) _).far (p:=⟨(w.heap.size+1+1),5,none⟩) (by simp) _).drew
  have QN:Hid (ai W1 (w.heap.size+1+1) 42 #[I J 1,I J 1048576,I J b,I J 0,V q,V ⟨#[]⟩,V ⟨#[]⟩]):=by unfold Hid;rw[hW1];exact(((fp.out).set_ 0 _).set_ 5 _).drew
  have Hj:Hid (aM W1 (λj=>G j∧j<w.heap.size) fo fe it se ts x):=QM.out.frm (JQ.out) (λj hj e=>by have:=hj.2;omega);rw[←hW1];clear hW1 p0 p2 p5 g0 g2 g5 x0 x1 x2 x3 x4 x5 x6 x7 x8 c0 c1 c2 c3 c4 c5
  have VE:Hid (ey x b q=x.fols.any λf=>decide (f.inn=b)&&decide (f.name=q)):=by
   unfold Hid ey
   congr 1
   funext f
   exact Bool.decide_and _ _
  obtain⟨p,hp⟩:∃p:bg→Bool,(λf=>decide (f.inn=b)&&decide (f.name=q))=p:=⟨_,rfl⟩;have Yw:Hid (∀g:bg,p g=(decide (g.inn=b)&&decide (g.name=q))):=λg=>by rw[←hp]
  rw[hp] at VE;clear hp
  go_loopw [9,10] (λnv iv wr=>∃j:Nat,j≤x.fols.length∧iv=I J j∧nv=.bool ((x.fols.take j).any p)∧aa ac W1 wr) (λ_ iv _=>x.fols.length-(intOf iv).toNat)
  case atStart=>exact⟨0,by omega,rfl,rfl,aa.refl _ _⟩
  case round=>
   obtain⟨j,hj,rfl,rfl,hf⟩:=hrel;have HF:=h_ hf;clear hf;obtain⟨z0,z1,z2,z3,z4,z5,z6,z7,z8⟩:=ak (Gp.out.frm HF.out id)
   by_cases hlt:j<x.fols.length
   ·obtain⟨bb,off,hA,-,hbl,hcell⟩:=(Hj.out.fols.nix HF.out).at_ bg.clen (by decide) (by omega)
    obtain⟨Af,cf⟩:=fo;dsimp only at hA z1;subst hA;have hc:=hcell j hlt
    have xg:Hid ((x.fols.take (j+1)).any p=((x.fols.take j).any p||p x.fols[j])):=by
     unfold Hid;rw[List.take_succ_eq_append_getElem hlt,List.any_append];simp
    obtain⟨g,hg⟩:∃g,x.fols[j]=g:=⟨_,rfl⟩;rw[hg] at hc xg;have Zm:∀y:FW (aa ac wr),y.w.cell? ⟨w.heap.size,1,none⟩=some (U (some ⟨bb,off,none⟩) x.fols.length cf):=λy=>((Gp.out.frm (HF.out.trans y.h) id).cell 1).trans rfl
    have cyb:∀y:FW (aa ac wr),y.w.cell? ⟨(w.heap.size+1),2,none⟩=some (I J b):=λy=>((NJ.out.frm (HF.out.trans y.h) id).cell 2).trans rfl
    have cyi:∀y:FW (aa ac wr),y.w.cell? ⟨bb,off+j * 3+1,none⟩=some (I J g.inn):=λy=>(y.h.cell (p:=⟨bb,off+j * 3+1,none⟩) hbl id).trans (hc 1 _ rfl)
    have cyn:∀y:FW (aa ac wr),y.w.cell? ⟨bb,off+j * 3+2,none⟩=some (V g.name):=λy=>(y.h.cell (p:=⟨bb,off+j * 3+2,none⟩) hbl id).trans (hc 2 _ rfl)
    have Zn:(0:Int)≤(j:Int):=Int.natCast_nonneg _;have DG:(j:Int)<(x.fols.length:Int):=by omega
    have d1:decide ((j:Int)<(x.fols.length:Int))=true:=decide_eq_true DG;have d2:decide (j<x.fols.length)=true:=decide_eq_true hlt;have HG:=Yw.out g;clear hcell hc hg;obtain⟨nb,Uc⟩:∃nb,(x.fols.take j).any p=nb:=⟨_,rfl⟩;rw[Uc] at xg;rw[Uc];clear Uc
    cases nb with
    | true=>
      have Yx:Hid ((x.fols.take (j+1)).any p=true):=by unfold Hid;rw[xg.out];rfl
      clear HG;go_wp2_with fail;refine au (aa ac wr) ((fR wr).drew) (by kernel_rfl) (by kernel_rfl) ?_
      repeat (go_big_quiet_step (fail))
      refine wpQuiet_nil ?_;rintro w5 ⟨⟨_,su⟩,rfl⟩;go_wp2;go_roundw
      case rel=>exact⟨j+1,by omega,by go_num,by rw[Yx.out],HF.out.trans su⟩
      case measure=>simp[intOf];omega
    | false=>
    by_cases h1:g.inn=b
    ·have i1:(g.inn==b)=true:=beq_iff_eq.2 h1
     by_cases h2:g.name=q
     ·have i2:(g.name.toList==q.toList)=true:=by rw[h2];simp
      have Rn:Hid ((x.fols.take (j+1)).any p=true):=by unfold Hid;rw[xg.out,HG,decide_eq_true h1,decide_eq_true h2];rfl
      clear HG h1 h2;go_wp2_with fail;refine au (aa ac wr) ((fR wr).drew) (by kernel_rfl) (by kernel_rfl) ?_
      repeat (go_big_quiet_step (fail))
      refine wpQuiet_nil ?_;rintro w5 ⟨⟨_,su⟩,rfl⟩;go_wp2;go_roundw
      case rel=>exact⟨j+1,by omega,by go_num,by rw[Rn.out],HF.out.trans su⟩
      case measure=>simp[intOf];omega
     ·have i2:(g.name.toList==q.toList)=false:=by rw[Pv,decide_eq_false h2]
      have Yy:Hid ((x.fols.take (j+1)).any p=false):=by unfold Hid;rw[xg.out,HG,decide_eq_true h1,decide_eq_false h2];rfl
      clear HG h1 h2;go_wp2_with fail;refine au (aa ac wr) ((fR wr).drew) (by kernel_rfl) (by kernel_rfl) ?_
      repeat (go_big_quiet_step (fail))
      refine wpQuiet_nil ?_;rintro w5 ⟨⟨_,su⟩,rfl⟩;go_wp2;go_roundw
      case rel=>exact⟨j+1,by omega,by go_num,by rw[Yy.out],HF.out.trans su⟩
      case measure=>simp[intOf];omega
    ·have i1:(g.inn==b)=false:=beq_eq_false_iff_ne.2 h1
     have Yz:Hid ((x.fols.take (j+1)).any p=false):=by unfold Hid;rw[xg.out,HG,decide_eq_false h1];rfl
     clear HG h1;go_wp2_with fail;refine au (aa ac wr) ((fR wr).drew) (by kernel_rfl) (by kernel_rfl) ?_
     repeat (go_big_quiet_step (fail))
     refine wpQuiet_nil ?_;rintro w5 ⟨⟨_,su⟩,rfl⟩;go_wp2;go_roundw
     case rel=>exact⟨j+1,by omega,by go_num,by rw[Yz.out],HF.out.trans su⟩
     case measure=>simp[intOf];omega
   ·obtain rfl:j=x.fols.length:=by omega
    have d1:decide ((x.fols.length:Int)<(x.fols.length:Int))=false:=decide_eq_false (by omega);have d2:decide (x.fols.length<x.fols.length)=false:=decide_eq_false (by omega);have xg:Hid (x.fols.take x.fols.length=x.fols):=List.take_length;rw[xg.out,←VE.out];go_wp2;exact JL (ev:=⟨1,1048576,b,0,q,eS,eS⟩) (Hj.out.nix HF.out) nP.out (Gp.out.frm HF.out id) (NJ.out.frm HF.out id) (QN.out.frm HF.out id) (Bq.out.trans HF.out)
end Go.Proofs.YtaecjmiobllhmaaGreat
