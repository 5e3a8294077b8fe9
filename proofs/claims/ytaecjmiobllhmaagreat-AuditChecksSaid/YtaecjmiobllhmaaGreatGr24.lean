/- Words. -/
import Derived.Test.YtaecjmiobllhmaaGreatGr23
import Derived.Test.YtaecjmiobllhmaaGreatGr15
set_option linter.unusedVariables false
set_option linter.unusedSimpArgs false
set_option maxRecDepth 100000
set_option maxHeartbeats 16000000
namespace Go.Proofs.YtaecjmiobllhmaaGreat
open Go.Value renaming int→I,string→V,slice→U,pointer→O
open Go.IntKind renaming i64→J
open Tryz renaming prog→pQ
open Go.RowKit Go.Lib
variable {w:World}{x:St}{v:Sl}{G G':Nat→Prop}{v':Sl}{wc:World}{b1 b2:Nat}{fo fe it se fo' fe' it' se':Sl}{ts ts':List (Sl×aR)}{y:St}{u0 u1 u4 u5 u6 u7 u8 u9 u10 u11 u12 u13 u14 u15 u16 cG cH cI cR cS cT u23 u24 cN u26 dc u28 dm dp dr u32 u33 df dg u36 dt u38 dB dC dO dP dQ u44 u45 dI dJ dK dL dD dE dF dR dS dT dM dG dH dw dx dy dz dA u64 dh di dl cU cX fA fB fF fG fw iO iP iQ jN jO jP jQ jR jS jT jU jJ jK jV jW jX jY kZ k9 lc nd nT nU nV nW fH fJ fK fM fO fP fQ fU ej eo ep ew ey eA eB eC eD eF eG eH eI eJ eK eM eO eP eQ eU eV eW eX eY eZ fh fj fk fl fp u138 fq fV fW fX fY fZ gb gc gg gh:Value}
theorem N8{b off:Nat}{e:Ev}(h:∀(j:Nat) (u:Value),e.cells[j]? =some u→w.cell? ⟨b,off+j,none⟩=some u):
  w.cell? ⟨b,off,none⟩=some (I J e.kind)∧w.cell? ⟨b,off+1,none⟩=some (I J e.a)∧w.cell? ⟨b,off+2,none⟩=some (I J e.b)∧w.cell? ⟨b,off+3,none⟩=some (I J e.n)∧w.cell? ⟨b,off+4,none⟩=some (V e.s)∧w.cell? ⟨b,off+5,none⟩=some (V e.t)∧w.cell? ⟨b,off+6,none⟩=some (V e.u):=
 ⟨h 0 _ rfl,h 1 _ rfl,h 2 _ rfl,h 3 _ rfl,h 4 _ rfl,h 5 _ rfl,h 6 _ rfl⟩
theorem wK{l:List Ev}{k:Nat}(h:k<l.length):bG x (l.take (k+1))=(dY (bG x (l.take k)) l[k]).1:=by
 unfold bG;rw[List.take_succ_eq_append_getElem h,List.foldl_append];rfl
theorem JY{w wr w2:World}{g:Nat}{M:Ms}(h:aa ag w wr)(hf:aa (SF g M) wr w2)(hn:∀k,SF g M k→w.heap.size≤k):aa ag w w2:=h.next hf λk hk=>.inr (hn k hk)
theorem wL(l:List Ev)(hv:aF w G 7 v l.length (l.flatMap Ev.cells))(hI:∀e∈l,bn e.a∧bn e.b)(hn:l.length≤1000000):
  Calls pQ 19 #[U v.1 l.length v.2] w λe w'=>∃g M,e=.returned (O (some ⟨g,0,none⟩))∧aH w' g M (bG iV l)∧aa ag w w'∧∀k,SF g M k→w.heap.size≤k:=by
 obtain⟨Av,cv⟩:=v;dsimp only;obtain⟨n,d9⟩:∃n,l.length=n:=⟨_,rfl⟩;have HL:=h_ d9;have HV:=h_ hv;have HI:=h_ hI;have KN:=h_ (Jw w);rw[d9] at hn ⊢;clear hv d9 hI;go_enter Tryz.func19,Tryz.ntmps19;go_wp2_with (go_at_call 38;refine KN.out.mono ?_;rintro e w1 ⟨g,M,rfl,hs,hf,hg⟩;have HS:=h_ hs;have HF:=h_ hf;have HG:=h_ hg;clear hs hf hg)
 go_loopw [9] (λkv wr=>∃k:Nat,k≤n∧kv=I J k∧aH wr g M (bG iV (l.take k))∧aa ag w wr) (λkv _=>n-(intOf kv).toNat)
 case atStart=>exact⟨0,by omega,rfl,HS.out,HF.out⟩
 case round=>
  obtain⟨k,hk,rfl,hs,hf⟩:=hrel;have De:=h_ hs;have kX:=h_ hf;clear hs hf
  by_cases hlt:k<n
  ·have cQ:k<l.length:=by rw[HL.out];exact hlt
   obtain⟨b,off,hA,-,hbl,hcell⟩:=(HV.out.nix kX.out).at_ Ev.clen (by decide) (by omega);dsimp only at hA;subst hA;have h7:=N8 (w:=wr) (b:=b) (off:=off+k * 7) (e:=l[k]) (hcell k cQ);have Lq:=HI.out l[k] (List.getElem_mem cQ);have N9:=h_ (wK (x:=iV) cQ);obtain⟨ev,hev⟩:∃ev,l[k]=ev:=⟨_,rfl⟩;rw[hev] at h7 Lq N9;obtain⟨x0,x1,x2,x3,x4,x5,x6⟩:=h7
   have KA:Hid (Calls pQ 42 #[O (some ⟨g,0,none⟩),.agg #[I J ev.kind,I J ev.a,I J ev.b,I J ev.n,V ev.s,V ev.t,V ev.u]] (wr.alloc (.cells #[I J ev.kind,I J ev.a,I J ev.b,I J ev.n,V ev.s,V ev.t,V ev.u] 42)) λr w'=>r=.returned (.bool (dY (bG iV (l.take k)) ev).2)∧aH w' g M (bG iV (l.take (k+1)))∧aa ag w w'):=
    (Fm (De.out.nix ((fR wr).alloc _)) ev Lq.1 Lq.2).mono λr w' ⟨h1,h2,h3⟩=>⟨h1,by rw[N9.out];exact h2,JY (kX.out.alloc _) h3 HG.out⟩
   clear hcell hev Lq;generalize (dY (bG iV (l.take k)) ev).2=bb at *;go_wp2_with (go_at_call 42;refine KA.out.mono ?_;rintro r w2 ⟨rfl,hs2,hf2⟩;have TR:=h_ hs2;have Hh:=h_ hf2;clear hs2 hf2);go_roundw
   case rel=>exact⟨k+1,by omega,by go_num,TR.out,Hh.out⟩
   case measure=>simp[intOf];omega
  ·obtain rfl:k=n:=by omega
   have za:Hid (l.take k=l):=List.take_of_length_le (by rw[HL.out];exact Nat.le_refl _);have hs:=De.out;rw[za.out] at hs;have TS:=h_ hs;clear hs;go_wp2;go_ret;exact⟨g,M,rfl,TS.out,kX.out,HG.out⟩
theorem tj(l:List ByteArray):l.map Value.string=l.flatMap λi=>[Value.string i]:=by
 induction l with
 | nil=>rfl
 | cons a l ih=>rw[List.map_cons,ih,List.flatMap_cons];rfl
theorem Df(l l':List ByteArray)(hv0:aF w G 1 v l.length (l.map Value.string))(Oa:aF w G' 1 v' l'.length (l'.map Value.string))(hn:l.length≤1000000)(hn':l'.length≤1000000):
  Calls pQ 81 #[U v.1 l.length v.2,U v'.1 l'.length v'.2] w λe w'=>e=.returned (.bool (decide (l=l')))∧aa ag w w':=by
 have hv:=hv0;have hv':=Oa;rw[tj] at hv hv';clear hv0 Oa;obtain⟨A,c⟩:=v;obtain⟨A',c'⟩:=v';dsimp only
 by_cases sW:l.length=l'.length
 ·rw[←sW]
  obtain⟨n,d9⟩:∃n,l.length=n:=⟨_,rfl⟩;have HL:=h_ d9;have Em:=h_ sW;have HV:=h_ hv;have Gj:=h_ hv';rw[d9] at hn ⊢;clear hv hv' sW d9 hn';go_enter Tryz.func81,Tryz.ntmps81;go_wp2
  go_loopw [5] (λkv wr=>∃k:Nat,k≤n∧kv=I J k∧l.take k=l'.take k∧aa ag w wr) (λkv _=>n-(intOf kv).toNat)
  case atStart=>exact⟨0,by omega,rfl,by simp,aa.refl _ _⟩
  case round=>
   obtain⟨k,hk,rfl,ht,hf⟩:=hrel;have HT:=h_ ht;have HF:=h_ hf;clear ht hf
   by_cases hlt:k<n
   ·have cQ:k<l.length:=by rw[HL.out];exact hlt
    have gA:k<l'.length:=by rw[←Em.out];exact cQ
    obtain⟨b,off,hA,-,hbl,hcell⟩:=(HV.out.nix HF.out).at_ (f:=λi=>[Value.string i]) (λ_=>rfl) (by decide) (by omega);obtain⟨b',off',hA',-,wz,bX⟩:=(Gj.out.nix HF.out).at_ (f:=λi=>[Value.string i]) (λ_=>rfl) (by decide) (by omega);dsimp only at hA hA';subst hA;subst hA';have x0:=hcell k cQ 0 _ rfl;have y0:=bX k gA 0 _ rfl;rw[Nat.mul_one,Nat.add_zero] at x0 y0;have rR:=h_ (qs cQ gA);have HEq:=h_ (qu cQ gA HT.out);clear hcell bX;generalize l[k]=p at *;generalize l'[k]=q at *
    by_cases he:p=q
    ·subst he
     have HE:=h_ (HEq.out rfl);go_wp2;go_quiet (fail);go_wp2;go_roundw
     case rel=>exact⟨k+1,by omega,by go_num,HE.out,HF.out.drewN _⟩
     case measure=>simp[intOf];omega
    ·have hq:¬p.toList=q.toList:=λe=>he (dW.1 e)
     have mR:(p.toList==q.toList)=false:=by simp[hq]
     have HE:=h_ (rR.out he);clear he;go_wp2;go_quiet (fail);go_wp2;go_ret;exact⟨af (decide_eq_false HE.out).symm,HF.out.drewN _⟩
   ·obtain rfl:k=n:=by omega
    have HE:Hid (l=l'):=by
     have:=HT.out;rw[List.take_of_length_le (by rw[HL.out];exact Nat.le_refl _),List.take_of_length_le (by rw[←Em.out,HL.out];exact Nat.le_refl _)] at this;exact this
    go_wp2;go_ret;exact⟨af (decide_eq_true HE.out).symm,HF.out⟩
 ·have HE:Hid (l≠l'):=λe=>sW (by rw[e])
  clear hv hv';have hne:¬((l.length:Int)=(l'.length:Int)):=by omega
  generalize td:l.length=n1 at *;generalize mR:l'.length=n2 at *;clear td mR;go_enter Tryz.func81,Tryz.ntmps81;go_wp2;go_ret;exact⟨af (decide_eq_false HE.out).symm,aa.refl _ _⟩
theorem Hs(t t':aR):decide (t=t')=(decide (t.id=t'.id)&&(decide (t.feed=t'.feed)&&(decide (t.date=t'.date)&&(decide (t.guid=t'.guid)&&(decide (t.title=t'.title)&&(decide (t.link=t'.link)&&(decide (t.read=t'.read)&&(decide (t.star=t'.star)&&decide (t.tags=t'.tags))))))))):=by
 rw[Bool.eq_iff_iff];simp only[Bool.and_eq_true,decide_eq_true_eq];constructor
 ·rintro rfl;simp
 ·rintro⟨h1,h2,h3,h4,h5,h6,h7,h8,h9⟩
  cases t
  cases t'
  simp_all
theorem xn(t t':aR)(hv:aF w G 1 v t.tags.length (t.tags.map Value.string))(hv':aF w G' 1 v' t'.tags.length (t'.tags.map Value.string))(hn:t.tags.length≤1000000)(hn':t'.tags.length≤1000000):
  Calls pQ 36 #[.agg #[I J t.id,I J t.feed,I J t.date,V t.guid,V t.title,V t.link,.bool t.read,.bool t.star,U v.1 t.tags.length v.2],.agg #[I J t'.id,I J t'.feed,I J t'.date,V t'.guid,V t'.title,V t'.link,.bool t'.read,.bool t'.star,U v'.1 t'.tags.length v'.2]] w λe w'=>e=.returned (.bool (decide (t=t')))∧aa ag w w':=by
 have K:Hid (∀W,aa ag w W→Calls pQ 81 #[U v.1 t.tags.length v.2,U v'.1 t'.tags.length v'.2] W λe w'=>e=.returned (.bool (decide (t.tags=t'.tags)))∧aa ag w w'):=λW hW=>(Df t.tags t'.tags (hv.nix hW) (hv'.nix hW) hn hn').mono λe w' q=>⟨q.1,hW.trans q.2⟩
 have HI:=h_ (Hs t t');clear hv hv' hn hn';generalize decide (t=t')=bx at *;generalize decide (t.tags=t'.tags)=bt at *;generalize t.tags.length=n1 at *;generalize t'.tags.length=n2 at *;generalize t.id=x0 at *;generalize t'.id=y0 at *;generalize t.feed=x1 at *;generalize t'.feed=y1 at *;generalize t.date=x2 at *;generalize t'.date=y2 at *;generalize t.guid=x3 at *;generalize t'.guid=y3 at *;generalize t.title=x4 at *;generalize t'.title=y4 at *;generalize t.link=x5 at *;generalize t'.link=y5 at *;generalize t.read=x6 at *;generalize t'.read=y6 at *;generalize t.star=x7 at *;generalize t'.star=y7 at *
 by_cases h0:x0=y0
 case neg=>
  go_enter Tryz.func36,Tryz.ntmps36;go_wp2;go_ret;exact⟨af (by rw[HI.out];simp[*]),((fR w).alloc _).alloc _⟩
 subst h0
 by_cases h1:x1=y1
 case neg=>
  go_enter Tryz.func36,Tryz.ntmps36;go_wp2;go_ret;exact⟨af (by rw[HI.out];simp[*]),((fR w).alloc _).alloc _⟩
 subst h1
 by_cases h2:x2=y2
 case neg=>
  go_enter Tryz.func36,Tryz.ntmps36;go_wp2;go_ret;exact⟨af (by rw[HI.out];simp[*]),((fR w).alloc _).alloc _⟩
 subst h2
 by_cases h3:x3=y3
 case neg=>
  have hq:¬x3.toList=y3.toList:=λe=>h3 (dW.1 e)
  go_enter Tryz.func36,Tryz.ntmps36;go_wp2;go_ret;exact⟨af (by rw[HI.out];simp[*]),((fR w).alloc _).alloc _⟩
 subst h3
 by_cases h4:x4=y4
 case neg=>
  have hq:¬x4.toList=y4.toList:=λe=>h4 (dW.1 e)
  go_enter Tryz.func36,Tryz.ntmps36;go_wp2;go_ret;exact⟨af (by rw[HI.out];simp[*]),((fR w).alloc _).alloc _⟩
 subst h4
 by_cases h5:x5=y5
 case neg=>
  have hq:¬x5.toList=y5.toList:=λe=>h5 (dW.1 e)
  go_enter Tryz.func36,Tryz.ntmps36;go_wp2;go_ret;exact⟨af (by rw[HI.out];simp[*]),((fR w).alloc _).alloc _⟩
 subst h5
 by_cases h6:x6=y6
 case neg=>
  go_enter Tryz.func36,Tryz.ntmps36;go_wp2;go_ret;exact⟨af (by rw[HI.out];simp[*]),((fR w).alloc _).alloc _⟩
 subst h6
 by_cases h7:x7=y7
 case neg=>
  go_enter Tryz.func36,Tryz.ntmps36;go_wp2;go_ret;exact⟨af (by rw[HI.out];simp[*]),((fR w).alloc _).alloc _⟩
 subst h7;have K2:=h_ (K.out ((w.alloc (.cells #[I J x0,I J x1,I J x2,V x3,V x4,V x5,.bool x6,.bool x7,U v.1 n1 v.2] 82)).alloc (.cells #[I J x0,I J x1,I J x2,V x3,V x4,V x5,.bool x6,.bool x7,U v'.1 n2 v'.2] 82)) (((fR w).alloc _).alloc _));go_enter Tryz.func36,Tryz.ntmps36;go_wp2_with (go_at_call 81;refine K2.out.mono ?_;rintro r w2 ⟨rfl,hf2⟩;have kX:=h_ hf2;clear hf2);go_ret;exact⟨af (by rw[HI.out];simp[*]),kX.out⟩
theorem TT(h:aY w G fo fe it se ts x)(h':aY w G' fo' fe' it' se' ts' y)(hs:aP x)(hs':aP y)(hl:x.fols.length=y.fols.length∧x.fees.length=y.fees.length∧x.itms.length=y.itms.length∧x.seas.length=y.seas.length)(hF:aa ag w wc)(hb:aj wc b1 36 #[I J x.clock,U fo.1 x.fols.length fo.2,U fe.1 x.fees.length fe.2,U it.1 x.itms.length it.2,U se.1 x.seas.length se.2,I J x.tFol,I J x.tFee,I J x.tItm,I J x.tSea])(hb':aj wc b2 36 #[I J y.clock,U fo'.1 y.fols.length fo'.2,U fe'.1 y.fees.length fe'.2,U it'.1 y.itms.length it'.2,U se'.1 y.seas.length se'.2,I J y.tFol,I J y.tFee,I J y.tItm,I J y.tSea])(e1:x.fols=y.fols)(e2:x.fees=y.fees)(e3:x.itms=y.itms)(e4:x.seas=y.seas):
  Code.wp pQ (ai 6 (ae Tryz.f16)) (bodyPost pQ Tryz.f16 λe w'=>e=.returned (.bool (decide (x=y)))∧aa ag w w') ⟨#[u0,u1,O (some ⟨b1,0,none⟩),O (some ⟨b2,0,none⟩),u4,u5,u6,u7,u8,u9,u10,u11,u12,u13,u14,u15,u16,cG,cH,cI,cR,cS,cT,u23,u24,cN,u26,dc,u28,dm,dp,dr,u32,u33,df,dg,u36,dt,u38,dB,dC,dO,dP,dQ,u44,u45,dI,dJ,dK,dL,dD,dE,dF,dR,dS,dT,dM,dG,dH,dw,dx,dy,dz,dA,u64,dh,di,dl,cU,cX,fA,fB,fF,fG,fw,iO,iP,iQ,jN,jO,jP,jQ,jR,jS,jT,jU,jJ,jK,jV,jW,jX,jY,kZ,k9,lc,nd,nT,nU,nV,nW,fH,fJ,fK,fM,fO,fP,fQ,fU,ej,eo,ep,ew,ey,eA,eB,eC,eD,eF,eG,eH,eI,eJ,eK,eM,eO,eP,eQ,eU,eV,eW,eX,eY,eZ,fh,fj,fk,fl,fp,u138,fq,fV,fW,fX,fY,fZ,gb,gc,gg,gh],[]⟩ wc:=by
 obtain⟨x0,x1,x2,x3,x4,x5,x6,x7,x8⟩:=aA hb;obtain⟨y0,y1,y2,y3,y4,y5,y6,y7,y8⟩:=aA hb'
 have HI:Hid (decide (x=y)=(decide (x.clock=y.clock)&&(decide (x.tFol=y.tFol)&&(decide (x.tFee=y.tFee)&&(decide (x.tItm=y.tItm)&&decide (x.tSea=y.tSea)))))):=by
  unfold Hid;rw[Hg,e1,e2,e3,e4];simp
 have HF:=h_ hF;clear h h' hs hs' hl hF hb hb' e1 e2 e3 e4 x1 x2 x3 x4 y1 y2 y3 y4;generalize decide (x=y)=bx at *;generalize x.clock=i0 at *;generalize y.clock=j0 at *;generalize x.tFol=i1 at *;generalize y.tFol=j1 at *;generalize x.tFee=i2 at *;generalize y.tFee=j2 at *;generalize x.tItm=i3 at *;generalize y.tItm=j3 at *;generalize x.tSea=i4 at *;generalize y.tSea=j4 at *;simp only[ai,ae,Tryz.f16]
 by_cases h0:i0=j0
 case neg=>
  go_wp2;go_ret;exact⟨af (by rw[HI.out];simp[*]),HF.out⟩
 subst h0
 by_cases h1:i1=j1
 case neg=>
  go_wp2;go_ret;exact⟨af (by rw[HI.out];simp[*]),HF.out⟩
 subst h1
 by_cases h2:i2=j2
 case neg=>
  go_wp2;go_ret;exact⟨af (by rw[HI.out];simp[*]),HF.out⟩
 subst h2
 by_cases h3:i3=j3
 case neg=>
  go_wp2;go_ret;exact⟨af (by rw[HI.out];simp[*]),HF.out⟩
 subst h3
 by_cases h4:i4=j4
 case neg=>
  go_wp2;go_ret;exact⟨af (by rw[HI.out];simp[*]),HF.out⟩
 subst h4;go_wp2;go_ret;exact⟨af (by rw[HI.out];simp),HF.out⟩
theorem TU(h:aY w G fo fe it se ts x)(h':aY w G' fo' fe' it' se' ts' y)(hs:aP x)(hs':aP y)(hl:x.fols.length=y.fols.length∧x.fees.length=y.fees.length∧x.itms.length=y.itms.length∧x.seas.length=y.seas.length)(hF:aa ag w wc)(hb:aj wc b1 36 #[I J x.clock,U fo.1 x.fols.length fo.2,U fe.1 x.fees.length fe.2,U it.1 x.itms.length it.2,U se.1 x.seas.length se.2,I J x.tFol,I J x.tFee,I J x.tItm,I J x.tSea])(hb':aj wc b2 36 #[I J y.clock,U fo'.1 y.fols.length fo'.2,U fe'.1 y.fees.length fe'.2,U it'.1 y.itms.length it'.2,U se'.1 y.seas.length se'.2,I J y.tFol,I J y.tFee,I J y.tItm,I J y.tSea])(e1:x.fols=y.fols)(e2:x.fees=y.fees)(e3:x.itms=y.itms):
  Code.wp pQ (ai 5 (ae Tryz.f16)) (bodyPost pQ Tryz.f16 λe w'=>e=.returned (.bool (decide (x=y)))∧aa ag w w') ⟨#[u0,u1,O (some ⟨b1,0,none⟩),O (some ⟨b2,0,none⟩),u4,u5,u6,u7,u8,u9,u10,u11,u12,u13,u14,u15,u16,cG,cH,cI,cR,cS,cT,u23,u24,cN,u26,dc,u28,dm,dp,dr,u32,u33,df,dg,u36,dt,u38,dB,dC,dO,dP,dQ,u44,u45,dI,dJ,dK,dL,dD,dE,dF,dR,dS,dT,dM,dG,dH,dw,dx,dy,dz,dA,u64,dh,di,dl,cU,cX,fA,fB,fF,fG,fw,iO,iP,iQ,jN,jO,jP,jQ,jR,jS,jT,jU,jJ,jK,jV,jW,jX,jY,kZ,k9,lc,nd,nT,nU,nV,nW,fH,fJ,fK,fM,fO,fP,fQ,fU,ej,eo,ep,ew,ey,eA,eB,eC,eD,eF,eG,eH,eI,eJ,eK,eM,eO,eP,eQ,eU,eV,eW,eX,eY,eZ,fh,fj,fk,fl,fp,u138,fq,fV,fW,fX,fY,fZ,gb,gc,gg,gh],[]⟩ wc:=by
 obtain⟨x0,x1,x2,x3,x4,x5,x6,x7,x8⟩:=aA hb;obtain⟨y0,y1,y2,y3,y4,y5,y6,y7,y8⟩:=aA hb';have HH:=h_ (And.intro h h');have sB:=h_ (And.intro hs hs');have Cf:=h_ hl;have HF:=h_ hF;have HB:=h_ (And.intro hb hb');have cm:=hs.seas;have ze:=hl.2.2.2;obtain⟨A,c⟩:=se;obtain⟨A',c'⟩:=se';dsimp only at x1 x2 x3 x4 y1 y2 y3 y4;clear h h' hs hs' hl hF hb hb';have ek:ai 5 (ae Tryz.f16)=.seq (aD (ai 5 (ae Tryz.f16))) (ai 6 (ae Tryz.f16)):=by kernel_rfl
 rw[ek];clear ek;refine wp_seq_k λK hK=>?_
 conv in aD _=>whnf
 go_wp2
 go_loopw [8] (λkv wr=>∃k:Nat,k≤x.seas.length∧kv=I J k∧x.seas.take k=y.seas.take k∧aa ag wc wr) (λkv _=>x.seas.length-(intOf kv).toNat)
 case atStart=>exact⟨0,by omega,rfl,by simp,aa.refl _ _⟩
 case round=>
  obtain⟨k,hk,rfl,ht,hf⟩:=hrel;have HT:=h_ ht;have qX:=h_ hf;have lR:=HB.out.1.frm hf id;have hby:=HB.out.2.frm hf id;have xx:=lR.cell 4;have yy:=hby.cell 4;simp at xx yy;clear ht hf lR hby
  by_cases hlt:k<x.seas.length
  ·have gA:k<y.seas.length:=by rw[←ze];exact hlt
   obtain⟨b,off,hA,-,hbl,hcell⟩:=(HH.out.1.seas.nix (HF.out.trans qX.out)).at_ ce.clen (by decide) (by omega);obtain⟨b',off',hA',-,wz,bX⟩:=(HH.out.2.seas.nix (HF.out.trans qX.out)).at_ ce.clen (by decide) (by omega);dsimp only at hA hA';subst hA;subst hA';have hc1:=hcell k hlt;have hc2:=bX k gA;have rR:=h_ (qs hlt gA);have HEq:=h_ (qu hlt gA HT.out);obtain⟨p,hp⟩:∃p,x.seas[k]=p:=⟨_,rfl⟩;obtain⟨q,hq⟩:∃q,y.seas[k]=q:=⟨_,rfl⟩;rw[hp] at hc1 rR HEq;rw[hq] at hc2 rR HEq;obtain⟨p0,p1,p2⟩:=xZ (w:=wr) (b:=b) (off:=off+k * 3) (e:=p) hc1;obtain⟨q0,q1,q2⟩:=xZ (w:=wr) (b:=b') (off:=off'+k * 3) (e:=q) hc2;have hq:=λW=>wB p q W
   have hg:pQ.eqGuardType pQ.depth 84=false:=by kernel_rfl
   unfold nP at hq;clear hcell bX hc1 hc2 hp
   by_cases he:p=q
   ·rw[decide_eq_true he] at hq
    have HE:=h_ (HEq.out he);clear he;go_wp2;go_quiet (fail);go_wp2;go_roundw
    case rel=>exact⟨k+1,by omega,by go_num,HE.out,qX.out.drewN _⟩
    case measure=>simp[intOf];omega
   ·rw[decide_eq_false he] at hq
    have HE:Hid (x≠y):=λe=>rR.out he (by rw[e])
    clear he;go_wp2;go_quiet (fail);go_wp2;go_ret;exact⟨af (decide_eq_false HE.out).symm,HF.out.trans (qX.out.drewN _)⟩
  ·obtain rfl:k=x.seas.length:=by omega
   have HE:Hid (x.seas=y.seas):=by
    have:=HT.out;rw[List.take_length,ze,List.take_length] at this;exact this
   go_wp2;exact TT HH.out.1 HH.out.2 sB.out.1 sB.out.2 Cf.out (HF.out.trans qX.out) (HB.out.1.frm qX.out id) (HB.out.2.frm qX.out id) e1 e2 e3 HE.out
theorem TV(h:aY w G fo fe it se ts x)(h':aY w G' fo' fe' it' se' ts' y)(hs:aP x)(hs':aP y)(hl:x.fols.length=y.fols.length∧x.fees.length=y.fees.length∧x.itms.length=y.itms.length∧x.seas.length=y.seas.length)(hF:aa ag w wc)(hb:aj wc b1 36 #[I J x.clock,U fo.1 x.fols.length fo.2,U fe.1 x.fees.length fe.2,U it.1 x.itms.length it.2,U se.1 x.seas.length se.2,I J x.tFol,I J x.tFee,I J x.tItm,I J x.tSea])(hb':aj wc b2 36 #[I J y.clock,U fo'.1 y.fols.length fo'.2,U fe'.1 y.fees.length fe'.2,U it'.1 y.itms.length it'.2,U se'.1 y.seas.length se'.2,I J y.tFol,I J y.tFee,I J y.tItm,I J y.tSea])(e1:x.fols=y.fols)(e2:x.fees=y.fees):
  Code.wp pQ (ai 4 (ae Tryz.f16)) (bodyPost pQ Tryz.f16 λe w'=>e=.returned (.bool (decide (x=y)))∧aa ag w w') ⟨#[u0,u1,O (some ⟨b1,0,none⟩),O (some ⟨b2,0,none⟩),u4,u5,u6,u7,u8,u9,u10,u11,u12,u13,u14,u15,u16,cG,cH,cI,cR,cS,cT,u23,u24,cN,u26,dc,u28,dm,dp,dr,u32,u33,df,dg,u36,dt,u38,dB,dC,dO,dP,dQ,u44,u45,dI,dJ,dK,dL,dD,dE,dF,dR,dS,dT,dM,dG,dH,dw,dx,dy,dz,dA,u64,dh,di,dl,cU,cX,fA,fB,fF,fG,fw,iO,iP,iQ,jN,jO,jP,jQ,jR,jS,jT,jU,jJ,jK,jV,jW,jX,jY,kZ,k9,lc,nd,nT,nU,nV,nW,fH,fJ,fK,fM,fO,fP,fQ,fU,ej,eo,ep,ew,ey,eA,eB,eC,eD,eF,eG,eH,eI,eJ,eK,eM,eO,eP,eQ,eU,eV,eW,eX,eY,eZ,fh,fj,fk,fl,fp,u138,fq,fV,fW,fX,fY,fZ,gb,gc,gg,gh],[]⟩ wc:=by
 obtain⟨x0,x1,x2,x3,x4,x5,x6,x7,x8⟩:=aA hb;obtain⟨y0,y1,y2,y3,y4,y5,y6,y7,y8⟩:=aA hb';have HH:=h_ (And.intro h h');have sB:=h_ (And.intro hs hs');have Cf:=h_ hl;have HF:=h_ hF;have HB:=h_ (And.intro hb hb');have cm:=hs.itms;have ze:=hl.2.2.1;obtain⟨A,c⟩:=it;obtain⟨A',c'⟩:=it';dsimp only at x1 x2 x3 x4 y1 y2 y3 y4;clear h h' hs hs' hl hF hb hb';have ek:ai 4 (ae Tryz.f16)=.seq (aD (ai 4 (ae Tryz.f16))) (ai 5 (ae Tryz.f16)):=by kernel_rfl
 rw[ek];clear ek;refine wp_seq_k λK hK=>?_
 conv in aD _=>whnf
 go_wp2
 go_loopw [7] (λkv wr=>∃k:Nat,k≤x.itms.length∧kv=I J k∧(ts.take k).map (·.2)=(ts'.take k).map (·.2)∧aa ag wc wr) (λkv _=>x.itms.length-(intOf kv).toNat)
 case atStart=>exact⟨0,by omega,rfl,by simp,aa.refl _ _⟩
 case round=>
  obtain⟨k,hk,rfl,ht,hf⟩:=hrel;have HT:=h_ ht;have qX:=h_ hf;have lR:=HB.out.1.frm hf id;have hby:=HB.out.2.frm hf id;have xx:=lR.cell 3;have yy:=hby.cell 3;simp at xx yy;clear ht hf lR hby;have Jy:=HH.out.1.len;have hl2:=HH.out.2.len
  by_cases hlt:k<x.itms.length
  ·have cQ:k<ts.length:=by omega
   have gA:k<ts'.length:=by omega
   obtain⟨b,off,hA,-,hbl,hcell⟩:=(HH.out.1.itms.row.nix (HF.out.trans qX.out)).at_ bN (by decide) (by omega);obtain⟨b',off',hA',-,wz,bX⟩:=(HH.out.2.itms.row.nix (HF.out.trans qX.out)).at_ bN (by decide) (by omega);dsimp only at hA hA';subst hA;subst hA';obtain⟨p,hp,hc1,Sn,uh⟩:∃p:Sl×aR,ts[k]'cQ=p∧(∀(j:Nat) (u:Value),(io p)[j]? =some u→wr.cell? ⟨b,off+k * 9+j,none⟩=some u)∧aF w G 1 p.1 p.2.tags.length (p.2.tags.map Value.string)∧p.2.tags.length≤1000:=⟨ts[k]'cQ,rfl,hcell k cQ,HH.out.1.itms.tags _ (List.getElem_mem cQ),sB.out.1.tags _ (by rw[←HH.out.1.same];exact List.mem_map_of_mem (List.getElem_mem cQ))⟩;obtain⟨q,hq,hc2,Ob,MA⟩:∃q:Sl×aR,ts'[k]'gA=q∧(∀(j:Nat) (u:Value),(io q)[j]? =some u→wr.cell? ⟨b',off'+k * 9+j,none⟩=some u)∧aF w G' 1 q.1 q.2.tags.length (q.2.tags.map Value.string)∧q.2.tags.length≤1000:=⟨ts'[k]'gA,rfl,bX k gA,HH.out.2.itms.tags _ (List.getElem_mem gA),sB.out.2.tags _ (by rw[←HH.out.2.same];exact List.mem_map_of_mem (List.getElem_mem gA))⟩;have rR:Hid (p.2≠q.2→ts.map (·.2)≠ts'.map (·.2)):=λhne=>He cQ gA (by rw[hp,hq];exact hne)
   have HEq:Hid (p.2=q.2→(ts.take (k+1)).map (·.2)=(ts'.take (k+1)).map (·.2)):=λhe=>Hf cQ gA HT.out (by rw[hp,hq];exact he)
   have pw:Hid (∀W,aa ag wr W→(λW=>aa ag wr W∧W.cell? ⟨b1,3,none⟩=some (U (some ⟨b,off,none⟩) x.itms.length c)∧W.cell? ⟨b2,3,none⟩=some (U (some ⟨b',off',none⟩) y.itms.length c')∧(W.cell? ⟨b,off+k * 9,none⟩=some (I J p.2.id)∧W.cell? ⟨b,off+k * 9+1,none⟩=some (I J p.2.feed)∧W.cell? ⟨b,off+k * 9+2,none⟩=some (I J p.2.date)∧W.cell? ⟨b,off+k * 9+3,none⟩=some (V p.2.guid)∧W.cell? ⟨b,off+k * 9+4,none⟩=some (V p.2.title)∧W.cell? ⟨b,off+k * 9+5,none⟩=some (V p.2.link)∧W.cell? ⟨b,off+k * 9+6,none⟩=some (.bool p.2.read)∧W.cell? ⟨b,off+k * 9+7,none⟩=some (.bool p.2.star)∧W.cell? ⟨b,off+k * 9+8,none⟩=some (U p.1.1 p.2.tags.length p.1.2))∧W.cell? ⟨b',off'+k * 9,none⟩=some (I J q.2.id)∧W.cell? ⟨b',off'+k * 9+1,none⟩=some (I J q.2.feed)∧W.cell? ⟨b',off'+k * 9+2,none⟩=some (I J q.2.date)∧W.cell? ⟨b',off'+k * 9+3,none⟩=some (V q.2.guid)∧W.cell? ⟨b',off'+k * 9+4,none⟩=some (V q.2.title)∧W.cell? ⟨b',off'+k * 9+5,none⟩=some (V q.2.link)∧W.cell? ⟨b',off'+k * 9+6,none⟩=some (.bool q.2.read)∧W.cell? ⟨b',off'+k * 9+7,none⟩=some (.bool q.2.star)∧W.cell? ⟨b',off'+k * 9+8,none⟩=some (U q.1.1 q.2.tags.length q.1.2)) W):=λW hW=>⟨hW,by rw[hW.cell (p:=⟨b1,3,none⟩) (HB.out.1.frm qX.out id).lt id];exact xx,by rw[hW.cell (p:=⟨b2,3,none⟩) (HB.out.2.frm qX.out id).lt id];exact yy,rU (λj u hu=>(hW.cell (p:=⟨b,off+k * 9+j,none⟩) hbl id).trans (hc1 j u hu)),rU (λj u hu=>(hW.cell (p:=⟨b',off'+k * 9+j,none⟩) wz id).trans (hc2 j u hu))⟩
   have K:Hid (∀W,aa ag wr W→Calls pQ 36 #[.agg #[I J p.2.id,I J p.2.feed,I J p.2.date,V p.2.guid,V p.2.title,V p.2.link,.bool p.2.read,.bool p.2.star,U p.1.1 p.2.tags.length p.1.2],.agg #[I J q.2.id,I J q.2.feed,I J q.2.date,V q.2.guid,V q.2.title,V q.2.link,.bool q.2.read,.bool q.2.star,U q.1.1 q.2.tags.length q.1.2]] W λe w'=>e=.returned (.bool (decide (p.2=q.2)))∧aa ag wr w'):=λW hW=>
    (xn p.2 q.2 (Sn.nix ((HF.out.trans qX.out).trans hW)) (Ob.nix ((HF.out.trans qX.out).trans hW)) (by omega) (by omega)).mono λe w' r=>⟨r.1,hW.trans r.2⟩
   clear hcell bX hc1 hc2 Sn Ob hp hq
   by_cases he:p.2=q.2
   ·rw[decide_eq_true he] at K
    have HE:=h_ (HEq.out he);clear he;go_wp2
    go_region_held3 (λW=>aa ag wr W∧W.cell? ⟨b1,3,none⟩=some (U (some ⟨b,off,none⟩) x.itms.length c)∧W.cell? ⟨b2,3,none⟩=some (U (some ⟨b',off',none⟩) y.itms.length c')∧(W.cell? ⟨b,off+k * 9,none⟩=some (I J p.2.id)∧W.cell? ⟨b,off+k * 9+1,none⟩=some (I J p.2.feed)∧W.cell? ⟨b,off+k * 9+2,none⟩=some (I J p.2.date)∧W.cell? ⟨b,off+k * 9+3,none⟩=some (V p.2.guid)∧W.cell? ⟨b,off+k * 9+4,none⟩=some (V p.2.title)∧W.cell? ⟨b,off+k * 9+5,none⟩=some (V p.2.link)∧W.cell? ⟨b,off+k * 9+6,none⟩=some (.bool p.2.read)∧W.cell? ⟨b,off+k * 9+7,none⟩=some (.bool p.2.star)∧W.cell? ⟨b,off+k * 9+8,none⟩=some (U p.1.1 p.2.tags.length p.1.2))∧W.cell? ⟨b',off'+k * 9,none⟩=some (I J q.2.id)∧W.cell? ⟨b',off'+k * 9+1,none⟩=some (I J q.2.feed)∧W.cell? ⟨b',off'+k * 9+2,none⟩=some (I J q.2.date)∧W.cell? ⟨b',off'+k * 9+3,none⟩=some (V q.2.guid)∧W.cell? ⟨b',off'+k * 9+4,none⟩=some (V q.2.title)∧W.cell? ⟨b',off'+k * 9+5,none⟩=some (V q.2.link)∧W.cell? ⟨b',off'+k * 9+6,none⟩=some (.bool q.2.read)∧W.cell? ⟨b',off'+k * 9+7,none⟩=some (.bool q.2.star)∧W.cell? ⟨b',off'+k * 9+8,none⟩=some (U q.1.1 q.2.tags.length q.1.2)) ((refine pw.out _ ?_;repeat' (first|with_reducible exact aa.refl _ _|with_reducible apply aa.drew|with_reducible exact hz))) (first|(go_at_call 36;refine(K.out _ (by repeat' (first|with_reducible exact aa.refl _ _|with_reducible apply aa.drew))).mono ?_;rintro r w2 ⟨rfl,hz⟩;have HZ:=h_ hz))
    all_goals
     go_wp2;go_roundw
     case rel=>exact⟨k+1,by omega,by go_num,HE.out,qX.out.trans HZ.out⟩
     case measure=>simp[intOf];omega
   ·rw[decide_eq_false he] at K
    have HE:Hid (x≠y):=λe=>rR.out he (by rw[HH.out.1.same,HH.out.2.same,e])
    clear he;go_wp2
    go_region_held3 (λW=>aa ag wr W∧W.cell? ⟨b1,3,none⟩=some (U (some ⟨b,off,none⟩) x.itms.length c)∧W.cell? ⟨b2,3,none⟩=some (U (some ⟨b',off',none⟩) y.itms.length c')∧(W.cell? ⟨b,off+k * 9,none⟩=some (I J p.2.id)∧W.cell? ⟨b,off+k * 9+1,none⟩=some (I J p.2.feed)∧W.cell? ⟨b,off+k * 9+2,none⟩=some (I J p.2.date)∧W.cell? ⟨b,off+k * 9+3,none⟩=some (V p.2.guid)∧W.cell? ⟨b,off+k * 9+4,none⟩=some (V p.2.title)∧W.cell? ⟨b,off+k * 9+5,none⟩=some (V p.2.link)∧W.cell? ⟨b,off+k * 9+6,none⟩=some (.bool p.2.read)∧W.cell? ⟨b,off+k * 9+7,none⟩=some (.bool p.2.star)∧W.cell? ⟨b,off+k * 9+8,none⟩=some (U p.1.1 p.2.tags.length p.1.2))∧W.cell? ⟨b',off'+k * 9,none⟩=some (I J q.2.id)∧W.cell? ⟨b',off'+k * 9+1,none⟩=some (I J q.2.feed)∧W.cell? ⟨b',off'+k * 9+2,none⟩=some (I J q.2.date)∧W.cell? ⟨b',off'+k * 9+3,none⟩=some (V q.2.guid)∧W.cell? ⟨b',off'+k * 9+4,none⟩=some (V q.2.title)∧W.cell? ⟨b',off'+k * 9+5,none⟩=some (V q.2.link)∧W.cell? ⟨b',off'+k * 9+6,none⟩=some (.bool q.2.read)∧W.cell? ⟨b',off'+k * 9+7,none⟩=some (.bool q.2.star)∧W.cell? ⟨b',off'+k * 9+8,none⟩=some (U q.1.1 q.2.tags.length q.1.2)) ((refine pw.out _ ?_;repeat' (first|with_reducible exact aa.refl _ _|with_reducible apply aa.drew|with_reducible exact hz))) (first|(go_at_call 36;refine(K.out _ (by repeat' (first|with_reducible exact aa.refl _ _|with_reducible apply aa.drew))).mono ?_;rintro r w2 ⟨rfl,hz⟩;have HZ:=h_ hz))
    all_goals
     go_wp2;go_ret;exact⟨af (decide_eq_false HE.out).symm,HF.out.trans (qX.out.trans HZ.out)⟩
  ·obtain rfl:k=x.itms.length:=by omega
   have HE:Hid (x.itms=y.itms):=by
    have:=HT.out;rw[List.take_of_length_le (by omega),List.take_of_length_le (by omega),HH.out.1.same,HH.out.2.same] at this;exact this
   go_wp2;exact TU HH.out.1 HH.out.2 sB.out.1 sB.out.2 Cf.out (HF.out.trans qX.out) (HB.out.1.frm qX.out id) (HB.out.2.frm qX.out id) e1 e2 HE.out
theorem TW(h:aY w G fo fe it se ts x)(h':aY w G' fo' fe' it' se' ts' y)(hs:aP x)(hs':aP y)(hl:x.fols.length=y.fols.length∧x.fees.length=y.fees.length∧x.itms.length=y.itms.length∧x.seas.length=y.seas.length)(hF:aa ag w wc)(hb:aj wc b1 36 #[I J x.clock,U fo.1 x.fols.length fo.2,U fe.1 x.fees.length fe.2,U it.1 x.itms.length it.2,U se.1 x.seas.length se.2,I J x.tFol,I J x.tFee,I J x.tItm,I J x.tSea])(hb':aj wc b2 36 #[I J y.clock,U fo'.1 y.fols.length fo'.2,U fe'.1 y.fees.length fe'.2,U it'.1 y.itms.length it'.2,U se'.1 y.seas.length se'.2,I J y.tFol,I J y.tFee,I J y.tItm,I J y.tSea])(e1:x.fols=y.fols):
  Code.wp pQ (ai 3 (ae Tryz.f16)) (bodyPost pQ Tryz.f16 λe w'=>e=.returned (.bool (decide (x=y)))∧aa ag w w') ⟨#[u0,u1,O (some ⟨b1,0,none⟩),O (some ⟨b2,0,none⟩),u4,u5,u6,u7,u8,u9,u10,u11,u12,u13,u14,u15,u16,cG,cH,cI,cR,cS,cT,u23,u24,cN,u26,dc,u28,dm,dp,dr,u32,u33,df,dg,u36,dt,u38,dB,dC,dO,dP,dQ,u44,u45,dI,dJ,dK,dL,dD,dE,dF,dR,dS,dT,dM,dG,dH,dw,dx,dy,dz,dA,u64,dh,di,dl,cU,cX,fA,fB,fF,fG,fw,iO,iP,iQ,jN,jO,jP,jQ,jR,jS,jT,jU,jJ,jK,jV,jW,jX,jY,kZ,k9,lc,nd,nT,nU,nV,nW,fH,fJ,fK,fM,fO,fP,fQ,fU,ej,eo,ep,ew,ey,eA,eB,eC,eD,eF,eG,eH,eI,eJ,eK,eM,eO,eP,eQ,eU,eV,eW,eX,eY,eZ,fh,fj,fk,fl,fp,u138,fq,fV,fW,fX,fY,fZ,gb,gc,gg,gh],[]⟩ wc:=by
 obtain⟨x0,x1,x2,x3,x4,x5,x6,x7,x8⟩:=aA hb;obtain⟨y0,y1,y2,y3,y4,y5,y6,y7,y8⟩:=aA hb';have HH:=h_ (And.intro h h');have sB:=h_ (And.intro hs hs');have Cf:=h_ hl;have HF:=h_ hF;have HB:=h_ (And.intro hb hb');have cm:=hs.fees;have ze:=hl.2.1;obtain⟨A,c⟩:=fe;obtain⟨A',c'⟩:=fe';dsimp only at x1 x2 x3 x4 y1 y2 y3 y4;clear h h' hs hs' hl hF hb hb';have ek:ai 3 (ae Tryz.f16)=.seq (aD (ai 3 (ae Tryz.f16))) (ai 4 (ae Tryz.f16)):=by kernel_rfl
 rw[ek];clear ek;refine wp_seq_k λK hK=>?_
 conv in aD _=>whnf
 go_wp2
 go_loopw [6] (λkv wr=>∃k:Nat,k≤x.fees.length∧kv=I J k∧x.fees.take k=y.fees.take k∧aa ag wc wr) (λkv _=>x.fees.length-(intOf kv).toNat)
 case atStart=>exact⟨0,by omega,rfl,by simp,aa.refl _ _⟩
 case round=>
  obtain⟨k,hk,rfl,ht,hf⟩:=hrel;have HT:=h_ ht;have qX:=h_ hf;have lR:=HB.out.1.frm hf id;have hby:=HB.out.2.frm hf id;have xx:=lR.cell 2;have yy:=hby.cell 2;simp at xx yy;clear ht hf lR hby
  by_cases hlt:k<x.fees.length
  ·have gA:k<y.fees.length:=by rw[←ze];exact hlt
   obtain⟨b,off,hA,-,hbl,hcell⟩:=(HH.out.1.fees.nix (HF.out.trans qX.out)).at_ aX.clen (by decide) (by omega);obtain⟨b',off',hA',-,wz,bX⟩:=(HH.out.2.fees.nix (HF.out.trans qX.out)).at_ aX.clen (by decide) (by omega);dsimp only at hA hA';subst hA;subst hA';have hc1:=hcell k hlt;have hc2:=bX k gA;have rR:=h_ (qs hlt gA);have HEq:=h_ (qu hlt gA HT.out);obtain⟨p,hp⟩:∃p,x.fees[k]=p:=⟨_,rfl⟩;obtain⟨q,hq⟩:∃q,y.fees[k]=q:=⟨_,rfl⟩;rw[hp] at hc1 rR HEq;rw[hq] at hc2 rR HEq;obtain⟨p0,p1,p2,p3⟩:=uC (w:=wr) (b:=b) (off:=off+k * 4) (e:=p) hc1;obtain⟨q0,q1,q2,q3⟩:=uC (w:=wr) (b:=b') (off:=off'+k * 4) (e:=q) hc2;have hq:=λW=>wA p q W
   have hg:pQ.eqGuardType pQ.depth 64=false:=by kernel_rfl
   unfold kN at hq;clear hcell bX hc1 hc2 hp
   by_cases he:p=q
   ·rw[decide_eq_true he] at hq
    have HE:=h_ (HEq.out he);clear he;go_wp2;go_quiet (fail);go_wp2;go_roundw
    case rel=>exact⟨k+1,by omega,by go_num,HE.out,qX.out.drewN _⟩
    case measure=>simp[intOf];omega
   ·rw[decide_eq_false he] at hq
    have HE:Hid (x≠y):=λe=>rR.out he (by rw[e])
    clear he;go_wp2;go_quiet (fail);go_wp2;go_ret;exact⟨af (decide_eq_false HE.out).symm,HF.out.trans (qX.out.drewN _)⟩
  ·obtain rfl:k=x.fees.length:=by omega
   have HE:Hid (x.fees=y.fees):=by
    have:=HT.out;rw[List.take_length,ze,List.take_length] at this;exact this
   go_wp2;exact TV HH.out.1 HH.out.2 sB.out.1 sB.out.2 Cf.out (HF.out.trans qX.out) (HB.out.1.frm qX.out id) (HB.out.2.frm qX.out id) e1 HE.out
theorem TX(h:aY w G fo fe it se ts x)(h':aY w G' fo' fe' it' se' ts' y)(hs:aP x)(hs':aP y)(hl:x.fols.length=y.fols.length∧x.fees.length=y.fees.length∧x.itms.length=y.itms.length∧x.seas.length=y.seas.length)(hF:aa ag w wc)(hb:aj wc b1 36 #[I J x.clock,U fo.1 x.fols.length fo.2,U fe.1 x.fees.length fe.2,U it.1 x.itms.length it.2,U se.1 x.seas.length se.2,I J x.tFol,I J x.tFee,I J x.tItm,I J x.tSea])(hb':aj wc b2 36 #[I J y.clock,U fo'.1 y.fols.length fo'.2,U fe'.1 y.fees.length fe'.2,U it'.1 y.itms.length it'.2,U se'.1 y.seas.length se'.2,I J y.tFol,I J y.tFee,I J y.tItm,I J y.tSea]):
  Code.wp pQ (ai 2 (ae Tryz.f16)) (bodyPost pQ Tryz.f16 λe w'=>e=.returned (.bool (decide (x=y)))∧aa ag w w') ⟨#[u0,u1,O (some ⟨b1,0,none⟩),O (some ⟨b2,0,none⟩),u4,u5,u6,u7,u8,u9,u10,u11,u12,u13,u14,u15,u16,cG,cH,cI,cR,cS,cT,u23,u24,cN,u26,dc,u28,dm,dp,dr,u32,u33,df,dg,u36,dt,u38,dB,dC,dO,dP,dQ,u44,u45,dI,dJ,dK,dL,dD,dE,dF,dR,dS,dT,dM,dG,dH,dw,dx,dy,dz,dA,u64,dh,di,dl,cU,cX,fA,fB,fF,fG,fw,iO,iP,iQ,jN,jO,jP,jQ,jR,jS,jT,jU,jJ,jK,jV,jW,jX,jY,kZ,k9,lc,nd,nT,nU,nV,nW,fH,fJ,fK,fM,fO,fP,fQ,fU,ej,eo,ep,ew,ey,eA,eB,eC,eD,eF,eG,eH,eI,eJ,eK,eM,eO,eP,eQ,eU,eV,eW,eX,eY,eZ,fh,fj,fk,fl,fp,u138,fq,fV,fW,fX,fY,fZ,gb,gc,gg,gh],[]⟩ wc:=by
 obtain⟨x0,x1,x2,x3,x4,x5,x6,x7,x8⟩:=aA hb;obtain⟨y0,y1,y2,y3,y4,y5,y6,y7,y8⟩:=aA hb';have HH:=h_ (And.intro h h');have sB:=h_ (And.intro hs hs');have Cf:=h_ hl;have HF:=h_ hF;have HB:=h_ (And.intro hb hb');have cm:=hs.fols;have ze:=hl.1;obtain⟨A,c⟩:=fo;obtain⟨A',c'⟩:=fo';dsimp only at x1 x2 x3 x4 y1 y2 y3 y4;clear h h' hs hs' hl hF hb hb';have ek:ai 2 (ae Tryz.f16)=.seq (aD (ai 2 (ae Tryz.f16))) (ai 3 (ae Tryz.f16)):=by kernel_rfl
 rw[ek];clear ek;refine wp_seq_k λK hK=>?_
 conv in aD _=>whnf
 go_wp2
 go_loopw [5] (λkv wr=>∃k:Nat,k≤x.fols.length∧kv=I J k∧x.fols.take k=y.fols.take k∧aa ag wc wr) (λkv _=>x.fols.length-(intOf kv).toNat)
 case atStart=>exact⟨0,by omega,rfl,by simp,aa.refl _ _⟩
 case round=>
  obtain⟨k,hk,rfl,ht,hf⟩:=hrel;have HT:=h_ ht;have qX:=h_ hf;have lR:=HB.out.1.frm hf id;have hby:=HB.out.2.frm hf id;have xx:=lR.cell 1;have yy:=hby.cell 1;simp at xx yy;clear ht hf lR hby
  by_cases hlt:k<x.fols.length
  ·have gA:k<y.fols.length:=by rw[←ze];exact hlt
   obtain⟨b,off,hA,-,hbl,hcell⟩:=(HH.out.1.fols.nix (HF.out.trans qX.out)).at_ bh.clen (by decide) (by omega);obtain⟨b',off',hA',-,wz,bX⟩:=(HH.out.2.fols.nix (HF.out.trans qX.out)).at_ bh.clen (by decide) (by omega);dsimp only at hA hA';subst hA;subst hA';have hc1:=hcell k hlt;have hc2:=bX k gA;have rR:=h_ (qs hlt gA);have HEq:=h_ (qu hlt gA HT.out);obtain⟨p,hp⟩:∃p,x.fols[k]=p:=⟨_,rfl⟩;obtain⟨q,hq⟩:∃q,y.fols[k]=q:=⟨_,rfl⟩;rw[hp] at hc1 rR HEq;rw[hq] at hc2 rR HEq;obtain⟨p0,p1,p2⟩:=uB (w:=wr) (b:=b) (off:=off+k * 3) (e:=p) hc1;obtain⟨q0,q1,q2⟩:=uB (w:=wr) (b:=b') (off:=off'+k * 3) (e:=q) hc2;have hq:=λW=>wy p q W
   have hg:pQ.eqGuardType pQ.depth 79=false:=by kernel_rfl
   unfold nO at hq;clear hcell bX hc1 hc2 hp
   by_cases he:p=q
   ·rw[decide_eq_true he] at hq
    have HE:=h_ (HEq.out he);clear he;go_wp2;go_quiet (fail);go_wp2;go_roundw
    case rel=>exact⟨k+1,by omega,by go_num,HE.out,qX.out.drewN _⟩
    case measure=>simp[intOf];omega
   ·rw[decide_eq_false he] at hq
    have HE:Hid (x≠y):=λe=>rR.out he (by rw[e])
    clear he;go_wp2;go_quiet (fail);go_wp2;go_ret;exact⟨af (decide_eq_false HE.out).symm,HF.out.trans (qX.out.drewN _)⟩
  ·obtain rfl:k=x.fols.length:=by omega
   have HE:Hid (x.fols=y.fols):=by
    have:=HT.out;rw[List.take_length,ze,List.take_length] at this;exact this
   go_wp2;exact TW HH.out.1 HH.out.2 sB.out.1 sB.out.2 Cf.out (HF.out.trans qX.out) (HB.out.1.frm qX.out id) (HB.out.2.frm qX.out id) HE.out
theorem uF(h:aY w G fo fe it se ts x)(h':aY w G' fo' fe' it' se' ts' y)(hs:aP x)(hs':aP y):
  Calls pQ 16 #[cC fo fe it se x,cC fo' fe' it' se' y] w λe w'=>e=.returned (.bool (decide (x=y)))∧aa ag w w':=by
 obtain⟨w0,hw0⟩:∃w0,w0=(w.alloc (.cells #[I J x.clock,U fo.1 x.fols.length fo.2,U fe.1 x.fees.length fe.2,U it.1 x.itms.length it.2,U se.1 x.seas.length se.2,I J x.tFol,I J x.tFee,I J x.tItm,I J x.tSea] 36)).alloc (.cells #[I J y.clock,U fo'.1 y.fols.length fo'.2,U fe'.1 y.fees.length fe'.2,U it'.1 y.itms.length it'.2,U se'.1 y.seas.length se'.2,I J y.tFol,I J y.tFee,I J y.tItm,I J y.tSea] 36):=⟨_,rfl⟩;have hf0:aa ag w w0:=by rw[hw0];exact((fR w).alloc _).alloc _
 have hb:aj w0 w.heap.size 36 #[I J x.clock,U fo.1 x.fols.length fo.2,U fe.1 x.fees.length fe.2,U it.1 x.itms.length it.2,U se.1 x.seas.length se.2,I J x.tFol,I J x.tFee,I J x.tItm,I J x.tSea]:=by rw[hw0];exact(aj.new w _ _).alloc _
 have hb':aj w0 (w.heap.size+1) 36 #[I J y.clock,U fo'.1 y.fols.length fo'.2,U fe'.1 y.fees.length fe'.2,U it'.1 y.itms.length it'.2,U se'.1 y.seas.length se'.2,I J y.tFol,I J y.tFee,I J y.tItm,I J y.tSea]:=by
  have:=aj.new (w.alloc (.cells #[I J x.clock,U fo.1 x.fols.length fo.2,U fe.1 x.fees.length fe.2,U it.1 x.itms.length it.2,U se.1 x.seas.length se.2,I J x.tFol,I J x.tFee,I J x.tItm,I J x.tSea] 36)) 36 #[I J y.clock,U fo'.1 y.fols.length fo'.2,U fe'.1 y.fees.length fe'.2,U it'.1 y.itms.length it'.2,U se'.1 y.seas.length se'.2,I J y.tFol,I J y.tFee,I J y.tItm,I J y.tSea];rw[show (w.alloc (.cells #[I J x.clock,U fo.1 x.fols.length fo.2,U fe.1 x.fees.length fe.2,U it.1 x.itms.length it.2,U se.1 x.seas.length se.2,I J x.tFol,I J x.tFee,I J x.tItm,I J x.tSea] 36)).heap.size=w.heap.size+1 by simp] at this;rw[hw0];exact this
 obtain⟨x0,x1,x2,x3,x4,x5,x6,x7,x8⟩:=aA hb;obtain⟨y0,y1,y2,y3,y4,y5,y6,y7,y8⟩:=aA hb';have HH:=h_ (And.intro h h');have sB:=h_ (And.intro hs hs');have HF:=h_ hf0;have HB:=h_ (And.intro hb hb');have HW:=h_ hw0;have I3:=h_ hs;clear h h' hs hs' hf0 hb hb' hw0;unfold cC;have Vl:Hid (∀hl:x.fols.length=y.fols.length∧x.fees.length=y.fees.length∧x.itms.length=y.itms.length∧x.seas.length=y.seas.length,True):=λ_=>trivial
 have yc:Hid (¬(x.fols.length=y.fols.length∧x.fees.length=y.fees.length∧x.itms.length=y.itms.length∧x.seas.length=y.seas.length)→x≠y):=λhn e=>hn (by rw[e];exact⟨rfl,rfl,rfl,rfl⟩)
 by_cases Ht:x.fols.length=y.fols.length
 case neg=>
  have hn:¬((x.fols.length:Int)=(y.fols.length:Int)):=by omega
  have HE:=h_ (yc.out (λq=>Ht (by first|exact q.1|exact q.2.1|exact q.2.2.1|exact q.2.2.2)));go_enter Tryz.func16,Tryz.ntmps16;go_wp2;go_ret;exact⟨af (decide_eq_false HE.out).symm,((fR w).alloc _).alloc _⟩
 have ifols:(x.fols.length:Int)=(y.fols.length:Int):=by omega
 by_cases Hu:x.fees.length=y.fees.length
 case neg=>
  have hn:¬((x.fees.length:Int)=(y.fees.length:Int)):=by omega
  have HE:=h_ (yc.out (λq=>Hu (by first|exact q.1|exact q.2.1|exact q.2.2.1|exact q.2.2.2)));go_enter Tryz.func16,Tryz.ntmps16;go_wp2;go_ret;exact⟨af (decide_eq_false HE.out).symm,((fR w).alloc _).alloc _⟩
 have ifees:(x.fees.length:Int)=(y.fees.length:Int):=by omega
 by_cases Hv:x.itms.length=y.itms.length
 case neg=>
  have hn:¬((x.itms.length:Int)=(y.itms.length:Int)):=by omega
  have HE:=h_ (yc.out (λq=>Hv (by first|exact q.1|exact q.2.1|exact q.2.2.1|exact q.2.2.2)));go_enter Tryz.func16,Tryz.ntmps16;go_wp2;go_ret;exact⟨af (decide_eq_false HE.out).symm,((fR w).alloc _).alloc _⟩
 have iitms:(x.itms.length:Int)=(y.itms.length:Int):=by omega
 by_cases Hw:x.seas.length=y.seas.length
 case neg=>
  have hn:¬((x.seas.length:Int)=(y.seas.length:Int)):=by omega
  have HE:=h_ (yc.out (λq=>Hw (by first|exact q.1|exact q.2.1|exact q.2.2.1|exact q.2.2.2)));go_enter Tryz.func16,Tryz.ntmps16;go_wp2;go_ret;exact⟨af (decide_eq_false HE.out).symm,((fR w).alloc _).alloc _⟩
 have iseas:(x.seas.length:Int)=(y.seas.length:Int):=by omega
 have Cf:=h_ (And.intro Ht (And.intro Hu (And.intro Hv Hw)));clear Ht Hu Hv Hw;have TY:=h_ (And.intro ifols (And.intro ifees (And.intro iitms iseas)));clear ifols ifees iitms iseas;go_enter Tryz.func16,Tryz.ntmps16;show Code.wp pQ (ai 0 (ae Tryz.f16)) _ _ _
 have ek:ai 0 (ae Tryz.f16)=.seq (aD (ai 0 (ae Tryz.f16))) (ai 1 (ae Tryz.f16)):=by kernel_rfl
 rw[ek];clear ek;refine wp_seq_k λK hK=>?_
 conv in aD _=>whnf
 go_wp2;rw[←HW.out];have ek:ai 1 (ae Tryz.f16)=.seq (aD (ai 1 (ae Tryz.f16))) (ai 2 (ae Tryz.f16)):=by kernel_rfl
 rw[ek];clear ek;refine wp_seq_k λK hK=>?_
 conv in aD _=>whnf
 obtain⟨ifols,ifees,iitms,iseas⟩:=TY.out;go_wp2;exact TX HH.out.1 HH.out.2 sB.out.1 sB.out.2 Cf.out HF.out HB.out.1 HB.out.2
end Go.Proofs.YtaecjmiobllhmaaGreat
