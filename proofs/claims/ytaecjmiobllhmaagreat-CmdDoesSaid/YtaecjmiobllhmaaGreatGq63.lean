/- Words. -/
import Derived.Test.YtaecjmiobllhmaaGreatGq62
import Derived.Test.YtaecjmiobllhmaaGreatGq61
set_option linter.unusedVariables false
set_option linter.unusedSimpArgs false
set_option maxRecDepth 100000
set_option maxHeartbeats 16000000
namespace Go.Proofs.YtaecjmiobllhmaaGreat
open Go.Value renaming int→I,string→V,slice→U,pointer→O
open Go.IntKind renaming i64→J
open Tryz renaming prog→pQ
open Go.RowKit Go.Lib
variable {l:List bg}{i:Int}{w:World}{fo fe it se:Sl}{ts:List (Sl×aJ)}{x:St}{G:Nat→Prop}{b1 b2:Nat}{wc:World}{s t u:ByteArray}{v:Nat→Value}
theorem LK(l:List bg)(k n:Nat):jk l k n 0=n:=by cases k<;>rfl
theorem Jv{k n:Nat}(h0:i≠0)(h:aS bg.id i l=false):jk l k n i=8:=by
 cases k with
 | zero=>unfold jk;rw[if_neg h0]
 | succ k=>
   unfold jk;rw[if_neg h0]
   have:eV bg.id i l=none:=by
    have:=@mJ bg bg.id i l;rw[h] at this
    cases ha:eV bg.id i l with
    | none=>rfl
    | some f=>rw[ha] at this;cases this
   rw[this]
theorem G7{n:Nat}(h0:i≠0):jk l 0 n i=8:=by
 unfold jk;rw[if_neg h0]
theorem Jw{k n:Nat}{f:bg}(h0:i≠0)(h:eV bg.id i l=some f):jk l (k+1) n i=jk l k (n+1) f.inn:=by
 conv=>lhs;unfold jk
 rw[if_neg h0,h]
theorem G8(hS:aM w G fo fe it se ts x)(hsm:aH x)(i0:Int):
  Calls pQ 73 #[bE fo fe it se x,I J i0] w λe w'=>e=.returned (I J (gG x i0))∧aa ac w w':=by
 obtain⟨w0,hw0,hf0,hb0⟩:=nM w fo fe it se x;have ew:=hsm.fols;obtain⟨x0,x1,x2,x3,x4,x5,x6,x7,x8⟩:=ak hb0;have KF:Hid (∀W,aa ac w0 W→∀i,Calls pQ 72 #[bE fo fe it se x,I J i] W λe w'=>e=.returned (I J (gA bg.id i x.fols))∧aa ac w0 w'∧aa ac W w'):=λW hW i=>(ja ((hS.nix hf0).nix hW) hsm i).mono λe w' q=>⟨q.1,hW.trans q.2,q.2⟩
 have HS:=h_ (hS.nix hf0);have HB:=h_ hb0;have dM:=h_ hf0;have HW:=h_ hw0;clear hS hsm hw0 hf0 hb0;unfold bE;obtain⟨A,c⟩:=fo;dsimp only at x1 x2 x3 x4 ⊢ KF
 cases tJ:aS bg.id i0 x.fols with
 | false=>
   have hp:=dr tJ;have Qp:=h_ (KF.out w0 (fR w0) i0);rw[hp] at Qp;have HD:Hid (gG x i0=0):=by unfold Hid gG;rw[tJ];rfl
   go_enter Tryz.func73,Tryz.ntmps73;go_wp2_with (go_at_call 72;rw[←HW.out];refine Qp.out.mono ?_;rintro e w1 ⟨rfl,hf,-⟩;have Z1:=h_ hf;clear hf);go_ret
   exact⟨by rw[HD.out]<;>rfl,dM.out.trans Z1.out⟩
 | true=>
   obtain⟨p,hpl,hp,-⟩:=dh tJ;have Qp:=h_ (KF.out w0 (fR w0) i0);rw[hp] at Qp;have qi:¬(p:Int)<0:=by omega
   have HD:Hid (gG x i0=jk x.fols 7 0 i0):=by unfold Hid gG;rw[tJ];rfl
   have Yj:Hid (jk x.fols 7 0 i0=gG x i0):=HD.out.symm;clear HD;generalize gG x i0=D at *;go_enter Tryz.func73,Tryz.ntmps73;go_wp2_with (go_at_call 72;rw[←HW.out];refine Qp.out.mono ?_;rintro e w1 ⟨rfl,hf,-⟩;have Z1:=h_ hf;clear hf)
   go_loopw [1,5] (λiv nv wr=>∃(i:Int) (m:Nat),iv=I J i∧nv=I J m∧m≤7∧jk x.fols (7-m) m i=D∧aa ac w0 wr) (λ_ nv _=>7-(intOf nv).toNat)
   case atStart=>exact⟨i0,0,rfl,rfl,by omega,Yj.out,Z1.out⟩
   case round=>
    obtain⟨i,m,rfl,rfl,hm,hd,hf⟩:=hrel;have N8:=h_ hd;have HF:=h_ hf;clear hd hf x0 x1 x2 x3 x4 x5 x6 x7 x8;obtain⟨y0,y1,y2,y3,y4,y5,y6,y7,y8⟩:=ak (HB.out.frm HF.out id);have MC:=h_ (KF.out wr HF.out i)
    by_cases h0:i=0
    ·subst h0
     have HE:Hid (D=m):=by have:=N8.out;rw[LK] at this;exact this.symm
     go_wp2;go_ret;exact⟨by rw[HE.out]<;>rfl,dM.out.trans HF.out⟩
    cases MD:aS bg.id i x.fols with
    | false=>
      have HE:Hid (D=8):=by have:=N8.out;rw[Jv h0 MD] at this;exact this.symm
      rw[dr MD] at MC;go_wp2_with (go_at_call 72;refine MC.out.mono ?_;rintro e w2 ⟨rfl,hf,-⟩;have Z2:=h_ hf;clear hf);go_ret
      exact⟨by rw[HE.out]<;>rfl,dM.out.trans Z2.out⟩
    | true=>
      obtain⟨q,Iw,hq,-,hat,-⟩:=dh MD;rw[hq] at MC;have Rw:¬(q:Int)<0:=by omega
      by_cases h7:m=7
      ·subst h7
       have HE:Hid (D=8):=by have:=N8.out;rw[show 7-7=0 from rfl,G7 h0] at this;exact this.symm
       go_wp2_with (go_at_call 72;refine MC.out.mono ?_;rintro e w2 ⟨rfl,hf,-⟩;have Z2:=h_ hf;clear hf);go_ret;exact⟨by rw[HE.out]<;>rfl,dM.out.trans Z2.out⟩
      ·have Sj:¬(m:Int)=7:=by omega
       have Zf:((m:Int)==7)=false:=by simp;omega
       have HE:Hid (jk x.fols (7-(m+1)) (m+1) (x.fols[q]'Iw).inn=D):=by
        have:=N8.out;rw[show 7-m=(7-(m+1))+1 by omega,Jw h0 hat] at this;exact this
       obtain⟨b,off,hA,-,hbl,hcell⟩:=(HS.out.fols.nix HF.out).at_ bg.clen (by decide) (by omega);dsimp only at hA;subst hA;obtain⟨f,tB⟩:∃f,x.fols[q]'Iw=f:=⟨_,rfl⟩;have hc:=hcell q Iw;rw[tB] at hc HE;have HC:Hid (∀W,aa ac wr W→W.cell? ⟨b,off+q * 3+1,none⟩=some (I J f.inn)):=λW hW=>(hW.cell (p:=⟨b,off+q * 3+1,none⟩) hbl id).trans (hc 1 _ rfl)
       clear hcell hc tB hq hat;have ME:Hid (Calls pQ 72 #[.agg #[I J x.clock,U (some ⟨b,off,none⟩) x.fols.length c,U fe.1 x.fees.length fe.2,U it.1 x.itms.length it.2,U se.1 x.seas.length se.2,I J x.tFol,I J x.tFee,I J x.tItm,I J x.tSea],I J i] wr λe w'=>e=.returned (I J q)∧aa ac w0 w'∧w'.cell? ⟨b,off+q * 3+1,none⟩=some (I J f.inn)):=MC.out.mono λe w' h=>⟨h.1,h.2.1,HC.out _ h.2.2⟩
       go_wp2_with (go_at_call 72;refine ME.out.mono ?_;rintro e w2 ⟨rfl,hf,Rz⟩;have Z2:=h_ hf;have z1:=(HB.out.frm hf id).cell 1;simp at z1;clear hf);go_roundw
       case rel=>exact⟨f.inn,m+1,rfl,by go_num,by omega,HE.out,Z2.out⟩
       case measure=>simp[intOf];omega
structure bF(w wc:World)(b1 b2:Nat)(fo fe it se:Sl)(ts:List (Sl×aJ))(x:St)(G:Nat→Prop)(e:Ev):Prop where
 st:aM wc G fo fe it se ts x
 small:aH x
 frm:aa ac w wc
 b1:ai wc b1 36 #[I J x.clock,U fo.1 x.fols.length fo.2,U fe.1 x.fees.length fe.2,U it.1 x.itms.length it.2,U se.1 x.seas.length se.2,I J x.tFol,I J x.tFee,I J x.tItm,I J x.tSea]
 b2:ai wc b2 42 #[I J e.kind,I J e.a,I J e.b,I J e.n,V e.s,V e.t,V e.u]
theorem bF.nix{w wc w1:World}{e:Ev}(h:bF w wc b1 b2 fo fe it se ts x G e)(hf:aa ac wc w1):bF w w1 b1 b2 fo fe it se ts x G e:=
 ⟨h.st.nix hf,h.small,h.frm.trans hf,h.b1.frm hf id,h.b2.frm hf id⟩
def dm(b1 b2:Nat)(c:Bool)(v:Nat→Value):Act:=⟨#[v 0,v 1,O (some ⟨b1,0,none⟩),O (some ⟨b2,0,none⟩),v 4,.bool c,v 6,v 7,v 8,v 9,v 10,v 11,v 12,v 13,v 14,v 15,v 16,v 17,v 18,v 19,v 20,v 21,v 22,v 23,v 24,v 25,v 26,v 27,v 28,v 29,v 30,v 31,v 32,v 33,v 34,v 35,v 36,v 37,v 38,v 39,v 40,v 41,v 42,v 43,v 44,v 45,v 46,v 47,v 48,v 49,v 50,v 51,v 52,v 53,v 54,v 55,v 56,v 57,v 58,v 59,v 60,v 61,v 62,v 63,v 64,v 65,v 66,v 67,v 68,v 69,v 70,v 71,v 72,v 73,v 74,v 75,v 76,v 77,v 78,v 79,v 80,v 81,v 82,v 83,v 84,v 85,v 86,v 87,v 88,v 89,v 90,v 91,v 92,v 93,v 94,v 95,v 96,v 97,v 98,v 99,v 100,v 101,v 102,v 103,v 104,v 105,v 106,v 107,v 108,v 109,v 110,v 111,v 112,v 113,v 114,v 115,v 116,v 117,v 118,v 119,v 120,v 121,v 122,v 123,v 124,v 125,v 126,v 127,v 128,v 129,v 130,v 131,v 132,v 133,v 134,v 135,v 136,v 137,v 138,v 139,v 140,v 141,v 142,v 143,v 144,v 145,v 146,v 147,v 148,v 149,v 150,v 151,v 152,v 153,v 154,v 155,v 156,v 157,v 158,v 159,v 160,v 161,v 162,v 163,v 164,v 165,v 166,v 167,v 168,v 169,v 170,v 171,v 172,v 173,v 174,v 175,v 176,v 177,v 178,v 179,v 180,v 181,v 182,v 183,v 184,v 185,v 186,v 187,v 188,v 189,v 190,v 191,v 192,v 193,v 194,v 195,v 196,v 197,v 198,v 199,v 200,v 201,v 202,v 203],[]⟩
theorem Qq{a b n:Int}(h:bF w wc b1 b2 fo fe it se ts x G ⟨1,a,b,n,s,t,u⟩)(ho:aQ ⟨1,a,b,n,s,t,u⟩=true):
  Code.wp pQ (aj 3 (ae Tryz.f30)) (bodyPost pQ Tryz.f30 λe w'=>e=.returned (.bool (av x ⟨1,a,b,n,s,t,u⟩))∧aa ac w w') (dm b1 b2 (eQ x b) v) wc:=by
 unfold dm
 have HE:Hid (av x ⟨1,a,b,n,s,t,u⟩=((!aS bg.id a x.fols)&&((decide (x.fols.length<64))&&((eQ x b)&&((decide (gG x b<7))&&((!ey x b s))))))):=by
  unfold Hid av;rw[ho];simp[Bool.and_assoc]
 have bp:=h_ h;obtain⟨x0,x1,x2,x3,x4,x5,x6,x7,x8⟩:=ak (bp.out.b1);obtain⟨e0,e1,e2,e3,e4,e5,e6⟩:=ap (bp.out.b2);have K0:Hid (∀W,bF w W b1 b2 fo fe it se ts x G ⟨1,a,b,n,s,t,u⟩→Calls pQ 72 #[bE fo fe it se x,I J a] W λe w'=>e=.returned (I J (gA bg.id a x.fols))∧bF w w' b1 b2 fo fe it se ts x G ⟨1,a,b,n,s,t,u⟩):=λW hW=>(ja hW.st hW.small a).mono λe w' q=>⟨q.1,hW.nix q.2⟩
 have K3:Hid (∀W,bF w W b1 b2 fo fe it se ts x G ⟨1,a,b,n,s,t,u⟩→Calls pQ 73 #[bE fo fe it se x,I J b] W λe w'=>e=.returned (I J (gG x b))∧bF w w' b1 b2 fo fe it se ts x G ⟨1,a,b,n,s,t,u⟩):=λW hW=>(G8 hW.st hW.small b).mono λe w' q=>⟨q.1,hW.nix q.2⟩
 have K4:Hid (∀W,bF w W b1 b2 fo fe it se ts x G ⟨1,a,b,n,s,t,u⟩→Calls pQ 74 #[bE fo fe it se x,I J b,V s] W λe w'=>e=.returned (.bool (ey x b s))∧bF w w' b1 b2 fo fe it se ts x G ⟨1,a,b,n,s,t,u⟩):=λW hW=>(Ed hW.st hW.small b s).mono λe w' q=>⟨q.1,hW.nix q.2⟩
 clear h ho;simp only[aj,ae,Tryz.f30]
 cases hc0:aS bg.id a x.fols with
 | true=>
   obtain⟨p0,-,qi,-⟩:=dh hc0;rw[qi] at K0;have F2:¬(p0:Int)<0:=by omega
   have hm0:(0:Int)≤(p0:Int):=by omega
   rw[hc0] at HE;clear qi hc0;go_wp2_with (go_at_call 72;refine(K0.out _ bp.out).mono ?_;rintro e w1 ⟨rfl,hr⟩;have bw:=h_ hr;clear x0 x1 x2 x3 x4 x5 x6 x7 x8 e0 e1 e2 e3 e4 e5 e6;obtain⟨x0,x1,x2,x3,x4,x5,x6,x7,x8⟩:=ak (bw.out.b1);obtain⟨e0,e1,e2,e3,e4,e5,e6⟩:=ap (bw.out.b2);clear hr);go_ret
   exact⟨af (by rw[HE.out]<;>first|(simp;done)|(simp;omega)),bw.out.frm⟩
 | false=>
   rw[dr hc0] at K0;rw[hc0] at HE;clear hc0
   by_cases hc1:x.fols.length<64
   ·have E4:(x.fols.length:Int)<64:=by omega
    rw[decide_eq_true hc1] at HE
    cases hc2:eQ x b with
    | true=>
      rw[hc2] at HE
      try rw[hc2] at K2
      by_cases hc3:gG x b<7
      ·have Qr:((gG x b:Nat):Int)<7:=by omega
       rw[decide_eq_true hc3] at HE
       cases hc4:ey x b s with
       | true=>
         rw[hc4] at HE K4
         go_wp2_with (first
           | (go_at_call 74;have _q:=gI;refine(K4.out _ gI.out).mono ?_;rintro e w3 ⟨rfl,hr⟩;have od:=h_ hr;clear x0 x1 x2 x3 x4 x5 x6 x7 x8 e0 e1 e2 e3 e4 e5 e6;obtain⟨x0,x1,x2,x3,x4,x5,x6,x7,x8⟩:=ak (od.out.b1);obtain⟨e0,e1,e2,e3,e4,e5,e6⟩:=ap (od.out.b2);clear hr)
           | (go_at_call 73;have _q:=bw;refine(K3.out _ bw.out).mono ?_;rintro e w2 ⟨rfl,hr⟩;have gI:=h_ hr;clear x0 x1 x2 x3 x4 x5 x6 x7 x8 e0 e1 e2 e3 e4 e5 e6;obtain⟨x0,x1,x2,x3,x4,x5,x6,x7,x8⟩:=ak (gI.out.b1);obtain⟨e0,e1,e2,e3,e4,e5,e6⟩:=ap (gI.out.b2);clear hr)
           | (go_at_call 72;refine(K0.out _ bp.out).mono ?_;rintro e w1 ⟨rfl,hr⟩;have bw:=h_ hr;clear x0 x1 x2 x3 x4 x5 x6 x7 x8 e0 e1 e2 e3 e4 e5 e6;obtain⟨x0,x1,x2,x3,x4,x5,x6,x7,x8⟩:=ak (bw.out.b1);obtain⟨e0,e1,e2,e3,e4,e5,e6⟩:=ap (bw.out.b2);clear hr))
         go_ret
         exact⟨af (by rw[HE.out]<;>first|(simp;done)|(simp;omega)),od.out.frm⟩
       | false=>
         rw[hc4] at HE K4
         go_wp2_with (first
           | (go_at_call 74;have _q:=gI;refine(K4.out _ gI.out).mono ?_;rintro e w3 ⟨rfl,hr⟩;have od:=h_ hr;clear x0 x1 x2 x3 x4 x5 x6 x7 x8 e0 e1 e2 e3 e4 e5 e6;obtain⟨x0,x1,x2,x3,x4,x5,x6,x7,x8⟩:=ak (od.out.b1);obtain⟨e0,e1,e2,e3,e4,e5,e6⟩:=ap (od.out.b2);clear hr)
           | (go_at_call 73;have _q:=bw;refine(K3.out _ bw.out).mono ?_;rintro e w2 ⟨rfl,hr⟩;have gI:=h_ hr;clear x0 x1 x2 x3 x4 x5 x6 x7 x8 e0 e1 e2 e3 e4 e5 e6;obtain⟨x0,x1,x2,x3,x4,x5,x6,x7,x8⟩:=ak (gI.out.b1);obtain⟨e0,e1,e2,e3,e4,e5,e6⟩:=ap (gI.out.b2);clear hr)
           | (go_at_call 72;refine(K0.out _ bp.out).mono ?_;rintro e w1 ⟨rfl,hr⟩;have bw:=h_ hr;clear x0 x1 x2 x3 x4 x5 x6 x7 x8 e0 e1 e2 e3 e4 e5 e6;obtain⟨x0,x1,x2,x3,x4,x5,x6,x7,x8⟩:=ak (bw.out.b1);obtain⟨e0,e1,e2,e3,e4,e5,e6⟩:=ap (bw.out.b2);clear hr))
         go_ret;exact⟨af (by rw[HE.out]<;>first|(simp;done)|(simp;omega)),od.out.frm⟩
      ·have Qr:¬((gG x b:Nat):Int)<7:=by omega
       rw[decide_eq_false hc3] at HE
       go_wp2_with (first
         | (go_at_call 73;have _q:=bw;refine(K3.out _ bw.out).mono ?_;rintro e w2 ⟨rfl,hr⟩;have gI:=h_ hr;clear x0 x1 x2 x3 x4 x5 x6 x7 x8 e0 e1 e2 e3 e4 e5 e6;obtain⟨x0,x1,x2,x3,x4,x5,x6,x7,x8⟩:=ak (gI.out.b1);obtain⟨e0,e1,e2,e3,e4,e5,e6⟩:=ap (gI.out.b2);clear hr)
         | (go_at_call 72;refine(K0.out _ bp.out).mono ?_;rintro e w1 ⟨rfl,hr⟩;have bw:=h_ hr;clear x0 x1 x2 x3 x4 x5 x6 x7 x8 e0 e1 e2 e3 e4 e5 e6;obtain⟨x0,x1,x2,x3,x4,x5,x6,x7,x8⟩:=ak (bw.out.b1);obtain⟨e0,e1,e2,e3,e4,e5,e6⟩:=ap (bw.out.b2);clear hr))
       go_ret
       exact⟨af (by rw[HE.out]<;>first|(simp;done)|(simp;omega)),gI.out.frm⟩
    | false=>
      rw[hc2] at HE;go_wp2_with (go_at_call 72;refine(K0.out _ bp.out).mono ?_;rintro e w1 ⟨rfl,hr⟩;have bw:=h_ hr;clear x0 x1 x2 x3 x4 x5 x6 x7 x8 e0 e1 e2 e3 e4 e5 e6;obtain⟨x0,x1,x2,x3,x4,x5,x6,x7,x8⟩:=ak (bw.out.b1);obtain⟨e0,e1,e2,e3,e4,e5,e6⟩:=ap (bw.out.b2);clear hr);go_ret;exact⟨af (by rw[HE.out]<;>first|(simp;done)|(simp;omega)),bw.out.frm⟩
   ·have E4:¬(x.fols.length:Int)<64:=by omega
    rw[decide_eq_false hc1] at HE;go_wp2_with (go_at_call 72;refine(K0.out _ bp.out).mono ?_;rintro e w1 ⟨rfl,hr⟩;have bw:=h_ hr;clear x0 x1 x2 x3 x4 x5 x6 x7 x8 e0 e1 e2 e3 e4 e5 e6;obtain⟨x0,x1,x2,x3,x4,x5,x6,x7,x8⟩:=ak (bw.out.b1);obtain⟨e0,e1,e2,e3,e4,e5,e6⟩:=ap (bw.out.b2);clear hr);go_ret;exact⟨af (by rw[HE.out]<;>first|(simp;done)|(simp;omega)),bw.out.frm⟩
theorem Qs{a b n:Int}(h:bF w wc b1 b2 fo fe it se ts x G ⟨2,a,b,n,s,t,u⟩)(ho:aQ ⟨2,a,b,n,s,t,u⟩=true):
  Code.wp pQ (aj 3 (ae Tryz.f30)) (bodyPost pQ Tryz.f30 λe w'=>e=.returned (.bool (av x ⟨2,a,b,n,s,t,u⟩))∧aa ac w w') (dm b1 b2 (eQ x b) v) wc:=by
 unfold dm
 have HE:Hid (av x ⟨2,a,b,n,s,t,u⟩=((aS bg.id a x.fols)&&((kZ x a)))):=by
  unfold Hid av;rw[ho];simp[Bool.and_assoc]
 have bp:=h_ h;obtain⟨x0,x1,x2,x3,x4,x5,x6,x7,x8⟩:=ak (bp.out.b1);obtain⟨e0,e1,e2,e3,e4,e5,e6⟩:=ap (bp.out.b2);have K0:Hid (∀W,bF w W b1 b2 fo fe it se ts x G ⟨2,a,b,n,s,t,u⟩→Calls pQ 72 #[bE fo fe it se x,I J a] W λe w'=>e=.returned (I J (gA bg.id a x.fols))∧bF w w' b1 b2 fo fe it se ts x G ⟨2,a,b,n,s,t,u⟩):=λW hW=>(ja hW.st hW.small a).mono λe w' q=>⟨q.1,hW.nix q.2⟩
 have K1:Hid (∀W,bF w W b1 b2 fo fe it se ts x G ⟨2,a,b,n,s,t,u⟩→Calls pQ 75 #[bE fo fe it se x,I J a] W λe w'=>e=.returned (.bool (kZ x a))∧bF w w' b1 b2 fo fe it se ts x G ⟨2,a,b,n,s,t,u⟩):=λW hW=>(Ee hW.st hW.small a).mono λe w' q=>⟨q.1,hW.nix q.2⟩
 clear h ho;simp only[aj,ae,Tryz.f30]
 cases hc0:aS bg.id a x.fols with
 | true=>
   obtain⟨p0,-,qi,-⟩:=dh hc0;rw[qi] at K0;have F2:¬(p0:Int)<0:=by omega
   have hm0:(0:Int)≤(p0:Int):=by omega
   rw[hc0] at HE;clear qi hc0
   cases hc1:kZ x a with
   | true=>
     rw[hc1] at HE K1
     go_wp2_with (first
       | (go_at_call 75;have _q:=bw;refine(K1.out _ bw.out).mono ?_;rintro e w2 ⟨rfl,hr⟩;have gI:=h_ hr;clear x0 x1 x2 x3 x4 x5 x6 x7 x8 e0 e1 e2 e3 e4 e5 e6;obtain⟨x0,x1,x2,x3,x4,x5,x6,x7,x8⟩:=ak (gI.out.b1);obtain⟨e0,e1,e2,e3,e4,e5,e6⟩:=ap (gI.out.b2);clear hr)
       | (go_at_call 72;refine(K0.out _ bp.out).mono ?_;rintro e w1 ⟨rfl,hr⟩;have bw:=h_ hr;clear x0 x1 x2 x3 x4 x5 x6 x7 x8 e0 e1 e2 e3 e4 e5 e6;obtain⟨x0,x1,x2,x3,x4,x5,x6,x7,x8⟩:=ak (bw.out.b1);obtain⟨e0,e1,e2,e3,e4,e5,e6⟩:=ap (bw.out.b2);clear hr))
     go_ret
     exact⟨af (by rw[HE.out]<;>first|(simp;done)|(simp;omega)),gI.out.frm⟩
   | false=>
     rw[hc1] at HE K1
     go_wp2_with (first
       | (go_at_call 75;have _q:=bw;refine(K1.out _ bw.out).mono ?_;rintro e w2 ⟨rfl,hr⟩;have gI:=h_ hr;clear x0 x1 x2 x3 x4 x5 x6 x7 x8 e0 e1 e2 e3 e4 e5 e6;obtain⟨x0,x1,x2,x3,x4,x5,x6,x7,x8⟩:=ak (gI.out.b1);obtain⟨e0,e1,e2,e3,e4,e5,e6⟩:=ap (gI.out.b2);clear hr)
       | (go_at_call 72;refine(K0.out _ bp.out).mono ?_;rintro e w1 ⟨rfl,hr⟩;have bw:=h_ hr;clear x0 x1 x2 x3 x4 x5 x6 x7 x8 e0 e1 e2 e3 e4 e5 e6;obtain⟨x0,x1,x2,x3,x4,x5,x6,x7,x8⟩:=ak (bw.out.b1);obtain⟨e0,e1,e2,e3,e4,e5,e6⟩:=ap (bw.out.b2);clear hr))
     go_ret
     exact⟨af (by rw[HE.out]<;>first|(simp;done)|(simp;omega)),gI.out.frm⟩
 | false=>
   rw[dr hc0] at K0;rw[hc0] at HE;clear hc0;go_wp2_with (go_at_call 72;refine(K0.out _ bp.out).mono ?_;rintro e w1 ⟨rfl,hr⟩;have bw:=h_ hr;clear x0 x1 x2 x3 x4 x5 x6 x7 x8 e0 e1 e2 e3 e4 e5 e6;obtain⟨x0,x1,x2,x3,x4,x5,x6,x7,x8⟩:=ak (bw.out.b1);obtain⟨e0,e1,e2,e3,e4,e5,e6⟩:=ap (bw.out.b2);clear hr);go_ret;exact⟨af (by rw[HE.out]<;>first|(simp;done)|(simp;omega)),bw.out.frm⟩
theorem Qt{a b n:Int}(h:bF w wc b1 b2 fo fe it se ts x G ⟨3,a,b,n,s,t,u⟩)(ho:aQ ⟨3,a,b,n,s,t,u⟩=true):
  Code.wp pQ (aj 3 (ae Tryz.f30)) (bodyPost pQ Tryz.f30 λe w'=>e=.returned (.bool (av x ⟨3,a,b,n,s,t,u⟩))∧aa ac w w') (dm b1 b2 (eQ x b) v) wc:=by
 unfold dm
 have HE:Hid (av x ⟨3,a,b,n,s,t,u⟩=((!aS aP.id a x.fees)&&((decide (x.fees.length<64))&&((eQ x b)&&((decide (cH x s=0))))))):=by
  unfold Hid av;rw[ho];simp[Bool.and_assoc]
 have bp:=h_ h;obtain⟨x0,x1,x2,x3,x4,x5,x6,x7,x8⟩:=ak (bp.out.b1);obtain⟨e0,e1,e2,e3,e4,e5,e6⟩:=ap (bp.out.b2);have K0:Hid (∀W,bF w W b1 b2 fo fe it se ts x G ⟨3,a,b,n,s,t,u⟩→Calls pQ 33 #[bE fo fe it se x,I J a] W λe w'=>e=.returned (I J (gA aP.id a x.fees))∧bF w w' b1 b2 fo fe it se ts x G ⟨3,a,b,n,s,t,u⟩):=λW hW=>(gi hW.st hW.small a).mono λe w' q=>⟨q.1,hW.nix q.2⟩
 have K3:Hid (∀W,bF w W b1 b2 fo fe it se ts x G ⟨3,a,b,n,s,t,u⟩→Calls pQ 76 #[bE fo fe it se x,V s] W λe w'=>e=.returned (I J (cH x s))∧bF w w' b1 b2 fo fe it se ts x G ⟨3,a,b,n,s,t,u⟩):=λW hW=>(wT hW.st hW.small s).mono λe w' q=>⟨q.1,hW.nix q.2⟩
 clear h ho;simp only[aj,ae,Tryz.f30]
 cases hc0:aS aP.id a x.fees with
 | true=>
   obtain⟨p0,-,qi,-⟩:=dh hc0;rw[qi] at K0;have F2:¬(p0:Int)<0:=by omega
   have hm0:(0:Int)≤(p0:Int):=by omega
   rw[hc0] at HE;clear qi hc0;go_wp2_with (go_at_call 33;refine(K0.out _ bp.out).mono ?_;rintro e w1 ⟨rfl,hr⟩;have bw:=h_ hr;clear x0 x1 x2 x3 x4 x5 x6 x7 x8 e0 e1 e2 e3 e4 e5 e6;obtain⟨x0,x1,x2,x3,x4,x5,x6,x7,x8⟩:=ak (bw.out.b1);obtain⟨e0,e1,e2,e3,e4,e5,e6⟩:=ap (bw.out.b2);clear hr);go_ret
   exact⟨af (by rw[HE.out]<;>first|(simp;done)|(simp;omega)),bw.out.frm⟩
 | false=>
   rw[dr hc0] at K0;rw[hc0] at HE;clear hc0
   by_cases hc1:x.fees.length<64
   ·have E4:(x.fees.length:Int)<64:=by omega
    rw[decide_eq_true hc1] at HE
    cases hc2:eQ x b with
    | true=>
      rw[hc2] at HE
      try rw[hc2] at K2
      by_cases hc3:cH x s=0
      ·have Qr:cH x s=0:=by assumption
       rw[decide_eq_true hc3] at HE;have hb3:(cH x s==0)=true:=by rw[hc3];rfl
       go_wp2_with (first
         | (go_at_call 76;have _q:=bw;refine(K3.out _ bw.out).mono ?_;rintro e w2 ⟨rfl,hr⟩;have gI:=h_ hr;clear x0 x1 x2 x3 x4 x5 x6 x7 x8 e0 e1 e2 e3 e4 e5 e6;obtain⟨x0,x1,x2,x3,x4,x5,x6,x7,x8⟩:=ak (gI.out.b1);obtain⟨e0,e1,e2,e3,e4,e5,e6⟩:=ap (gI.out.b2);clear hr)
         | (go_at_call 33;refine(K0.out _ bp.out).mono ?_;rintro e w1 ⟨rfl,hr⟩;have bw:=h_ hr;clear x0 x1 x2 x3 x4 x5 x6 x7 x8 e0 e1 e2 e3 e4 e5 e6;obtain⟨x0,x1,x2,x3,x4,x5,x6,x7,x8⟩:=ak (bw.out.b1);obtain⟨e0,e1,e2,e3,e4,e5,e6⟩:=ap (bw.out.b2);clear hr))
       go_ret;exact⟨af (by rw[HE.out]<;>first|(simp;done)|(simp;omega)),gI.out.frm⟩
      ·have Qr:¬cH x s=0:=by assumption
       rw[decide_eq_false hc3] at HE;have hb3:(cH x s==0)=false:=by simp[hc3]
       go_wp2_with (first
         | (go_at_call 76;have _q:=bw;refine(K3.out _ bw.out).mono ?_;rintro e w2 ⟨rfl,hr⟩;have gI:=h_ hr;clear x0 x1 x2 x3 x4 x5 x6 x7 x8 e0 e1 e2 e3 e4 e5 e6;obtain⟨x0,x1,x2,x3,x4,x5,x6,x7,x8⟩:=ak (gI.out.b1);obtain⟨e0,e1,e2,e3,e4,e5,e6⟩:=ap (gI.out.b2);clear hr)
         | (go_at_call 33;refine(K0.out _ bp.out).mono ?_;rintro e w1 ⟨rfl,hr⟩;have bw:=h_ hr;clear x0 x1 x2 x3 x4 x5 x6 x7 x8 e0 e1 e2 e3 e4 e5 e6;obtain⟨x0,x1,x2,x3,x4,x5,x6,x7,x8⟩:=ak (bw.out.b1);obtain⟨e0,e1,e2,e3,e4,e5,e6⟩:=ap (bw.out.b2);clear hr))
       go_ret
       exact⟨af (by rw[HE.out]<;>first|(simp;done)|(simp;omega)),gI.out.frm⟩
    | false=>
      rw[hc2] at HE;go_wp2_with (go_at_call 33;refine(K0.out _ bp.out).mono ?_;rintro e w1 ⟨rfl,hr⟩;have bw:=h_ hr;clear x0 x1 x2 x3 x4 x5 x6 x7 x8 e0 e1 e2 e3 e4 e5 e6;obtain⟨x0,x1,x2,x3,x4,x5,x6,x7,x8⟩:=ak (bw.out.b1);obtain⟨e0,e1,e2,e3,e4,e5,e6⟩:=ap (bw.out.b2);clear hr);go_ret;exact⟨af (by rw[HE.out]<;>first|(simp;done)|(simp;omega)),bw.out.frm⟩
   ·have E4:¬(x.fees.length:Int)<64:=by omega
    rw[decide_eq_false hc1] at HE;go_wp2_with (go_at_call 33;refine(K0.out _ bp.out).mono ?_;rintro e w1 ⟨rfl,hr⟩;have bw:=h_ hr;clear x0 x1 x2 x3 x4 x5 x6 x7 x8 e0 e1 e2 e3 e4 e5 e6;obtain⟨x0,x1,x2,x3,x4,x5,x6,x7,x8⟩:=ak (bw.out.b1);obtain⟨e0,e1,e2,e3,e4,e5,e6⟩:=ap (bw.out.b2);clear hr);go_ret;exact⟨af (by rw[HE.out]<;>first|(simp;done)|(simp;omega)),bw.out.frm⟩
theorem Qu{a b n:Int}(h:bF w wc b1 b2 fo fe it se ts x G ⟨4,a,b,n,s,t,u⟩)(ho:aQ ⟨4,a,b,n,s,t,u⟩=true):
  Code.wp pQ (aj 3 (ae Tryz.f30)) (bodyPost pQ Tryz.f30 λe w'=>e=.returned (.bool (av x ⟨4,a,b,n,s,t,u⟩))∧aa ac w w') (dm b1 b2 (eQ x b) v) wc:=by
 unfold dm
 have HE:Hid (av x ⟨4,a,b,n,s,t,u⟩=((aS aP.id a x.fees))):=by
  unfold Hid av;rw[ho];simp[Bool.and_assoc]
 have bp:=h_ h;obtain⟨x0,x1,x2,x3,x4,x5,x6,x7,x8⟩:=ak (bp.out.b1);obtain⟨e0,e1,e2,e3,e4,e5,e6⟩:=ap (bp.out.b2);have K0:Hid (∀W,bF w W b1 b2 fo fe it se ts x G ⟨4,a,b,n,s,t,u⟩→Calls pQ 33 #[bE fo fe it se x,I J a] W λe w'=>e=.returned (I J (gA aP.id a x.fees))∧bF w w' b1 b2 fo fe it se ts x G ⟨4,a,b,n,s,t,u⟩):=λW hW=>(gi hW.st hW.small a).mono λe w' q=>⟨q.1,hW.nix q.2⟩
 clear h ho;simp only[aj,ae,Tryz.f30]
 cases hc0:aS aP.id a x.fees with
 | true=>
   obtain⟨p0,-,qi,-⟩:=dh hc0;rw[qi] at K0;have F2:¬(p0:Int)<0:=by omega
   have hm0:(0:Int)≤(p0:Int):=by omega
   rw[hc0] at HE;clear qi hc0;go_wp2_with (go_at_call 33;refine(K0.out _ bp.out).mono ?_;rintro e w1 ⟨rfl,hr⟩;have bw:=h_ hr;clear x0 x1 x2 x3 x4 x5 x6 x7 x8 e0 e1 e2 e3 e4 e5 e6;obtain⟨x0,x1,x2,x3,x4,x5,x6,x7,x8⟩:=ak (bw.out.b1);obtain⟨e0,e1,e2,e3,e4,e5,e6⟩:=ap (bw.out.b2);clear hr);go_ret
   exact⟨af (by rw[HE.out]<;>first|(simp;done)|(simp;omega)),bw.out.frm⟩
 | false=>
   rw[dr hc0] at K0;rw[hc0] at HE;clear hc0;go_wp2_with (go_at_call 33;refine(K0.out _ bp.out).mono ?_;rintro e w1 ⟨rfl,hr⟩;have bw:=h_ hr;clear x0 x1 x2 x3 x4 x5 x6 x7 x8 e0 e1 e2 e3 e4 e5 e6;obtain⟨x0,x1,x2,x3,x4,x5,x6,x7,x8⟩:=ak (bw.out.b1);obtain⟨e0,e1,e2,e3,e4,e5,e6⟩:=ap (bw.out.b2);clear hr);go_ret;exact⟨af (by rw[HE.out]<;>first|(simp;done)|(simp;omega)),bw.out.frm⟩
theorem Qv{a b n:Int}(h:bF w wc b1 b2 fo fe it se ts x G ⟨5,a,b,n,s,t,u⟩)(ho:aQ ⟨5,a,b,n,s,t,u⟩=true):
  Code.wp pQ (aj 3 (ae Tryz.f30)) (bodyPost pQ Tryz.f30 λe w'=>e=.returned (.bool (av x ⟨5,a,b,n,s,t,u⟩))∧aa ac w w') (dm b1 b2 (eQ x b) v) wc:=by
 unfold dm
 have HE:Hid (av x ⟨5,a,b,n,s,t,u⟩=((aS aP.id a x.fees))):=by
  unfold Hid av;rw[ho];simp[Bool.and_assoc]
 have bp:=h_ h;obtain⟨x0,x1,x2,x3,x4,x5,x6,x7,x8⟩:=ak (bp.out.b1);obtain⟨e0,e1,e2,e3,e4,e5,e6⟩:=ap (bp.out.b2);have K0:Hid (∀W,bF w W b1 b2 fo fe it se ts x G ⟨5,a,b,n,s,t,u⟩→Calls pQ 33 #[bE fo fe it se x,I J a] W λe w'=>e=.returned (I J (gA aP.id a x.fees))∧bF w w' b1 b2 fo fe it se ts x G ⟨5,a,b,n,s,t,u⟩):=λW hW=>(gi hW.st hW.small a).mono λe w' q=>⟨q.1,hW.nix q.2⟩
 clear h ho;simp only[aj,ae,Tryz.f30]
 cases hc0:aS aP.id a x.fees with
 | true=>
   obtain⟨p0,-,qi,-⟩:=dh hc0;rw[qi] at K0;have F2:¬(p0:Int)<0:=by omega
   have hm0:(0:Int)≤(p0:Int):=by omega
   rw[hc0] at HE;clear qi hc0;go_wp2_with (go_at_call 33;refine(K0.out _ bp.out).mono ?_;rintro e w1 ⟨rfl,hr⟩;have bw:=h_ hr;clear x0 x1 x2 x3 x4 x5 x6 x7 x8 e0 e1 e2 e3 e4 e5 e6;obtain⟨x0,x1,x2,x3,x4,x5,x6,x7,x8⟩:=ak (bw.out.b1);obtain⟨e0,e1,e2,e3,e4,e5,e6⟩:=ap (bw.out.b2);clear hr);go_ret
   exact⟨af (by rw[HE.out]<;>first|(simp;done)|(simp;omega)),bw.out.frm⟩
 | false=>
   rw[dr hc0] at K0;rw[hc0] at HE;clear hc0;go_wp2_with (go_at_call 33;refine(K0.out _ bp.out).mono ?_;rintro e w1 ⟨rfl,hr⟩;have bw:=h_ hr;clear x0 x1 x2 x3 x4 x5 x6 x7 x8 e0 e1 e2 e3 e4 e5 e6;obtain⟨x0,x1,x2,x3,x4,x5,x6,x7,x8⟩:=ak (bw.out.b1);obtain⟨e0,e1,e2,e3,e4,e5,e6⟩:=ap (bw.out.b2);clear hr);go_ret;exact⟨af (by rw[HE.out]<;>first|(simp;done)|(simp;omega)),bw.out.frm⟩
theorem Qw{a b n:Int}(h:bF w wc b1 b2 fo fe it se ts x G ⟨6,a,b,n,s,t,u⟩)(ho:aQ ⟨6,a,b,n,s,t,u⟩=true):
  Code.wp pQ (aj 3 (ae Tryz.f30)) (bodyPost pQ Tryz.f30 λe w'=>e=.returned (.bool (av x ⟨6,a,b,n,s,t,u⟩))∧aa ac w w') (dm b1 b2 (eQ x b) v) wc:=by
 unfold dm
 have HE:Hid (av x ⟨6,a,b,n,s,t,u⟩=((aS aP.id a x.fees)&&((eQ x b)))):=by
  unfold Hid av;rw[ho];simp[Bool.and_assoc]
 have bp:=h_ h;obtain⟨x0,x1,x2,x3,x4,x5,x6,x7,x8⟩:=ak (bp.out.b1);obtain⟨e0,e1,e2,e3,e4,e5,e6⟩:=ap (bp.out.b2);have K0:Hid (∀W,bF w W b1 b2 fo fe it se ts x G ⟨6,a,b,n,s,t,u⟩→Calls pQ 33 #[bE fo fe it se x,I J a] W λe w'=>e=.returned (I J (gA aP.id a x.fees))∧bF w w' b1 b2 fo fe it se ts x G ⟨6,a,b,n,s,t,u⟩):=λW hW=>(gi hW.st hW.small a).mono λe w' q=>⟨q.1,hW.nix q.2⟩
 clear h ho;simp only[aj,ae,Tryz.f30]
 cases hc0:aS aP.id a x.fees with
 | true=>
   obtain⟨p0,-,qi,-⟩:=dh hc0;rw[qi] at K0;have F2:¬(p0:Int)<0:=by omega
   have hm0:(0:Int)≤(p0:Int):=by omega
   rw[hc0] at HE;clear qi hc0
   cases hc1:eQ x b with
   | true=>
     rw[hc1] at HE
     try rw[hc1] at K1
     go_wp2_with (go_at_call 33;refine(K0.out _ bp.out).mono ?_;rintro e w1 ⟨rfl,hr⟩;have bw:=h_ hr;clear x0 x1 x2 x3 x4 x5 x6 x7 x8 e0 e1 e2 e3 e4 e5 e6;obtain⟨x0,x1,x2,x3,x4,x5,x6,x7,x8⟩:=ak (bw.out.b1);obtain⟨e0,e1,e2,e3,e4,e5,e6⟩:=ap (bw.out.b2);clear hr);go_ret
     exact⟨af (by rw[HE.out]<;>first|(simp;done)|(simp;omega)),bw.out.frm⟩
   | false=>
     rw[hc1] at HE;go_wp2_with (go_at_call 33;refine(K0.out _ bp.out).mono ?_;rintro e w1 ⟨rfl,hr⟩;have bw:=h_ hr;clear x0 x1 x2 x3 x4 x5 x6 x7 x8 e0 e1 e2 e3 e4 e5 e6;obtain⟨x0,x1,x2,x3,x4,x5,x6,x7,x8⟩:=ak (bw.out.b1);obtain⟨e0,e1,e2,e3,e4,e5,e6⟩:=ap (bw.out.b2);clear hr);go_ret
     exact⟨af (by rw[HE.out]<;>first|(simp;done)|(simp;omega)),bw.out.frm⟩
 | false=>
   rw[dr hc0] at K0;rw[hc0] at HE;clear hc0;go_wp2_with (go_at_call 33;refine(K0.out _ bp.out).mono ?_;rintro e w1 ⟨rfl,hr⟩;have bw:=h_ hr;clear x0 x1 x2 x3 x4 x5 x6 x7 x8 e0 e1 e2 e3 e4 e5 e6;obtain⟨x0,x1,x2,x3,x4,x5,x6,x7,x8⟩:=ak (bw.out.b1);obtain⟨e0,e1,e2,e3,e4,e5,e6⟩:=ap (bw.out.b2);clear hr);go_ret;exact⟨af (by rw[HE.out]<;>first|(simp;done)|(simp;omega)),bw.out.frm⟩
theorem Qx{a b n:Int}(h:bF w wc b1 b2 fo fe it se ts x G ⟨7,a,b,n,s,t,u⟩)(ho:aQ ⟨7,a,b,n,s,t,u⟩=true):
  Code.wp pQ (aj 3 (ae Tryz.f30)) (bodyPost pQ Tryz.f30 λe w'=>e=.returned (.bool (av x ⟨7,a,b,n,s,t,u⟩))∧aa ac w w') (dm b1 b2 (eQ x b) v) wc:=by
 unfold dm
 have HE:Hid (av x ⟨7,a,b,n,s,t,u⟩=((!aS aJ.id a x.itms)&&((decide (x.itms.length<1024))&&((aS aP.id b x.fees)&&((decide (ke x b s=0))))))):=by
  unfold Hid av;rw[ho];simp[Bool.and_assoc]
 have bp:=h_ h;obtain⟨x0,x1,x2,x3,x4,x5,x6,x7,x8⟩:=ak (bp.out.b1);obtain⟨e0,e1,e2,e3,e4,e5,e6⟩:=ap (bp.out.b2);have K0:Hid (∀W,bF w W b1 b2 fo fe it se ts x G ⟨7,a,b,n,s,t,u⟩→Calls pQ 34 #[bE fo fe it se x,I J a] W λe w'=>e=.returned (I J (gA aJ.id a x.itms))∧bF w w' b1 b2 fo fe it se ts x G ⟨7,a,b,n,s,t,u⟩):=λW hW=>(jr hW.st hW.small a).mono λe w' q=>⟨q.1,hW.nix q.2⟩
 have K2:Hid (∀W,bF w W b1 b2 fo fe it se ts x G ⟨7,a,b,n,s,t,u⟩→Calls pQ 33 #[bE fo fe it se x,I J b] W λe w'=>e=.returned (I J (gA aP.id b x.fees))∧bF w w' b1 b2 fo fe it se ts x G ⟨7,a,b,n,s,t,u⟩):=λW hW=>(gi hW.st hW.small b).mono λe w' q=>⟨q.1,hW.nix q.2⟩
 have K3:Hid (∀W,bF w W b1 b2 fo fe it se ts x G ⟨7,a,b,n,s,t,u⟩→Calls pQ 77 #[bE fo fe it se x,I J b,V s] W λe w'=>e=.returned (I J (ke x b s))∧bF w w' b1 b2 fo fe it se ts x G ⟨7,a,b,n,s,t,u⟩):=λW hW=>(G6 hW.st hW.small b s).mono λe w' q=>⟨q.1,hW.nix q.2⟩
 clear h ho;simp only[aj,ae,Tryz.f30]
 cases hc0:aS aJ.id a x.itms with
 | true=>
   obtain⟨p0,-,qi,-⟩:=dh hc0;rw[qi] at K0;have F2:¬(p0:Int)<0:=by omega
   have hm0:(0:Int)≤(p0:Int):=by omega
   rw[hc0] at HE;clear qi hc0;go_wp2_with (go_at_call 34;refine(K0.out _ bp.out).mono ?_;rintro e w1 ⟨rfl,hr⟩;have bw:=h_ hr;clear x0 x1 x2 x3 x4 x5 x6 x7 x8 e0 e1 e2 e3 e4 e5 e6;obtain⟨x0,x1,x2,x3,x4,x5,x6,x7,x8⟩:=ak (bw.out.b1);obtain⟨e0,e1,e2,e3,e4,e5,e6⟩:=ap (bw.out.b2);clear hr);go_ret
   exact⟨af (by rw[HE.out]<;>first|(simp;done)|(simp;omega)),bw.out.frm⟩
 | false=>
   rw[dr hc0] at K0;rw[hc0] at HE;clear hc0
   by_cases hc1:x.itms.length<1024
   ·have E4:(x.itms.length:Int)<1024:=by omega
    rw[decide_eq_true hc1] at HE
    cases hc2:aS aP.id b x.fees with
    | true=>
      obtain⟨p2,-,Vu,-⟩:=dh hc2;rw[Vu] at K2;have PO:¬(p2:Int)<0:=by omega
      have UU:(0:Int)≤(p2:Int):=by omega
      rw[hc2] at HE;clear Vu hc2
      by_cases hc3:ke x b s=0
      ·have Qr:ke x b s=0:=by assumption
       rw[decide_eq_true hc3] at HE;have hb3:(ke x b s==0)=true:=by rw[hc3];rfl
       go_wp2_with (first
         | (go_at_call 77;have _q:=gI;refine(K3.out _ gI.out).mono ?_;rintro e w3 ⟨rfl,hr⟩;have od:=h_ hr;clear x0 x1 x2 x3 x4 x5 x6 x7 x8 e0 e1 e2 e3 e4 e5 e6;obtain⟨x0,x1,x2,x3,x4,x5,x6,x7,x8⟩:=ak (od.out.b1);obtain⟨e0,e1,e2,e3,e4,e5,e6⟩:=ap (od.out.b2);clear hr)
         | (go_at_call 33;have _q:=bw;refine(K2.out _ bw.out).mono ?_;rintro e w2 ⟨rfl,hr⟩;have gI:=h_ hr;clear x0 x1 x2 x3 x4 x5 x6 x7 x8 e0 e1 e2 e3 e4 e5 e6;obtain⟨x0,x1,x2,x3,x4,x5,x6,x7,x8⟩:=ak (gI.out.b1);obtain⟨e0,e1,e2,e3,e4,e5,e6⟩:=ap (gI.out.b2);clear hr)
         | (go_at_call 34;refine(K0.out _ bp.out).mono ?_;rintro e w1 ⟨rfl,hr⟩;have bw:=h_ hr;clear x0 x1 x2 x3 x4 x5 x6 x7 x8 e0 e1 e2 e3 e4 e5 e6;obtain⟨x0,x1,x2,x3,x4,x5,x6,x7,x8⟩:=ak (bw.out.b1);obtain⟨e0,e1,e2,e3,e4,e5,e6⟩:=ap (bw.out.b2);clear hr))
       go_ret;exact⟨af (by rw[HE.out]<;>first|(simp;done)|(simp;omega)),od.out.frm⟩
      ·have Qr:¬ke x b s=0:=by assumption
       rw[decide_eq_false hc3] at HE;have hb3:(ke x b s==0)=false:=by simp[hc3]
       go_wp2_with (first
         | (go_at_call 77;have _q:=gI;refine(K3.out _ gI.out).mono ?_;rintro e w3 ⟨rfl,hr⟩;have od:=h_ hr;clear x0 x1 x2 x3 x4 x5 x6 x7 x8 e0 e1 e2 e3 e4 e5 e6;obtain⟨x0,x1,x2,x3,x4,x5,x6,x7,x8⟩:=ak (od.out.b1);obtain⟨e0,e1,e2,e3,e4,e5,e6⟩:=ap (od.out.b2);clear hr)
         | (go_at_call 33;have _q:=bw;refine(K2.out _ bw.out).mono ?_;rintro e w2 ⟨rfl,hr⟩;have gI:=h_ hr;clear x0 x1 x2 x3 x4 x5 x6 x7 x8 e0 e1 e2 e3 e4 e5 e6;obtain⟨x0,x1,x2,x3,x4,x5,x6,x7,x8⟩:=ak (gI.out.b1);obtain⟨e0,e1,e2,e3,e4,e5,e6⟩:=ap (gI.out.b2);clear hr)
         | (go_at_call 34;refine(K0.out _ bp.out).mono ?_;rintro e w1 ⟨rfl,hr⟩;have bw:=h_ hr;clear x0 x1 x2 x3 x4 x5 x6 x7 x8 e0 e1 e2 e3 e4 e5 e6;obtain⟨x0,x1,x2,x3,x4,x5,x6,x7,x8⟩:=ak (bw.out.b1);obtain⟨e0,e1,e2,e3,e4,e5,e6⟩:=ap (bw.out.b2);clear hr))
       go_ret
       exact⟨af (by rw[HE.out]<;>first|(simp;done)|(simp;omega)),od.out.frm⟩
    | false=>
      rw[dr hc2] at K2;rw[hc2] at HE;clear hc2
      go_wp2_with (first
        | (go_at_call 33;have _q:=bw;refine(K2.out _ bw.out).mono ?_;rintro e w2 ⟨rfl,hr⟩;have gI:=h_ hr;clear x0 x1 x2 x3 x4 x5 x6 x7 x8 e0 e1 e2 e3 e4 e5 e6;obtain⟨x0,x1,x2,x3,x4,x5,x6,x7,x8⟩:=ak (gI.out.b1);obtain⟨e0,e1,e2,e3,e4,e5,e6⟩:=ap (gI.out.b2);clear hr)
        | (go_at_call 34;refine(K0.out _ bp.out).mono ?_;rintro e w1 ⟨rfl,hr⟩;have bw:=h_ hr;clear x0 x1 x2 x3 x4 x5 x6 x7 x8 e0 e1 e2 e3 e4 e5 e6;obtain⟨x0,x1,x2,x3,x4,x5,x6,x7,x8⟩:=ak (bw.out.b1);obtain⟨e0,e1,e2,e3,e4,e5,e6⟩:=ap (bw.out.b2);clear hr))
      go_ret;exact⟨af (by rw[HE.out]<;>first|(simp;done)|(simp;omega)),gI.out.frm⟩
   ·have E4:¬(x.itms.length:Int)<1024:=by omega
    rw[decide_eq_false hc1] at HE;go_wp2_with (go_at_call 34;refine(K0.out _ bp.out).mono ?_;rintro e w1 ⟨rfl,hr⟩;have bw:=h_ hr;clear x0 x1 x2 x3 x4 x5 x6 x7 x8 e0 e1 e2 e3 e4 e5 e6;obtain⟨x0,x1,x2,x3,x4,x5,x6,x7,x8⟩:=ak (bw.out.b1);obtain⟨e0,e1,e2,e3,e4,e5,e6⟩:=ap (bw.out.b2);clear hr);go_ret;exact⟨af (by rw[HE.out]<;>first|(simp;done)|(simp;omega)),bw.out.frm⟩
theorem Qy{a b n:Int}(h:bF w wc b1 b2 fo fe it se ts x G ⟨8,a,b,n,s,t,u⟩)(ho:aQ ⟨8,a,b,n,s,t,u⟩=true):
  Code.wp pQ (aj 3 (ae Tryz.f30)) (bodyPost pQ Tryz.f30 λe w'=>e=.returned (.bool (av x ⟨8,a,b,n,s,t,u⟩))∧aa ac w w') (dm b1 b2 (eQ x b) v) wc:=by
 unfold dm
 have HE:Hid (av x ⟨8,a,b,n,s,t,u⟩=((aS aJ.id a x.itms))):=by
  unfold Hid av;rw[ho];simp[Bool.and_assoc]
 have bp:=h_ h;obtain⟨x0,x1,x2,x3,x4,x5,x6,x7,x8⟩:=ak (bp.out.b1);obtain⟨e0,e1,e2,e3,e4,e5,e6⟩:=ap (bp.out.b2);have K0:Hid (∀W,bF w W b1 b2 fo fe it se ts x G ⟨8,a,b,n,s,t,u⟩→Calls pQ 34 #[bE fo fe it se x,I J a] W λe w'=>e=.returned (I J (gA aJ.id a x.itms))∧bF w w' b1 b2 fo fe it se ts x G ⟨8,a,b,n,s,t,u⟩):=λW hW=>(jr hW.st hW.small a).mono λe w' q=>⟨q.1,hW.nix q.2⟩
 clear h ho;simp only[aj,ae,Tryz.f30]
 cases hc0:aS aJ.id a x.itms with
 | true=>
   obtain⟨p0,-,qi,-⟩:=dh hc0;rw[qi] at K0;have F2:¬(p0:Int)<0:=by omega
   have hm0:(0:Int)≤(p0:Int):=by omega
   rw[hc0] at HE;clear qi hc0;go_wp2_with (go_at_call 34;refine(K0.out _ bp.out).mono ?_;rintro e w1 ⟨rfl,hr⟩;have bw:=h_ hr;clear x0 x1 x2 x3 x4 x5 x6 x7 x8 e0 e1 e2 e3 e4 e5 e6;obtain⟨x0,x1,x2,x3,x4,x5,x6,x7,x8⟩:=ak (bw.out.b1);obtain⟨e0,e1,e2,e3,e4,e5,e6⟩:=ap (bw.out.b2);clear hr);go_ret
   exact⟨af (by rw[HE.out]<;>first|(simp;done)|(simp;omega)),bw.out.frm⟩
 | false=>
   rw[dr hc0] at K0;rw[hc0] at HE;clear hc0;go_wp2_with (go_at_call 34;refine(K0.out _ bp.out).mono ?_;rintro e w1 ⟨rfl,hr⟩;have bw:=h_ hr;clear x0 x1 x2 x3 x4 x5 x6 x7 x8 e0 e1 e2 e3 e4 e5 e6;obtain⟨x0,x1,x2,x3,x4,x5,x6,x7,x8⟩:=ak (bw.out.b1);obtain⟨e0,e1,e2,e3,e4,e5,e6⟩:=ap (bw.out.b2);clear hr);go_ret;exact⟨af (by rw[HE.out]<;>first|(simp;done)|(simp;omega)),bw.out.frm⟩
theorem Qz{a b n:Int}(h:bF w wc b1 b2 fo fe it se ts x G ⟨9,a,b,n,s,t,u⟩)(ho:aQ ⟨9,a,b,n,s,t,u⟩=true):
  Code.wp pQ (aj 3 (ae Tryz.f30)) (bodyPost pQ Tryz.f30 λe w'=>e=.returned (.bool (av x ⟨9,a,b,n,s,t,u⟩))∧aa ac w w') (dm b1 b2 (eQ x b) v) wc:=by
 unfold dm
 have HE:Hid (av x ⟨9,a,b,n,s,t,u⟩=((aS aJ.id a x.itms))):=by
  unfold Hid av;rw[ho];simp[Bool.and_assoc]
 have bp:=h_ h;obtain⟨x0,x1,x2,x3,x4,x5,x6,x7,x8⟩:=ak (bp.out.b1);obtain⟨e0,e1,e2,e3,e4,e5,e6⟩:=ap (bp.out.b2);have K0:Hid (∀W,bF w W b1 b2 fo fe it se ts x G ⟨9,a,b,n,s,t,u⟩→Calls pQ 34 #[bE fo fe it se x,I J a] W λe w'=>e=.returned (I J (gA aJ.id a x.itms))∧bF w w' b1 b2 fo fe it se ts x G ⟨9,a,b,n,s,t,u⟩):=λW hW=>(jr hW.st hW.small a).mono λe w' q=>⟨q.1,hW.nix q.2⟩
 clear h ho;simp only[aj,ae,Tryz.f30]
 cases hc0:aS aJ.id a x.itms with
 | true=>
   obtain⟨p0,-,qi,-⟩:=dh hc0;rw[qi] at K0;have F2:¬(p0:Int)<0:=by omega
   have hm0:(0:Int)≤(p0:Int):=by omega
   rw[hc0] at HE;clear qi hc0;go_wp2_with (go_at_call 34;refine(K0.out _ bp.out).mono ?_;rintro e w1 ⟨rfl,hr⟩;have bw:=h_ hr;clear x0 x1 x2 x3 x4 x5 x6 x7 x8 e0 e1 e2 e3 e4 e5 e6;obtain⟨x0,x1,x2,x3,x4,x5,x6,x7,x8⟩:=ak (bw.out.b1);obtain⟨e0,e1,e2,e3,e4,e5,e6⟩:=ap (bw.out.b2);clear hr);go_ret
   exact⟨af (by rw[HE.out]<;>first|(simp;done)|(simp;omega)),bw.out.frm⟩
 | false=>
   rw[dr hc0] at K0;rw[hc0] at HE;clear hc0;go_wp2_with (go_at_call 34;refine(K0.out _ bp.out).mono ?_;rintro e w1 ⟨rfl,hr⟩;have bw:=h_ hr;clear x0 x1 x2 x3 x4 x5 x6 x7 x8 e0 e1 e2 e3 e4 e5 e6;obtain⟨x0,x1,x2,x3,x4,x5,x6,x7,x8⟩:=ak (bw.out.b1);obtain⟨e0,e1,e2,e3,e4,e5,e6⟩:=ap (bw.out.b2);clear hr);go_ret;exact⟨af (by rw[HE.out]<;>first|(simp;done)|(simp;omega)),bw.out.frm⟩
theorem N9{a b n:Int}(h:bF w wc b1 b2 fo fe it se ts x G ⟨11,a,b,n,s,t,u⟩)(ho:aQ ⟨11,a,b,n,s,t,u⟩=true):
  Code.wp pQ (aj 3 (ae Tryz.f30)) (bodyPost pQ Tryz.f30 λe w'=>e=.returned (.bool (av x ⟨11,a,b,n,s,t,u⟩))∧aa ac w w') (dm b1 b2 (eQ x b) v) wc:=by
 unfold dm
 have HE:Hid (av x ⟨11,a,b,n,s,t,u⟩=((!aS dE.id a x.seas)&&((decide (x.seas.length<32))))):=by
  unfold Hid av;rw[ho];simp[Bool.and_assoc]
 have bp:=h_ h;obtain⟨x0,x1,x2,x3,x4,x5,x6,x7,x8⟩:=ak (bp.out.b1);obtain⟨e0,e1,e2,e3,e4,e5,e6⟩:=ap (bp.out.b2);have K0:Hid (∀W,bF w W b1 b2 fo fe it se ts x G ⟨11,a,b,n,s,t,u⟩→Calls pQ 79 #[bE fo fe it se x,I J a] W λe w'=>e=.returned (I J (gA dE.id a x.seas))∧bF w w' b1 b2 fo fe it se ts x G ⟨11,a,b,n,s,t,u⟩):=λW hW=>(px hW.st hW.small a).mono λe w' q=>⟨q.1,hW.nix q.2⟩
 clear h ho;simp only[aj,ae,Tryz.f30]
 cases hc0:aS dE.id a x.seas with
 | true=>
   obtain⟨p0,-,qi,-⟩:=dh hc0;rw[qi] at K0;have F2:¬(p0:Int)<0:=by omega
   have hm0:(0:Int)≤(p0:Int):=by omega
   rw[hc0] at HE;clear qi hc0;go_wp2_with (go_at_call 79;refine(K0.out _ bp.out).mono ?_;rintro e w1 ⟨rfl,hr⟩;have bw:=h_ hr;clear x0 x1 x2 x3 x4 x5 x6 x7 x8 e0 e1 e2 e3 e4 e5 e6;obtain⟨x0,x1,x2,x3,x4,x5,x6,x7,x8⟩:=ak (bw.out.b1);obtain⟨e0,e1,e2,e3,e4,e5,e6⟩:=ap (bw.out.b2);clear hr);go_ret
   exact⟨af (by rw[HE.out]<;>first|(simp;done)|(simp;omega)),bw.out.frm⟩
 | false=>
   rw[dr hc0] at K0;rw[hc0] at HE;clear hc0
   by_cases hc1:x.seas.length<32
   ·have E4:(x.seas.length:Int)<32:=by omega
    rw[decide_eq_true hc1] at HE;go_wp2_with (go_at_call 79;refine(K0.out _ bp.out).mono ?_;rintro e w1 ⟨rfl,hr⟩;have bw:=h_ hr;clear x0 x1 x2 x3 x4 x5 x6 x7 x8 e0 e1 e2 e3 e4 e5 e6;obtain⟨x0,x1,x2,x3,x4,x5,x6,x7,x8⟩:=ak (bw.out.b1);obtain⟨e0,e1,e2,e3,e4,e5,e6⟩:=ap (bw.out.b2);clear hr);go_ret;exact⟨af (by rw[HE.out]<;>first|(simp;done)|(simp;omega)),bw.out.frm⟩
   ·have E4:¬(x.seas.length:Int)<32:=by omega
    rw[decide_eq_false hc1] at HE;go_wp2_with (go_at_call 79;refine(K0.out _ bp.out).mono ?_;rintro e w1 ⟨rfl,hr⟩;have bw:=h_ hr;clear x0 x1 x2 x3 x4 x5 x6 x7 x8 e0 e1 e2 e3 e4 e5 e6;obtain⟨x0,x1,x2,x3,x4,x5,x6,x7,x8⟩:=ak (bw.out.b1);obtain⟨e0,e1,e2,e3,e4,e5,e6⟩:=ap (bw.out.b2);clear hr);go_ret;exact⟨af (by rw[HE.out]<;>first|(simp;done)|(simp;omega)),bw.out.frm⟩
theorem Oa{a b n:Int}(h:bF w wc b1 b2 fo fe it se ts x G ⟨12,a,b,n,s,t,u⟩)(ho:aQ ⟨12,a,b,n,s,t,u⟩=true):
  Code.wp pQ (aj 3 (ae Tryz.f30)) (bodyPost pQ Tryz.f30 λe w'=>e=.returned (.bool (av x ⟨12,a,b,n,s,t,u⟩))∧aa ac w w') (dm b1 b2 (eQ x b) v) wc:=by
 unfold dm
 have HE:Hid (av x ⟨12,a,b,n,s,t,u⟩=((aS dE.id a x.seas))):=by
  unfold Hid av;rw[ho];simp[Bool.and_assoc]
 have bp:=h_ h;obtain⟨x0,x1,x2,x3,x4,x5,x6,x7,x8⟩:=ak (bp.out.b1);obtain⟨e0,e1,e2,e3,e4,e5,e6⟩:=ap (bp.out.b2);have K0:Hid (∀W,bF w W b1 b2 fo fe it se ts x G ⟨12,a,b,n,s,t,u⟩→Calls pQ 79 #[bE fo fe it se x,I J a] W λe w'=>e=.returned (I J (gA dE.id a x.seas))∧bF w w' b1 b2 fo fe it se ts x G ⟨12,a,b,n,s,t,u⟩):=λW hW=>(px hW.st hW.small a).mono λe w' q=>⟨q.1,hW.nix q.2⟩
 clear h ho;simp only[aj,ae,Tryz.f30]
 cases hc0:aS dE.id a x.seas with
 | true=>
   obtain⟨p0,-,qi,-⟩:=dh hc0;rw[qi] at K0;have F2:¬(p0:Int)<0:=by omega
   have hm0:(0:Int)≤(p0:Int):=by omega
   rw[hc0] at HE;clear qi hc0;go_wp2_with (go_at_call 79;refine(K0.out _ bp.out).mono ?_;rintro e w1 ⟨rfl,hr⟩;have bw:=h_ hr;clear x0 x1 x2 x3 x4 x5 x6 x7 x8 e0 e1 e2 e3 e4 e5 e6;obtain⟨x0,x1,x2,x3,x4,x5,x6,x7,x8⟩:=ak (bw.out.b1);obtain⟨e0,e1,e2,e3,e4,e5,e6⟩:=ap (bw.out.b2);clear hr);go_ret
   exact⟨af (by rw[HE.out]<;>first|(simp;done)|(simp;omega)),bw.out.frm⟩
 | false=>
   rw[dr hc0] at K0;rw[hc0] at HE;clear hc0;go_wp2_with (go_at_call 79;refine(K0.out _ bp.out).mono ?_;rintro e w1 ⟨rfl,hr⟩;have bw:=h_ hr;clear x0 x1 x2 x3 x4 x5 x6 x7 x8 e0 e1 e2 e3 e4 e5 e6;obtain⟨x0,x1,x2,x3,x4,x5,x6,x7,x8⟩:=ak (bw.out.b1);obtain⟨e0,e1,e2,e3,e4,e5,e6⟩:=ap (bw.out.b2);clear hr);go_ret;exact⟨af (by rw[HE.out]<;>first|(simp;done)|(simp;omega)),bw.out.frm⟩
theorem Ob{a b n:Int}(h:bF w wc b1 b2 fo fe it se ts x G ⟨13,a,b,n,s,t,u⟩)(ho:aQ ⟨13,a,b,n,s,t,u⟩=true):
  Code.wp pQ (aj 3 (ae Tryz.f30)) (bodyPost pQ Tryz.f30 λe w'=>e=.returned (.bool (av x ⟨13,a,b,n,s,t,u⟩))∧aa ac w w') (dm b1 b2 (eQ x b) v) wc:=by
 unfold dm
 have HE:Hid (av x ⟨13,a,b,n,s,t,u⟩=((decide (x.clock≤n)))):=by
  unfold Hid av;rw[ho];simp[Bool.and_assoc]
 have bp:=h_ h;obtain⟨x0,x1,x2,x3,x4,x5,x6,x7,x8⟩:=ak (bp.out.b1);obtain⟨e0,e1,e2,e3,e4,e5,e6⟩:=ap (bp.out.b2);clear h ho;simp only[aj,ae,Tryz.f30]
 by_cases hc0:x.clock≤n
 ·have ux:x.clock≤n:=by assumption
  rw[decide_eq_true hc0] at HE;go_wp2;go_ret;exact⟨af (by rw[HE.out]<;>first|(simp;done)|(simp;omega)),bp.out.frm⟩
 ·have ux:¬x.clock≤n:=by assumption
  rw[decide_eq_false hc0] at HE;go_wp2;go_ret;exact⟨af (by rw[HE.out]<;>first|(simp;done)|(simp;omega)),bp.out.frm⟩
end Go.Proofs.YtaecjmiobllhmaaGreat
