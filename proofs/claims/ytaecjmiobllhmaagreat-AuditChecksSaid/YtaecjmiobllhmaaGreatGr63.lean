/- Words. -/
import Derived.Test.YtaecjmiobllhmaaGreatGr62
import Derived.Test.YtaecjmiobllhmaaGreatGr61
set_option linter.unusedVariables false
set_option linter.unusedSimpArgs false
set_option maxRecDepth 100000
set_option maxHeartbeats 16000000
namespace Go.Proofs.YtaecjmiobllhmaaGreat
open Go.Value renaming int→I,string→V,slice→U,pointer→O
open Go.IntKind renaming i64→J
open Tryz renaming prog→pQ
open Go.RowKit Go.Lib
variable {l:List bh}{i:Int}{w:World}{fo fe it se:Sl}{ts:List (Sl×aR)}{x:St}{G:Nat→Prop}{b1 b2:Nat}{wc:World}{s t u:ByteArray}{v:Nat→Value}
theorem J8(l:List bh)(k n:Nat):kJ l k n 0=n:=by cases k<;>rfl
theorem Ij{k n:Nat}(h0:i≠0)(h:bl bh.id i l=false):kJ l k n i=8:=by
 cases k with
 | zero=>unfold kJ;rw[if_neg h0]
 | succ k=>
   unfold kJ;rw[if_neg h0]
   have:kS bh.id i l=none:=by
    have:=@qm bh bh.id i l;rw[h] at this
    cases ha:kS bh.id i l with
    | none=>rfl
    | some f=>rw[ha] at this;cases this
   rw[this]
theorem Fy{n:Nat}(h0:i≠0):kJ l 0 n i=8:=by
 unfold kJ;rw[if_neg h0]
theorem Ik{k n:Nat}{f:bh}(h0:i≠0)(h:kS bh.id i l=some f):kJ l (k+1) n i=kJ l k (n+1) f.inn:=by
 conv=>lhs;unfold kJ
 rw[if_neg h0,h]
theorem Fz(hS:aY w G fo fe it se ts x)(hsm:aP x)(i0:Int):
  Calls pQ 73 #[cC fo fe it se x,I J i0] w λe w'=>e=.returned (I J (gv x i0))∧aa ag w w':=by
 obtain⟨w0,hw0,hf0,hb0⟩:=pH w fo fe it se x;have cm:=hsm.fols;obtain⟨x0,x1,x2,x3,x4,x5,x6,x7,x8⟩:=aA hb0;have KF:Hid (∀W,aa ag w0 W→∀i,Calls pQ 72 #[cC fo fe it se x,I J i] W λe w'=>e=.returned (I J (mY bh.id i x.fols))∧aa ag w0 w'∧aa ag W w'):=λW hW i=>(mK ((hS.nix hf0).nix hW) hsm i).mono λe w' q=>⟨q.1,hW.trans q.2,q.2⟩
 have HS:=h_ (hS.nix hf0);have HB:=h_ hb0;have bI:=h_ hf0;have HW:=h_ hw0;clear hS hsm hw0 hf0 hb0;unfold cC;obtain⟨A,c⟩:=fo;dsimp only at x1 x2 x3 x4 ⊢ KF
 cases tN:bl bh.id i0 x.fols with
 | false=>
   have hp:=bZ tN;have OE:=h_ (KF.out w0 (fR w0) i0);rw[hp] at OE;have HD:Hid (gv x i0=0):=by unfold Hid gv;rw[tN];rfl
   go_enter Tryz.func73,Tryz.ntmps73;go_wp2_with (go_at_call 72;rw[←HW.out];refine OE.out.mono ?_;rintro e w1 ⟨rfl,hf,-⟩;have Z1:=h_ hf;clear hf);go_ret
   exact⟨by rw[HD.out]<;>rfl,bI.out.trans Z1.out⟩
 | true=>
   obtain⟨p,hpl,hp,-⟩:=cj tN;have OE:=h_ (KF.out w0 (fR w0) i0);rw[hp] at OE;have qI:¬(p:Int)<0:=by omega
   have HD:Hid (gv x i0=kJ x.fols 7 0 i0):=by unfold Hid gv;rw[tN];rfl
   have MH:Hid (kJ x.fols 7 0 i0=gv x i0):=HD.out.symm;clear HD;generalize gv x i0=D at *;go_enter Tryz.func73,Tryz.ntmps73;go_wp2_with (go_at_call 72;rw[←HW.out];refine OE.out.mono ?_;rintro e w1 ⟨rfl,hf,-⟩;have Z1:=h_ hf;clear hf)
   go_loopw [1,5] (λiv nv wr=>∃(i:Int) (m:Nat),iv=I J i∧nv=I J m∧m≤7∧kJ x.fols (7-m) m i=D∧aa ag w0 wr) (λ_ nv _=>7-(intOf nv).toNat)
   case atStart=>exact⟨i0,0,rfl,rfl,by omega,MH.out,Z1.out⟩
   case round=>
    obtain⟨i,m,rfl,rfl,hm,hd,hf⟩:=hrel;have PM:=h_ hd;have HF:=h_ hf;clear hd hf x0 x1 x2 x3 x4 x5 x6 x7 x8;obtain⟨y0,y1,y2,y3,y4,y5,y6,y7,y8⟩:=aA (HB.out.frm HF.out id);have OG:=h_ (KF.out wr HF.out i)
    by_cases h0:i=0
    ·subst h0
     have HE:Hid (D=m):=by have:=PM.out;rw[J8] at this;exact this.symm
     go_wp2;go_ret;exact⟨by rw[HE.out]<;>rfl,bI.out.trans HF.out⟩
    cases I5:bl bh.id i x.fols with
    | false=>
      have HE:Hid (D=8):=by have:=PM.out;rw[Ij h0 I5] at this;exact this.symm
      rw[bZ I5] at OG;go_wp2_with (go_at_call 72;refine OG.out.mono ?_;rintro e w2 ⟨rfl,hf,-⟩;have Z2:=h_ hf;clear hf);go_ret
      exact⟨by rw[HE.out]<;>rfl,bI.out.trans Z2.out⟩
    | true=>
      obtain⟨q,E4,hq,-,hat,-⟩:=cj I5;rw[hq] at OG;have Lz:¬(q:Int)<0:=by omega
      by_cases h7:m=7
      ·subst h7
       have HE:Hid (D=8):=by have:=PM.out;rw[show 7-7=0 from rfl,Fy h0] at this;exact this.symm
       go_wp2_with (go_at_call 72;refine OG.out.mono ?_;rintro e w2 ⟨rfl,hf,-⟩;have Z2:=h_ hf;clear hf);go_ret;exact⟨by rw[HE.out]<;>rfl,bI.out.trans Z2.out⟩
      ·have Qv:¬(m:Int)=7:=by omega
       have Vp:((m:Int)==7)=false:=by simp;omega
       have HE:Hid (kJ x.fols (7-(m+1)) (m+1) (x.fols[q]'E4).inn=D):=by
        have:=PM.out;rw[show 7-m=(7-(m+1))+1 by omega,Ik h0 hat] at this;exact this
       obtain⟨b,off,hA,-,hbl,hcell⟩:=(HS.out.fols.nix HF.out).at_ bh.clen (by decide) (by omega);dsimp only at hA;subst hA;obtain⟨f,uJ⟩:∃f,x.fols[q]'E4=f:=⟨_,rfl⟩;have hc:=hcell q E4;rw[uJ] at hc HE;have HC:Hid (∀W,aa ag wr W→W.cell? ⟨b,off+q * 3+1,none⟩=some (I J f.inn)):=λW hW=>(hW.cell (p:=⟨b,off+q * 3+1,none⟩) hbl id).trans (hc 1 _ rfl)
       clear hcell hc uJ hq hat;have Uf:Hid (Calls pQ 72 #[.agg #[I J x.clock,U (some ⟨b,off,none⟩) x.fols.length c,U fe.1 x.fees.length fe.2,U it.1 x.itms.length it.2,U se.1 x.seas.length se.2,I J x.tFol,I J x.tFee,I J x.tItm,I J x.tSea],I J i] wr λe w'=>e=.returned (I J q)∧aa ag w0 w'∧w'.cell? ⟨b,off+q * 3+1,none⟩=some (I J f.inn)):=OG.out.mono λe w' h=>⟨h.1,h.2.1,HC.out _ h.2.2⟩
       go_wp2_with (go_at_call 72;refine Uf.out.mono ?_;rintro e w2 ⟨rfl,hf,PN⟩;have Z2:=h_ hf;have z1:=(HB.out.frm hf id).cell 1;simp at z1;clear hf);go_roundw
       case rel=>exact⟨f.inn,m+1,rfl,by go_num,by omega,HE.out,Z2.out⟩
       case measure=>simp[intOf];omega
structure bD(w wc:World)(b1 b2:Nat)(fo fe it se:Sl)(ts:List (Sl×aR))(x:St)(G:Nat→Prop)(e:Ev):Prop where
 st:aY wc G fo fe it se ts x
 small:aP x
 frm:aa ag w wc
 b1:aj wc b1 36 #[I J x.clock,U fo.1 x.fols.length fo.2,U fe.1 x.fees.length fe.2,U it.1 x.itms.length it.2,U se.1 x.seas.length se.2,I J x.tFol,I J x.tFee,I J x.tItm,I J x.tSea]
 b2:aj wc b2 42 #[I J e.kind,I J e.a,I J e.b,I J e.n,V e.s,V e.t,V e.u]
theorem bD.nix{w wc w1:World}{e:Ev}(h:bD w wc b1 b2 fo fe it se ts x G e)(hf:aa ag wc w1):bD w w1 b1 b2 fo fe it se ts x G e:=
 ⟨h.st.nix hf,h.small,h.frm.trans hf,h.b1.frm hf id,h.b2.frm hf id⟩
def bS(b1 b2:Nat)(c:Bool)(v:Nat→Value):Act:=⟨#[v 0,v 1,O (some ⟨b1,0,none⟩),O (some ⟨b2,0,none⟩),v 4,.bool c,v 6,v 7,v 8,v 9,v 10,v 11,v 12,v 13,v 14,v 15,v 16,v 17,v 18,v 19,v 20,v 21,v 22,v 23,v 24,v 25,v 26,v 27,v 28,v 29,v 30,v 31,v 32,v 33,v 34,v 35,v 36,v 37,v 38,v 39,v 40,v 41,v 42,v 43,v 44,v 45,v 46,v 47,v 48,v 49,v 50,v 51,v 52,v 53,v 54,v 55,v 56,v 57,v 58,v 59,v 60,v 61,v 62,v 63,v 64,v 65,v 66,v 67,v 68,v 69,v 70,v 71,v 72,v 73,v 74,v 75,v 76,v 77,v 78,v 79,v 80,v 81,v 82,v 83,v 84,v 85,v 86,v 87,v 88,v 89,v 90,v 91,v 92,v 93,v 94,v 95,v 96,v 97,v 98,v 99,v 100,v 101,v 102,v 103,v 104,v 105,v 106,v 107,v 108,v 109,v 110,v 111,v 112,v 113,v 114,v 115,v 116,v 117,v 118,v 119,v 120,v 121,v 122,v 123,v 124,v 125,v 126,v 127,v 128,v 129,v 130,v 131,v 132,v 133,v 134,v 135,v 136,v 137,v 138,v 139,v 140,v 141,v 142,v 143,v 144,v 145,v 146,v 147,v 148,v 149,v 150,v 151,v 152,v 153,v 154,v 155,v 156,v 157,v 158,v 159,v 160,v 161,v 162,v 163,v 164,v 165,v 166,v 167,v 168,v 169,v 170,v 171,v 172,v 173,v 174,v 175,v 176,v 177,v 178,v 179,v 180,v 181,v 182,v 183,v 184,v 185,v 186,v 187,v 188,v 189,v 190,v 191,v 192,v 193,v 194,v 195,v 196,v 197,v 198,v 199,v 200,v 201,v 202,v 203],[]⟩
theorem OH{a b n:Int}(h:bD w wc b1 b2 fo fe it se ts x G ⟨1,a,b,n,s,t,u⟩)(ho:aM ⟨1,a,b,n,s,t,u⟩=true):
  Code.wp pQ (ai 3 (ae Tryz.f30)) (bodyPost pQ Tryz.f30 λe w'=>e=.returned (.bool (aG x ⟨1,a,b,n,s,t,u⟩))∧aa ag w w') (bS b1 b2 (nL x b) v) wc:=by
 unfold bS
 have HE:Hid (aG x ⟨1,a,b,n,s,t,u⟩=((!bl bh.id a x.fols)&&((decide (x.fols.length<64))&&((nL x b)&&((decide (gv x b<7))&&((!nK x b s))))))):=by
  unfold Hid aG;rw[ho];simp[Bool.and_assoc]
 have bE:=h_ h;obtain⟨x0,x1,x2,x3,x4,x5,x6,x7,x8⟩:=aA (bE.out.b1);obtain⟨e0,e1,e2,e3,e4,e5,e6⟩:=az (bE.out.b2);have K0:Hid (∀W,bD w W b1 b2 fo fe it se ts x G ⟨1,a,b,n,s,t,u⟩→Calls pQ 72 #[cC fo fe it se x,I J a] W λe w'=>e=.returned (I J (mY bh.id a x.fols))∧bD w w' b1 b2 fo fe it se ts x G ⟨1,a,b,n,s,t,u⟩):=λW hW=>(mK hW.st hW.small a).mono λe w' q=>⟨q.1,hW.nix q.2⟩
 have K3:Hid (∀W,bD w W b1 b2 fo fe it se ts x G ⟨1,a,b,n,s,t,u⟩→Calls pQ 73 #[cC fo fe it se x,I J b] W λe w'=>e=.returned (I J (gv x b))∧bD w w' b1 b2 fo fe it se ts x G ⟨1,a,b,n,s,t,u⟩):=λW hW=>(Fz hW.st hW.small b).mono λe w' q=>⟨q.1,hW.nix q.2⟩
 have K4:Hid (∀W,bD w W b1 b2 fo fe it se ts x G ⟨1,a,b,n,s,t,u⟩→Calls pQ 74 #[cC fo fe it se x,I J b,V s] W λe w'=>e=.returned (.bool (nK x b s))∧bD w w' b1 b2 fo fe it se ts x G ⟨1,a,b,n,s,t,u⟩):=λW hW=>(Dl hW.st hW.small b s).mono λe w' q=>⟨q.1,hW.nix q.2⟩
 clear h ho;simp only[ai,ae,Tryz.f30]
 cases hc0:bl bh.id a x.fols with
 | true=>
   obtain⟨p0,-,qI,-⟩:=cj hc0;rw[qI] at K0;have pT:¬(p0:Int)<0:=by omega
   have hm0:(0:Int)≤(p0:Int):=by omega
   rw[hc0] at HE;clear qI hc0;go_wp2_with (go_at_call 72;refine(K0.out _ bE.out).mono ?_;rintro e w1 ⟨rfl,hr⟩;have bo:=h_ hr;clear x0 x1 x2 x3 x4 x5 x6 x7 x8 e0 e1 e2 e3 e4 e5 e6;obtain⟨x0,x1,x2,x3,x4,x5,x6,x7,x8⟩:=aA (bo.out.b1);obtain⟨e0,e1,e2,e3,e4,e5,e6⟩:=az (bo.out.b2);clear hr);go_ret
   exact⟨af (by rw[HE.out]<;>first|(simp;done)|(simp;omega)),bo.out.frm⟩
 | false=>
   rw[bZ hc0] at K0;rw[hc0] at HE;clear hc0
   by_cases hc1:x.fols.length<64
   ·have wJ:(x.fols.length:Int)<64:=by omega
    rw[decide_eq_true hc1] at HE
    cases hc2:nL x b with
    | true=>
      rw[hc2] at HE
      try rw[hc2] at K2
      by_cases hc3:gv x b<7
      ·have Il:((gv x b:Nat):Int)<7:=by omega
       rw[decide_eq_true hc3] at HE
       cases hc4:nK x b s with
       | true=>
         rw[hc4] at HE K4
         go_wp2_with (first
           | (go_at_call 74;have _q:=gF;refine(K4.out _ gF.out).mono ?_;rintro e w3 ⟨rfl,hr⟩;have nG:=h_ hr;clear x0 x1 x2 x3 x4 x5 x6 x7 x8 e0 e1 e2 e3 e4 e5 e6;obtain⟨x0,x1,x2,x3,x4,x5,x6,x7,x8⟩:=aA (nG.out.b1);obtain⟨e0,e1,e2,e3,e4,e5,e6⟩:=az (nG.out.b2);clear hr)
           | (go_at_call 73;have _q:=bo;refine(K3.out _ bo.out).mono ?_;rintro e w2 ⟨rfl,hr⟩;have gF:=h_ hr;clear x0 x1 x2 x3 x4 x5 x6 x7 x8 e0 e1 e2 e3 e4 e5 e6;obtain⟨x0,x1,x2,x3,x4,x5,x6,x7,x8⟩:=aA (gF.out.b1);obtain⟨e0,e1,e2,e3,e4,e5,e6⟩:=az (gF.out.b2);clear hr)
           | (go_at_call 72;refine(K0.out _ bE.out).mono ?_;rintro e w1 ⟨rfl,hr⟩;have bo:=h_ hr;clear x0 x1 x2 x3 x4 x5 x6 x7 x8 e0 e1 e2 e3 e4 e5 e6;obtain⟨x0,x1,x2,x3,x4,x5,x6,x7,x8⟩:=aA (bo.out.b1);obtain⟨e0,e1,e2,e3,e4,e5,e6⟩:=az (bo.out.b2);clear hr))
         go_ret
         exact⟨af (by rw[HE.out]<;>first|(simp;done)|(simp;omega)),nG.out.frm⟩
       | false=>
         rw[hc4] at HE K4
         go_wp2_with (first
           | (go_at_call 74;have _q:=gF;refine(K4.out _ gF.out).mono ?_;rintro e w3 ⟨rfl,hr⟩;have nG:=h_ hr;clear x0 x1 x2 x3 x4 x5 x6 x7 x8 e0 e1 e2 e3 e4 e5 e6;obtain⟨x0,x1,x2,x3,x4,x5,x6,x7,x8⟩:=aA (nG.out.b1);obtain⟨e0,e1,e2,e3,e4,e5,e6⟩:=az (nG.out.b2);clear hr)
           | (go_at_call 73;have _q:=bo;refine(K3.out _ bo.out).mono ?_;rintro e w2 ⟨rfl,hr⟩;have gF:=h_ hr;clear x0 x1 x2 x3 x4 x5 x6 x7 x8 e0 e1 e2 e3 e4 e5 e6;obtain⟨x0,x1,x2,x3,x4,x5,x6,x7,x8⟩:=aA (gF.out.b1);obtain⟨e0,e1,e2,e3,e4,e5,e6⟩:=az (gF.out.b2);clear hr)
           | (go_at_call 72;refine(K0.out _ bE.out).mono ?_;rintro e w1 ⟨rfl,hr⟩;have bo:=h_ hr;clear x0 x1 x2 x3 x4 x5 x6 x7 x8 e0 e1 e2 e3 e4 e5 e6;obtain⟨x0,x1,x2,x3,x4,x5,x6,x7,x8⟩:=aA (bo.out.b1);obtain⟨e0,e1,e2,e3,e4,e5,e6⟩:=az (bo.out.b2);clear hr))
         go_ret;exact⟨af (by rw[HE.out]<;>first|(simp;done)|(simp;omega)),nG.out.frm⟩
      ·have Il:¬((gv x b:Nat):Int)<7:=by omega
       rw[decide_eq_false hc3] at HE
       go_wp2_with (first
         | (go_at_call 73;have _q:=bo;refine(K3.out _ bo.out).mono ?_;rintro e w2 ⟨rfl,hr⟩;have gF:=h_ hr;clear x0 x1 x2 x3 x4 x5 x6 x7 x8 e0 e1 e2 e3 e4 e5 e6;obtain⟨x0,x1,x2,x3,x4,x5,x6,x7,x8⟩:=aA (gF.out.b1);obtain⟨e0,e1,e2,e3,e4,e5,e6⟩:=az (gF.out.b2);clear hr)
         | (go_at_call 72;refine(K0.out _ bE.out).mono ?_;rintro e w1 ⟨rfl,hr⟩;have bo:=h_ hr;clear x0 x1 x2 x3 x4 x5 x6 x7 x8 e0 e1 e2 e3 e4 e5 e6;obtain⟨x0,x1,x2,x3,x4,x5,x6,x7,x8⟩:=aA (bo.out.b1);obtain⟨e0,e1,e2,e3,e4,e5,e6⟩:=az (bo.out.b2);clear hr))
       go_ret
       exact⟨af (by rw[HE.out]<;>first|(simp;done)|(simp;omega)),gF.out.frm⟩
    | false=>
      rw[hc2] at HE;go_wp2_with (go_at_call 72;refine(K0.out _ bE.out).mono ?_;rintro e w1 ⟨rfl,hr⟩;have bo:=h_ hr;clear x0 x1 x2 x3 x4 x5 x6 x7 x8 e0 e1 e2 e3 e4 e5 e6;obtain⟨x0,x1,x2,x3,x4,x5,x6,x7,x8⟩:=aA (bo.out.b1);obtain⟨e0,e1,e2,e3,e4,e5,e6⟩:=az (bo.out.b2);clear hr);go_ret;exact⟨af (by rw[HE.out]<;>first|(simp;done)|(simp;omega)),bo.out.frm⟩
   ·have wJ:¬(x.fols.length:Int)<64:=by omega
    rw[decide_eq_false hc1] at HE;go_wp2_with (go_at_call 72;refine(K0.out _ bE.out).mono ?_;rintro e w1 ⟨rfl,hr⟩;have bo:=h_ hr;clear x0 x1 x2 x3 x4 x5 x6 x7 x8 e0 e1 e2 e3 e4 e5 e6;obtain⟨x0,x1,x2,x3,x4,x5,x6,x7,x8⟩:=aA (bo.out.b1);obtain⟨e0,e1,e2,e3,e4,e5,e6⟩:=az (bo.out.b2);clear hr);go_ret;exact⟨af (by rw[HE.out]<;>first|(simp;done)|(simp;omega)),bo.out.frm⟩
theorem OI{a b n:Int}(h:bD w wc b1 b2 fo fe it se ts x G ⟨2,a,b,n,s,t,u⟩)(ho:aM ⟨2,a,b,n,s,t,u⟩=true):
  Code.wp pQ (ai 3 (ae Tryz.f30)) (bodyPost pQ Tryz.f30 λe w'=>e=.returned (.bool (aG x ⟨2,a,b,n,s,t,u⟩))∧aa ag w w') (bS b1 b2 (nL x b) v) wc:=by
 unfold bS
 have HE:Hid (aG x ⟨2,a,b,n,s,t,u⟩=((bl bh.id a x.fols)&&((kM x a)))):=by
  unfold Hid aG;rw[ho];simp[Bool.and_assoc]
 have bE:=h_ h;obtain⟨x0,x1,x2,x3,x4,x5,x6,x7,x8⟩:=aA (bE.out.b1);obtain⟨e0,e1,e2,e3,e4,e5,e6⟩:=az (bE.out.b2);have K0:Hid (∀W,bD w W b1 b2 fo fe it se ts x G ⟨2,a,b,n,s,t,u⟩→Calls pQ 72 #[cC fo fe it se x,I J a] W λe w'=>e=.returned (I J (mY bh.id a x.fols))∧bD w w' b1 b2 fo fe it se ts x G ⟨2,a,b,n,s,t,u⟩):=λW hW=>(mK hW.st hW.small a).mono λe w' q=>⟨q.1,hW.nix q.2⟩
 have K1:Hid (∀W,bD w W b1 b2 fo fe it se ts x G ⟨2,a,b,n,s,t,u⟩→Calls pQ 75 #[cC fo fe it se x,I J a] W λe w'=>e=.returned (.bool (kM x a))∧bD w w' b1 b2 fo fe it se ts x G ⟨2,a,b,n,s,t,u⟩):=λW hW=>(Dm hW.st hW.small a).mono λe w' q=>⟨q.1,hW.nix q.2⟩
 clear h ho;simp only[ai,ae,Tryz.f30]
 cases hc0:bl bh.id a x.fols with
 | true=>
   obtain⟨p0,-,qI,-⟩:=cj hc0;rw[qI] at K0;have pT:¬(p0:Int)<0:=by omega
   have hm0:(0:Int)≤(p0:Int):=by omega
   rw[hc0] at HE;clear qI hc0
   cases hc1:kM x a with
   | true=>
     rw[hc1] at HE K1
     go_wp2_with (first
       | (go_at_call 75;have _q:=bo;refine(K1.out _ bo.out).mono ?_;rintro e w2 ⟨rfl,hr⟩;have gF:=h_ hr;clear x0 x1 x2 x3 x4 x5 x6 x7 x8 e0 e1 e2 e3 e4 e5 e6;obtain⟨x0,x1,x2,x3,x4,x5,x6,x7,x8⟩:=aA (gF.out.b1);obtain⟨e0,e1,e2,e3,e4,e5,e6⟩:=az (gF.out.b2);clear hr)
       | (go_at_call 72;refine(K0.out _ bE.out).mono ?_;rintro e w1 ⟨rfl,hr⟩;have bo:=h_ hr;clear x0 x1 x2 x3 x4 x5 x6 x7 x8 e0 e1 e2 e3 e4 e5 e6;obtain⟨x0,x1,x2,x3,x4,x5,x6,x7,x8⟩:=aA (bo.out.b1);obtain⟨e0,e1,e2,e3,e4,e5,e6⟩:=az (bo.out.b2);clear hr))
     go_ret
     exact⟨af (by rw[HE.out]<;>first|(simp;done)|(simp;omega)),gF.out.frm⟩
   | false=>
     rw[hc1] at HE K1
     go_wp2_with (first
       | (go_at_call 75;have _q:=bo;refine(K1.out _ bo.out).mono ?_;rintro e w2 ⟨rfl,hr⟩;have gF:=h_ hr;clear x0 x1 x2 x3 x4 x5 x6 x7 x8 e0 e1 e2 e3 e4 e5 e6;obtain⟨x0,x1,x2,x3,x4,x5,x6,x7,x8⟩:=aA (gF.out.b1);obtain⟨e0,e1,e2,e3,e4,e5,e6⟩:=az (gF.out.b2);clear hr)
       | (go_at_call 72;refine(K0.out _ bE.out).mono ?_;rintro e w1 ⟨rfl,hr⟩;have bo:=h_ hr;clear x0 x1 x2 x3 x4 x5 x6 x7 x8 e0 e1 e2 e3 e4 e5 e6;obtain⟨x0,x1,x2,x3,x4,x5,x6,x7,x8⟩:=aA (bo.out.b1);obtain⟨e0,e1,e2,e3,e4,e5,e6⟩:=az (bo.out.b2);clear hr))
     go_ret
     exact⟨af (by rw[HE.out]<;>first|(simp;done)|(simp;omega)),gF.out.frm⟩
 | false=>
   rw[bZ hc0] at K0;rw[hc0] at HE;clear hc0;go_wp2_with (go_at_call 72;refine(K0.out _ bE.out).mono ?_;rintro e w1 ⟨rfl,hr⟩;have bo:=h_ hr;clear x0 x1 x2 x3 x4 x5 x6 x7 x8 e0 e1 e2 e3 e4 e5 e6;obtain⟨x0,x1,x2,x3,x4,x5,x6,x7,x8⟩:=aA (bo.out.b1);obtain⟨e0,e1,e2,e3,e4,e5,e6⟩:=az (bo.out.b2);clear hr);go_ret;exact⟨af (by rw[HE.out]<;>first|(simp;done)|(simp;omega)),bo.out.frm⟩
theorem OJ{a b n:Int}(h:bD w wc b1 b2 fo fe it se ts x G ⟨3,a,b,n,s,t,u⟩)(ho:aM ⟨3,a,b,n,s,t,u⟩=true):
  Code.wp pQ (ai 3 (ae Tryz.f30)) (bodyPost pQ Tryz.f30 λe w'=>e=.returned (.bool (aG x ⟨3,a,b,n,s,t,u⟩))∧aa ag w w') (bS b1 b2 (nL x b) v) wc:=by
 unfold bS
 have HE:Hid (aG x ⟨3,a,b,n,s,t,u⟩=((!bl aX.id a x.fees)&&((decide (x.fees.length<64))&&((nL x b)&&((decide (dX x s=0))))))):=by
  unfold Hid aG;rw[ho];simp[Bool.and_assoc]
 have bE:=h_ h;obtain⟨x0,x1,x2,x3,x4,x5,x6,x7,x8⟩:=aA (bE.out.b1);obtain⟨e0,e1,e2,e3,e4,e5,e6⟩:=az (bE.out.b2);have K0:Hid (∀W,bD w W b1 b2 fo fe it se ts x G ⟨3,a,b,n,s,t,u⟩→Calls pQ 33 #[cC fo fe it se x,I J a] W λe w'=>e=.returned (I J (mY aX.id a x.fees))∧bD w w' b1 b2 fo fe it se ts x G ⟨3,a,b,n,s,t,u⟩):=λW hW=>(lB hW.st hW.small a).mono λe w' q=>⟨q.1,hW.nix q.2⟩
 have K3:Hid (∀W,bD w W b1 b2 fo fe it se ts x G ⟨3,a,b,n,s,t,u⟩→Calls pQ 76 #[cC fo fe it se x,V s] W λe w'=>e=.returned (I J (dX x s))∧bD w w' b1 b2 fo fe it se ts x G ⟨3,a,b,n,s,t,u⟩):=λW hW=>(Dk hW.st hW.small s).mono λe w' q=>⟨q.1,hW.nix q.2⟩
 clear h ho;simp only[ai,ae,Tryz.f30]
 cases hc0:bl aX.id a x.fees with
 | true=>
   obtain⟨p0,-,qI,-⟩:=cj hc0;rw[qI] at K0;have pT:¬(p0:Int)<0:=by omega
   have hm0:(0:Int)≤(p0:Int):=by omega
   rw[hc0] at HE;clear qI hc0;go_wp2_with (go_at_call 33;refine(K0.out _ bE.out).mono ?_;rintro e w1 ⟨rfl,hr⟩;have bo:=h_ hr;clear x0 x1 x2 x3 x4 x5 x6 x7 x8 e0 e1 e2 e3 e4 e5 e6;obtain⟨x0,x1,x2,x3,x4,x5,x6,x7,x8⟩:=aA (bo.out.b1);obtain⟨e0,e1,e2,e3,e4,e5,e6⟩:=az (bo.out.b2);clear hr);go_ret
   exact⟨af (by rw[HE.out]<;>first|(simp;done)|(simp;omega)),bo.out.frm⟩
 | false=>
   rw[bZ hc0] at K0;rw[hc0] at HE;clear hc0
   by_cases hc1:x.fees.length<64
   ·have wJ:(x.fees.length:Int)<64:=by omega
    rw[decide_eq_true hc1] at HE
    cases hc2:nL x b with
    | true=>
      rw[hc2] at HE
      try rw[hc2] at K2
      by_cases hc3:dX x s=0
      ·have Il:dX x s=0:=by assumption
       rw[decide_eq_true hc3] at HE;have hb3:(dX x s==0)=true:=by rw[hc3];rfl
       go_wp2_with (first
         | (go_at_call 76;have _q:=bo;refine(K3.out _ bo.out).mono ?_;rintro e w2 ⟨rfl,hr⟩;have gF:=h_ hr;clear x0 x1 x2 x3 x4 x5 x6 x7 x8 e0 e1 e2 e3 e4 e5 e6;obtain⟨x0,x1,x2,x3,x4,x5,x6,x7,x8⟩:=aA (gF.out.b1);obtain⟨e0,e1,e2,e3,e4,e5,e6⟩:=az (gF.out.b2);clear hr)
         | (go_at_call 33;refine(K0.out _ bE.out).mono ?_;rintro e w1 ⟨rfl,hr⟩;have bo:=h_ hr;clear x0 x1 x2 x3 x4 x5 x6 x7 x8 e0 e1 e2 e3 e4 e5 e6;obtain⟨x0,x1,x2,x3,x4,x5,x6,x7,x8⟩:=aA (bo.out.b1);obtain⟨e0,e1,e2,e3,e4,e5,e6⟩:=az (bo.out.b2);clear hr))
       go_ret;exact⟨af (by rw[HE.out]<;>first|(simp;done)|(simp;omega)),gF.out.frm⟩
      ·have Il:¬dX x s=0:=by assumption
       rw[decide_eq_false hc3] at HE;have hb3:(dX x s==0)=false:=by simp[hc3]
       go_wp2_with (first
         | (go_at_call 76;have _q:=bo;refine(K3.out _ bo.out).mono ?_;rintro e w2 ⟨rfl,hr⟩;have gF:=h_ hr;clear x0 x1 x2 x3 x4 x5 x6 x7 x8 e0 e1 e2 e3 e4 e5 e6;obtain⟨x0,x1,x2,x3,x4,x5,x6,x7,x8⟩:=aA (gF.out.b1);obtain⟨e0,e1,e2,e3,e4,e5,e6⟩:=az (gF.out.b2);clear hr)
         | (go_at_call 33;refine(K0.out _ bE.out).mono ?_;rintro e w1 ⟨rfl,hr⟩;have bo:=h_ hr;clear x0 x1 x2 x3 x4 x5 x6 x7 x8 e0 e1 e2 e3 e4 e5 e6;obtain⟨x0,x1,x2,x3,x4,x5,x6,x7,x8⟩:=aA (bo.out.b1);obtain⟨e0,e1,e2,e3,e4,e5,e6⟩:=az (bo.out.b2);clear hr))
       go_ret
       exact⟨af (by rw[HE.out]<;>first|(simp;done)|(simp;omega)),gF.out.frm⟩
    | false=>
      rw[hc2] at HE;go_wp2_with (go_at_call 33;refine(K0.out _ bE.out).mono ?_;rintro e w1 ⟨rfl,hr⟩;have bo:=h_ hr;clear x0 x1 x2 x3 x4 x5 x6 x7 x8 e0 e1 e2 e3 e4 e5 e6;obtain⟨x0,x1,x2,x3,x4,x5,x6,x7,x8⟩:=aA (bo.out.b1);obtain⟨e0,e1,e2,e3,e4,e5,e6⟩:=az (bo.out.b2);clear hr);go_ret;exact⟨af (by rw[HE.out]<;>first|(simp;done)|(simp;omega)),bo.out.frm⟩
   ·have wJ:¬(x.fees.length:Int)<64:=by omega
    rw[decide_eq_false hc1] at HE;go_wp2_with (go_at_call 33;refine(K0.out _ bE.out).mono ?_;rintro e w1 ⟨rfl,hr⟩;have bo:=h_ hr;clear x0 x1 x2 x3 x4 x5 x6 x7 x8 e0 e1 e2 e3 e4 e5 e6;obtain⟨x0,x1,x2,x3,x4,x5,x6,x7,x8⟩:=aA (bo.out.b1);obtain⟨e0,e1,e2,e3,e4,e5,e6⟩:=az (bo.out.b2);clear hr);go_ret;exact⟨af (by rw[HE.out]<;>first|(simp;done)|(simp;omega)),bo.out.frm⟩
theorem OL{a b n:Int}(h:bD w wc b1 b2 fo fe it se ts x G ⟨4,a,b,n,s,t,u⟩)(ho:aM ⟨4,a,b,n,s,t,u⟩=true):
  Code.wp pQ (ai 3 (ae Tryz.f30)) (bodyPost pQ Tryz.f30 λe w'=>e=.returned (.bool (aG x ⟨4,a,b,n,s,t,u⟩))∧aa ag w w') (bS b1 b2 (nL x b) v) wc:=by
 unfold bS
 have HE:Hid (aG x ⟨4,a,b,n,s,t,u⟩=((bl aX.id a x.fees))):=by
  unfold Hid aG;rw[ho];simp[Bool.and_assoc]
 have bE:=h_ h;obtain⟨x0,x1,x2,x3,x4,x5,x6,x7,x8⟩:=aA (bE.out.b1);obtain⟨e0,e1,e2,e3,e4,e5,e6⟩:=az (bE.out.b2);have K0:Hid (∀W,bD w W b1 b2 fo fe it se ts x G ⟨4,a,b,n,s,t,u⟩→Calls pQ 33 #[cC fo fe it se x,I J a] W λe w'=>e=.returned (I J (mY aX.id a x.fees))∧bD w w' b1 b2 fo fe it se ts x G ⟨4,a,b,n,s,t,u⟩):=λW hW=>(lB hW.st hW.small a).mono λe w' q=>⟨q.1,hW.nix q.2⟩
 clear h ho;simp only[ai,ae,Tryz.f30]
 cases hc0:bl aX.id a x.fees with
 | true=>
   obtain⟨p0,-,qI,-⟩:=cj hc0;rw[qI] at K0;have pT:¬(p0:Int)<0:=by omega
   have hm0:(0:Int)≤(p0:Int):=by omega
   rw[hc0] at HE;clear qI hc0;go_wp2_with (go_at_call 33;refine(K0.out _ bE.out).mono ?_;rintro e w1 ⟨rfl,hr⟩;have bo:=h_ hr;clear x0 x1 x2 x3 x4 x5 x6 x7 x8 e0 e1 e2 e3 e4 e5 e6;obtain⟨x0,x1,x2,x3,x4,x5,x6,x7,x8⟩:=aA (bo.out.b1);obtain⟨e0,e1,e2,e3,e4,e5,e6⟩:=az (bo.out.b2);clear hr);go_ret
   exact⟨af (by rw[HE.out]<;>first|(simp;done)|(simp;omega)),bo.out.frm⟩
 | false=>
   rw[bZ hc0] at K0;rw[hc0] at HE;clear hc0;go_wp2_with (go_at_call 33;refine(K0.out _ bE.out).mono ?_;rintro e w1 ⟨rfl,hr⟩;have bo:=h_ hr;clear x0 x1 x2 x3 x4 x5 x6 x7 x8 e0 e1 e2 e3 e4 e5 e6;obtain⟨x0,x1,x2,x3,x4,x5,x6,x7,x8⟩:=aA (bo.out.b1);obtain⟨e0,e1,e2,e3,e4,e5,e6⟩:=az (bo.out.b2);clear hr);go_ret;exact⟨af (by rw[HE.out]<;>first|(simp;done)|(simp;omega)),bo.out.frm⟩
theorem OM{a b n:Int}(h:bD w wc b1 b2 fo fe it se ts x G ⟨5,a,b,n,s,t,u⟩)(ho:aM ⟨5,a,b,n,s,t,u⟩=true):
  Code.wp pQ (ai 3 (ae Tryz.f30)) (bodyPost pQ Tryz.f30 λe w'=>e=.returned (.bool (aG x ⟨5,a,b,n,s,t,u⟩))∧aa ag w w') (bS b1 b2 (nL x b) v) wc:=by
 unfold bS
 have HE:Hid (aG x ⟨5,a,b,n,s,t,u⟩=((bl aX.id a x.fees))):=by
  unfold Hid aG;rw[ho];simp[Bool.and_assoc]
 have bE:=h_ h;obtain⟨x0,x1,x2,x3,x4,x5,x6,x7,x8⟩:=aA (bE.out.b1);obtain⟨e0,e1,e2,e3,e4,e5,e6⟩:=az (bE.out.b2);have K0:Hid (∀W,bD w W b1 b2 fo fe it se ts x G ⟨5,a,b,n,s,t,u⟩→Calls pQ 33 #[cC fo fe it se x,I J a] W λe w'=>e=.returned (I J (mY aX.id a x.fees))∧bD w w' b1 b2 fo fe it se ts x G ⟨5,a,b,n,s,t,u⟩):=λW hW=>(lB hW.st hW.small a).mono λe w' q=>⟨q.1,hW.nix q.2⟩
 clear h ho;simp only[ai,ae,Tryz.f30]
 cases hc0:bl aX.id a x.fees with
 | true=>
   obtain⟨p0,-,qI,-⟩:=cj hc0;rw[qI] at K0;have pT:¬(p0:Int)<0:=by omega
   have hm0:(0:Int)≤(p0:Int):=by omega
   rw[hc0] at HE;clear qI hc0;go_wp2_with (go_at_call 33;refine(K0.out _ bE.out).mono ?_;rintro e w1 ⟨rfl,hr⟩;have bo:=h_ hr;clear x0 x1 x2 x3 x4 x5 x6 x7 x8 e0 e1 e2 e3 e4 e5 e6;obtain⟨x0,x1,x2,x3,x4,x5,x6,x7,x8⟩:=aA (bo.out.b1);obtain⟨e0,e1,e2,e3,e4,e5,e6⟩:=az (bo.out.b2);clear hr);go_ret
   exact⟨af (by rw[HE.out]<;>first|(simp;done)|(simp;omega)),bo.out.frm⟩
 | false=>
   rw[bZ hc0] at K0;rw[hc0] at HE;clear hc0;go_wp2_with (go_at_call 33;refine(K0.out _ bE.out).mono ?_;rintro e w1 ⟨rfl,hr⟩;have bo:=h_ hr;clear x0 x1 x2 x3 x4 x5 x6 x7 x8 e0 e1 e2 e3 e4 e5 e6;obtain⟨x0,x1,x2,x3,x4,x5,x6,x7,x8⟩:=aA (bo.out.b1);obtain⟨e0,e1,e2,e3,e4,e5,e6⟩:=az (bo.out.b2);clear hr);go_ret;exact⟨af (by rw[HE.out]<;>first|(simp;done)|(simp;omega)),bo.out.frm⟩
theorem OO{a b n:Int}(h:bD w wc b1 b2 fo fe it se ts x G ⟨6,a,b,n,s,t,u⟩)(ho:aM ⟨6,a,b,n,s,t,u⟩=true):
  Code.wp pQ (ai 3 (ae Tryz.f30)) (bodyPost pQ Tryz.f30 λe w'=>e=.returned (.bool (aG x ⟨6,a,b,n,s,t,u⟩))∧aa ag w w') (bS b1 b2 (nL x b) v) wc:=by
 unfold bS
 have HE:Hid (aG x ⟨6,a,b,n,s,t,u⟩=((bl aX.id a x.fees)&&((nL x b)))):=by
  unfold Hid aG;rw[ho];simp[Bool.and_assoc]
 have bE:=h_ h;obtain⟨x0,x1,x2,x3,x4,x5,x6,x7,x8⟩:=aA (bE.out.b1);obtain⟨e0,e1,e2,e3,e4,e5,e6⟩:=az (bE.out.b2);have K0:Hid (∀W,bD w W b1 b2 fo fe it se ts x G ⟨6,a,b,n,s,t,u⟩→Calls pQ 33 #[cC fo fe it se x,I J a] W λe w'=>e=.returned (I J (mY aX.id a x.fees))∧bD w w' b1 b2 fo fe it se ts x G ⟨6,a,b,n,s,t,u⟩):=λW hW=>(lB hW.st hW.small a).mono λe w' q=>⟨q.1,hW.nix q.2⟩
 clear h ho;simp only[ai,ae,Tryz.f30]
 cases hc0:bl aX.id a x.fees with
 | true=>
   obtain⟨p0,-,qI,-⟩:=cj hc0;rw[qI] at K0;have pT:¬(p0:Int)<0:=by omega
   have hm0:(0:Int)≤(p0:Int):=by omega
   rw[hc0] at HE;clear qI hc0
   cases hc1:nL x b with
   | true=>
     rw[hc1] at HE
     try rw[hc1] at K1
     go_wp2_with (go_at_call 33;refine(K0.out _ bE.out).mono ?_;rintro e w1 ⟨rfl,hr⟩;have bo:=h_ hr;clear x0 x1 x2 x3 x4 x5 x6 x7 x8 e0 e1 e2 e3 e4 e5 e6;obtain⟨x0,x1,x2,x3,x4,x5,x6,x7,x8⟩:=aA (bo.out.b1);obtain⟨e0,e1,e2,e3,e4,e5,e6⟩:=az (bo.out.b2);clear hr);go_ret
     exact⟨af (by rw[HE.out]<;>first|(simp;done)|(simp;omega)),bo.out.frm⟩
   | false=>
     rw[hc1] at HE;go_wp2_with (go_at_call 33;refine(K0.out _ bE.out).mono ?_;rintro e w1 ⟨rfl,hr⟩;have bo:=h_ hr;clear x0 x1 x2 x3 x4 x5 x6 x7 x8 e0 e1 e2 e3 e4 e5 e6;obtain⟨x0,x1,x2,x3,x4,x5,x6,x7,x8⟩:=aA (bo.out.b1);obtain⟨e0,e1,e2,e3,e4,e5,e6⟩:=az (bo.out.b2);clear hr);go_ret
     exact⟨af (by rw[HE.out]<;>first|(simp;done)|(simp;omega)),bo.out.frm⟩
 | false=>
   rw[bZ hc0] at K0;rw[hc0] at HE;clear hc0;go_wp2_with (go_at_call 33;refine(K0.out _ bE.out).mono ?_;rintro e w1 ⟨rfl,hr⟩;have bo:=h_ hr;clear x0 x1 x2 x3 x4 x5 x6 x7 x8 e0 e1 e2 e3 e4 e5 e6;obtain⟨x0,x1,x2,x3,x4,x5,x6,x7,x8⟩:=aA (bo.out.b1);obtain⟨e0,e1,e2,e3,e4,e5,e6⟩:=az (bo.out.b2);clear hr);go_ret;exact⟨af (by rw[HE.out]<;>first|(simp;done)|(simp;omega)),bo.out.frm⟩
theorem OP{a b n:Int}(h:bD w wc b1 b2 fo fe it se ts x G ⟨7,a,b,n,s,t,u⟩)(ho:aM ⟨7,a,b,n,s,t,u⟩=true):
  Code.wp pQ (ai 3 (ae Tryz.f30)) (bodyPost pQ Tryz.f30 λe w'=>e=.returned (.bool (aG x ⟨7,a,b,n,s,t,u⟩))∧aa ag w w') (bS b1 b2 (nL x b) v) wc:=by
 unfold bS
 have HE:Hid (aG x ⟨7,a,b,n,s,t,u⟩=((!bl aR.id a x.itms)&&((decide (x.itms.length<1024))&&((bl aX.id b x.fees)&&((decide (jI x b s=0))))))):=by
  unfold Hid aG;rw[ho];simp[Bool.and_assoc]
 have bE:=h_ h;obtain⟨x0,x1,x2,x3,x4,x5,x6,x7,x8⟩:=aA (bE.out.b1);obtain⟨e0,e1,e2,e3,e4,e5,e6⟩:=az (bE.out.b2);have K0:Hid (∀W,bD w W b1 b2 fo fe it se ts x G ⟨7,a,b,n,s,t,u⟩→Calls pQ 34 #[cC fo fe it se x,I J a] W λe w'=>e=.returned (I J (mY aR.id a x.itms))∧bD w w' b1 b2 fo fe it se ts x G ⟨7,a,b,n,s,t,u⟩):=λW hW=>(my hW.st hW.small a).mono λe w' q=>⟨q.1,hW.nix q.2⟩
 have K2:Hid (∀W,bD w W b1 b2 fo fe it se ts x G ⟨7,a,b,n,s,t,u⟩→Calls pQ 33 #[cC fo fe it se x,I J b] W λe w'=>e=.returned (I J (mY aX.id b x.fees))∧bD w w' b1 b2 fo fe it se ts x G ⟨7,a,b,n,s,t,u⟩):=λW hW=>(lB hW.st hW.small b).mono λe w' q=>⟨q.1,hW.nix q.2⟩
 have K3:Hid (∀W,bD w W b1 b2 fo fe it se ts x G ⟨7,a,b,n,s,t,u⟩→Calls pQ 77 #[cC fo fe it se x,I J b,V s] W λe w'=>e=.returned (I J (jI x b s))∧bD w w' b1 b2 fo fe it se ts x G ⟨7,a,b,n,s,t,u⟩):=λW hW=>(Fx hW.st hW.small b s).mono λe w' q=>⟨q.1,hW.nix q.2⟩
 clear h ho;simp only[ai,ae,Tryz.f30]
 cases hc0:bl aR.id a x.itms with
 | true=>
   obtain⟨p0,-,qI,-⟩:=cj hc0;rw[qI] at K0;have pT:¬(p0:Int)<0:=by omega
   have hm0:(0:Int)≤(p0:Int):=by omega
   rw[hc0] at HE;clear qI hc0;go_wp2_with (go_at_call 34;refine(K0.out _ bE.out).mono ?_;rintro e w1 ⟨rfl,hr⟩;have bo:=h_ hr;clear x0 x1 x2 x3 x4 x5 x6 x7 x8 e0 e1 e2 e3 e4 e5 e6;obtain⟨x0,x1,x2,x3,x4,x5,x6,x7,x8⟩:=aA (bo.out.b1);obtain⟨e0,e1,e2,e3,e4,e5,e6⟩:=az (bo.out.b2);clear hr);go_ret
   exact⟨af (by rw[HE.out]<;>first|(simp;done)|(simp;omega)),bo.out.frm⟩
 | false=>
   rw[bZ hc0] at K0;rw[hc0] at HE;clear hc0
   by_cases hc1:x.itms.length<1024
   ·have wJ:(x.itms.length:Int)<1024:=by omega
    rw[decide_eq_true hc1] at HE
    cases hc2:bl aX.id b x.fees with
    | true=>
      obtain⟨p2,-,Sr,-⟩:=cj hc2;rw[Sr] at K2;have MA:¬(p2:Int)<0:=by omega
      have Jt:(0:Int)≤(p2:Int):=by omega
      rw[hc2] at HE;clear Sr hc2
      by_cases hc3:jI x b s=0
      ·have Il:jI x b s=0:=by assumption
       rw[decide_eq_true hc3] at HE;have hb3:(jI x b s==0)=true:=by rw[hc3];rfl
       go_wp2_with (first
         | (go_at_call 77;have _q:=gF;refine(K3.out _ gF.out).mono ?_;rintro e w3 ⟨rfl,hr⟩;have nG:=h_ hr;clear x0 x1 x2 x3 x4 x5 x6 x7 x8 e0 e1 e2 e3 e4 e5 e6;obtain⟨x0,x1,x2,x3,x4,x5,x6,x7,x8⟩:=aA (nG.out.b1);obtain⟨e0,e1,e2,e3,e4,e5,e6⟩:=az (nG.out.b2);clear hr)
         | (go_at_call 33;have _q:=bo;refine(K2.out _ bo.out).mono ?_;rintro e w2 ⟨rfl,hr⟩;have gF:=h_ hr;clear x0 x1 x2 x3 x4 x5 x6 x7 x8 e0 e1 e2 e3 e4 e5 e6;obtain⟨x0,x1,x2,x3,x4,x5,x6,x7,x8⟩:=aA (gF.out.b1);obtain⟨e0,e1,e2,e3,e4,e5,e6⟩:=az (gF.out.b2);clear hr)
         | (go_at_call 34;refine(K0.out _ bE.out).mono ?_;rintro e w1 ⟨rfl,hr⟩;have bo:=h_ hr;clear x0 x1 x2 x3 x4 x5 x6 x7 x8 e0 e1 e2 e3 e4 e5 e6;obtain⟨x0,x1,x2,x3,x4,x5,x6,x7,x8⟩:=aA (bo.out.b1);obtain⟨e0,e1,e2,e3,e4,e5,e6⟩:=az (bo.out.b2);clear hr))
       go_ret;exact⟨af (by rw[HE.out]<;>first|(simp;done)|(simp;omega)),nG.out.frm⟩
      ·have Il:¬jI x b s=0:=by assumption
       rw[decide_eq_false hc3] at HE;have hb3:(jI x b s==0)=false:=by simp[hc3]
       go_wp2_with (first
         | (go_at_call 77;have _q:=gF;refine(K3.out _ gF.out).mono ?_;rintro e w3 ⟨rfl,hr⟩;have nG:=h_ hr;clear x0 x1 x2 x3 x4 x5 x6 x7 x8 e0 e1 e2 e3 e4 e5 e6;obtain⟨x0,x1,x2,x3,x4,x5,x6,x7,x8⟩:=aA (nG.out.b1);obtain⟨e0,e1,e2,e3,e4,e5,e6⟩:=az (nG.out.b2);clear hr)
         | (go_at_call 33;have _q:=bo;refine(K2.out _ bo.out).mono ?_;rintro e w2 ⟨rfl,hr⟩;have gF:=h_ hr;clear x0 x1 x2 x3 x4 x5 x6 x7 x8 e0 e1 e2 e3 e4 e5 e6;obtain⟨x0,x1,x2,x3,x4,x5,x6,x7,x8⟩:=aA (gF.out.b1);obtain⟨e0,e1,e2,e3,e4,e5,e6⟩:=az (gF.out.b2);clear hr)
         | (go_at_call 34;refine(K0.out _ bE.out).mono ?_;rintro e w1 ⟨rfl,hr⟩;have bo:=h_ hr;clear x0 x1 x2 x3 x4 x5 x6 x7 x8 e0 e1 e2 e3 e4 e5 e6;obtain⟨x0,x1,x2,x3,x4,x5,x6,x7,x8⟩:=aA (bo.out.b1);obtain⟨e0,e1,e2,e3,e4,e5,e6⟩:=az (bo.out.b2);clear hr))
       go_ret
       exact⟨af (by rw[HE.out]<;>first|(simp;done)|(simp;omega)),nG.out.frm⟩
    | false=>
      rw[bZ hc2] at K2;rw[hc2] at HE;clear hc2
      go_wp2_with (first
        | (go_at_call 33;have _q:=bo;refine(K2.out _ bo.out).mono ?_;rintro e w2 ⟨rfl,hr⟩;have gF:=h_ hr;clear x0 x1 x2 x3 x4 x5 x6 x7 x8 e0 e1 e2 e3 e4 e5 e6;obtain⟨x0,x1,x2,x3,x4,x5,x6,x7,x8⟩:=aA (gF.out.b1);obtain⟨e0,e1,e2,e3,e4,e5,e6⟩:=az (gF.out.b2);clear hr)
        | (go_at_call 34;refine(K0.out _ bE.out).mono ?_;rintro e w1 ⟨rfl,hr⟩;have bo:=h_ hr;clear x0 x1 x2 x3 x4 x5 x6 x7 x8 e0 e1 e2 e3 e4 e5 e6;obtain⟨x0,x1,x2,x3,x4,x5,x6,x7,x8⟩:=aA (bo.out.b1);obtain⟨e0,e1,e2,e3,e4,e5,e6⟩:=az (bo.out.b2);clear hr))
      go_ret;exact⟨af (by rw[HE.out]<;>first|(simp;done)|(simp;omega)),gF.out.frm⟩
   ·have wJ:¬(x.itms.length:Int)<1024:=by omega
    rw[decide_eq_false hc1] at HE;go_wp2_with (go_at_call 34;refine(K0.out _ bE.out).mono ?_;rintro e w1 ⟨rfl,hr⟩;have bo:=h_ hr;clear x0 x1 x2 x3 x4 x5 x6 x7 x8 e0 e1 e2 e3 e4 e5 e6;obtain⟨x0,x1,x2,x3,x4,x5,x6,x7,x8⟩:=aA (bo.out.b1);obtain⟨e0,e1,e2,e3,e4,e5,e6⟩:=az (bo.out.b2);clear hr);go_ret;exact⟨af (by rw[HE.out]<;>first|(simp;done)|(simp;omega)),bo.out.frm⟩
theorem OQ{a b n:Int}(h:bD w wc b1 b2 fo fe it se ts x G ⟨8,a,b,n,s,t,u⟩)(ho:aM ⟨8,a,b,n,s,t,u⟩=true):
  Code.wp pQ (ai 3 (ae Tryz.f30)) (bodyPost pQ Tryz.f30 λe w'=>e=.returned (.bool (aG x ⟨8,a,b,n,s,t,u⟩))∧aa ag w w') (bS b1 b2 (nL x b) v) wc:=by
 unfold bS
 have HE:Hid (aG x ⟨8,a,b,n,s,t,u⟩=((bl aR.id a x.itms))):=by
  unfold Hid aG;rw[ho];simp[Bool.and_assoc]
 have bE:=h_ h;obtain⟨x0,x1,x2,x3,x4,x5,x6,x7,x8⟩:=aA (bE.out.b1);obtain⟨e0,e1,e2,e3,e4,e5,e6⟩:=az (bE.out.b2);have K0:Hid (∀W,bD w W b1 b2 fo fe it se ts x G ⟨8,a,b,n,s,t,u⟩→Calls pQ 34 #[cC fo fe it se x,I J a] W λe w'=>e=.returned (I J (mY aR.id a x.itms))∧bD w w' b1 b2 fo fe it se ts x G ⟨8,a,b,n,s,t,u⟩):=λW hW=>(my hW.st hW.small a).mono λe w' q=>⟨q.1,hW.nix q.2⟩
 clear h ho;simp only[ai,ae,Tryz.f30]
 cases hc0:bl aR.id a x.itms with
 | true=>
   obtain⟨p0,-,qI,-⟩:=cj hc0;rw[qI] at K0;have pT:¬(p0:Int)<0:=by omega
   have hm0:(0:Int)≤(p0:Int):=by omega
   rw[hc0] at HE;clear qI hc0;go_wp2_with (go_at_call 34;refine(K0.out _ bE.out).mono ?_;rintro e w1 ⟨rfl,hr⟩;have bo:=h_ hr;clear x0 x1 x2 x3 x4 x5 x6 x7 x8 e0 e1 e2 e3 e4 e5 e6;obtain⟨x0,x1,x2,x3,x4,x5,x6,x7,x8⟩:=aA (bo.out.b1);obtain⟨e0,e1,e2,e3,e4,e5,e6⟩:=az (bo.out.b2);clear hr);go_ret
   exact⟨af (by rw[HE.out]<;>first|(simp;done)|(simp;omega)),bo.out.frm⟩
 | false=>
   rw[bZ hc0] at K0;rw[hc0] at HE;clear hc0;go_wp2_with (go_at_call 34;refine(K0.out _ bE.out).mono ?_;rintro e w1 ⟨rfl,hr⟩;have bo:=h_ hr;clear x0 x1 x2 x3 x4 x5 x6 x7 x8 e0 e1 e2 e3 e4 e5 e6;obtain⟨x0,x1,x2,x3,x4,x5,x6,x7,x8⟩:=aA (bo.out.b1);obtain⟨e0,e1,e2,e3,e4,e5,e6⟩:=az (bo.out.b2);clear hr);go_ret;exact⟨af (by rw[HE.out]<;>first|(simp;done)|(simp;omega)),bo.out.frm⟩
theorem OS{a b n:Int}(h:bD w wc b1 b2 fo fe it se ts x G ⟨9,a,b,n,s,t,u⟩)(ho:aM ⟨9,a,b,n,s,t,u⟩=true):
  Code.wp pQ (ai 3 (ae Tryz.f30)) (bodyPost pQ Tryz.f30 λe w'=>e=.returned (.bool (aG x ⟨9,a,b,n,s,t,u⟩))∧aa ag w w') (bS b1 b2 (nL x b) v) wc:=by
 unfold bS
 have HE:Hid (aG x ⟨9,a,b,n,s,t,u⟩=((bl aR.id a x.itms))):=by
  unfold Hid aG;rw[ho];simp[Bool.and_assoc]
 have bE:=h_ h;obtain⟨x0,x1,x2,x3,x4,x5,x6,x7,x8⟩:=aA (bE.out.b1);obtain⟨e0,e1,e2,e3,e4,e5,e6⟩:=az (bE.out.b2);have K0:Hid (∀W,bD w W b1 b2 fo fe it se ts x G ⟨9,a,b,n,s,t,u⟩→Calls pQ 34 #[cC fo fe it se x,I J a] W λe w'=>e=.returned (I J (mY aR.id a x.itms))∧bD w w' b1 b2 fo fe it se ts x G ⟨9,a,b,n,s,t,u⟩):=λW hW=>(my hW.st hW.small a).mono λe w' q=>⟨q.1,hW.nix q.2⟩
 clear h ho;simp only[ai,ae,Tryz.f30]
 cases hc0:bl aR.id a x.itms with
 | true=>
   obtain⟨p0,-,qI,-⟩:=cj hc0;rw[qI] at K0;have pT:¬(p0:Int)<0:=by omega
   have hm0:(0:Int)≤(p0:Int):=by omega
   rw[hc0] at HE;clear qI hc0;go_wp2_with (go_at_call 34;refine(K0.out _ bE.out).mono ?_;rintro e w1 ⟨rfl,hr⟩;have bo:=h_ hr;clear x0 x1 x2 x3 x4 x5 x6 x7 x8 e0 e1 e2 e3 e4 e5 e6;obtain⟨x0,x1,x2,x3,x4,x5,x6,x7,x8⟩:=aA (bo.out.b1);obtain⟨e0,e1,e2,e3,e4,e5,e6⟩:=az (bo.out.b2);clear hr);go_ret
   exact⟨af (by rw[HE.out]<;>first|(simp;done)|(simp;omega)),bo.out.frm⟩
 | false=>
   rw[bZ hc0] at K0;rw[hc0] at HE;clear hc0;go_wp2_with (go_at_call 34;refine(K0.out _ bE.out).mono ?_;rintro e w1 ⟨rfl,hr⟩;have bo:=h_ hr;clear x0 x1 x2 x3 x4 x5 x6 x7 x8 e0 e1 e2 e3 e4 e5 e6;obtain⟨x0,x1,x2,x3,x4,x5,x6,x7,x8⟩:=aA (bo.out.b1);obtain⟨e0,e1,e2,e3,e4,e5,e6⟩:=az (bo.out.b2);clear hr);go_ret;exact⟨af (by rw[HE.out]<;>first|(simp;done)|(simp;omega)),bo.out.frm⟩
theorem MI{a b n:Int}(h:bD w wc b1 b2 fo fe it se ts x G ⟨11,a,b,n,s,t,u⟩)(ho:aM ⟨11,a,b,n,s,t,u⟩=true):
  Code.wp pQ (ai 3 (ae Tryz.f30)) (bodyPost pQ Tryz.f30 λe w'=>e=.returned (.bool (aG x ⟨11,a,b,n,s,t,u⟩))∧aa ag w w') (bS b1 b2 (nL x b) v) wc:=by
 unfold bS
 have HE:Hid (aG x ⟨11,a,b,n,s,t,u⟩=((!bl ce.id a x.seas)&&((decide (x.seas.length<32))))):=by
  unfold Hid aG;rw[ho];simp[Bool.and_assoc]
 have bE:=h_ h;obtain⟨x0,x1,x2,x3,x4,x5,x6,x7,x8⟩:=aA (bE.out.b1);obtain⟨e0,e1,e2,e3,e4,e5,e6⟩:=az (bE.out.b2);have K0:Hid (∀W,bD w W b1 b2 fo fe it se ts x G ⟨11,a,b,n,s,t,u⟩→Calls pQ 79 #[cC fo fe it se x,I J a] W λe w'=>e=.returned (I J (mY ce.id a x.seas))∧bD w w' b1 b2 fo fe it se ts x G ⟨11,a,b,n,s,t,u⟩):=λW hW=>(q9 hW.st hW.small a).mono λe w' q=>⟨q.1,hW.nix q.2⟩
 clear h ho;simp only[ai,ae,Tryz.f30]
 cases hc0:bl ce.id a x.seas with
 | true=>
   obtain⟨p0,-,qI,-⟩:=cj hc0;rw[qI] at K0;have pT:¬(p0:Int)<0:=by omega
   have hm0:(0:Int)≤(p0:Int):=by omega
   rw[hc0] at HE;clear qI hc0;go_wp2_with (go_at_call 79;refine(K0.out _ bE.out).mono ?_;rintro e w1 ⟨rfl,hr⟩;have bo:=h_ hr;clear x0 x1 x2 x3 x4 x5 x6 x7 x8 e0 e1 e2 e3 e4 e5 e6;obtain⟨x0,x1,x2,x3,x4,x5,x6,x7,x8⟩:=aA (bo.out.b1);obtain⟨e0,e1,e2,e3,e4,e5,e6⟩:=az (bo.out.b2);clear hr);go_ret
   exact⟨af (by rw[HE.out]<;>first|(simp;done)|(simp;omega)),bo.out.frm⟩
 | false=>
   rw[bZ hc0] at K0;rw[hc0] at HE;clear hc0
   by_cases hc1:x.seas.length<32
   ·have wJ:(x.seas.length:Int)<32:=by omega
    rw[decide_eq_true hc1] at HE;go_wp2_with (go_at_call 79;refine(K0.out _ bE.out).mono ?_;rintro e w1 ⟨rfl,hr⟩;have bo:=h_ hr;clear x0 x1 x2 x3 x4 x5 x6 x7 x8 e0 e1 e2 e3 e4 e5 e6;obtain⟨x0,x1,x2,x3,x4,x5,x6,x7,x8⟩:=aA (bo.out.b1);obtain⟨e0,e1,e2,e3,e4,e5,e6⟩:=az (bo.out.b2);clear hr);go_ret;exact⟨af (by rw[HE.out]<;>first|(simp;done)|(simp;omega)),bo.out.frm⟩
   ·have wJ:¬(x.seas.length:Int)<32:=by omega
    rw[decide_eq_false hc1] at HE;go_wp2_with (go_at_call 79;refine(K0.out _ bE.out).mono ?_;rintro e w1 ⟨rfl,hr⟩;have bo:=h_ hr;clear x0 x1 x2 x3 x4 x5 x6 x7 x8 e0 e1 e2 e3 e4 e5 e6;obtain⟨x0,x1,x2,x3,x4,x5,x6,x7,x8⟩:=aA (bo.out.b1);obtain⟨e0,e1,e2,e3,e4,e5,e6⟩:=az (bo.out.b2);clear hr);go_ret;exact⟨af (by rw[HE.out]<;>first|(simp;done)|(simp;omega)),bo.out.frm⟩
theorem MJ{a b n:Int}(h:bD w wc b1 b2 fo fe it se ts x G ⟨12,a,b,n,s,t,u⟩)(ho:aM ⟨12,a,b,n,s,t,u⟩=true):
  Code.wp pQ (ai 3 (ae Tryz.f30)) (bodyPost pQ Tryz.f30 λe w'=>e=.returned (.bool (aG x ⟨12,a,b,n,s,t,u⟩))∧aa ag w w') (bS b1 b2 (nL x b) v) wc:=by
 unfold bS
 have HE:Hid (aG x ⟨12,a,b,n,s,t,u⟩=((bl ce.id a x.seas))):=by
  unfold Hid aG;rw[ho];simp[Bool.and_assoc]
 have bE:=h_ h;obtain⟨x0,x1,x2,x3,x4,x5,x6,x7,x8⟩:=aA (bE.out.b1);obtain⟨e0,e1,e2,e3,e4,e5,e6⟩:=az (bE.out.b2);have K0:Hid (∀W,bD w W b1 b2 fo fe it se ts x G ⟨12,a,b,n,s,t,u⟩→Calls pQ 79 #[cC fo fe it se x,I J a] W λe w'=>e=.returned (I J (mY ce.id a x.seas))∧bD w w' b1 b2 fo fe it se ts x G ⟨12,a,b,n,s,t,u⟩):=λW hW=>(q9 hW.st hW.small a).mono λe w' q=>⟨q.1,hW.nix q.2⟩
 clear h ho;simp only[ai,ae,Tryz.f30]
 cases hc0:bl ce.id a x.seas with
 | true=>
   obtain⟨p0,-,qI,-⟩:=cj hc0;rw[qI] at K0;have pT:¬(p0:Int)<0:=by omega
   have hm0:(0:Int)≤(p0:Int):=by omega
   rw[hc0] at HE;clear qI hc0;go_wp2_with (go_at_call 79;refine(K0.out _ bE.out).mono ?_;rintro e w1 ⟨rfl,hr⟩;have bo:=h_ hr;clear x0 x1 x2 x3 x4 x5 x6 x7 x8 e0 e1 e2 e3 e4 e5 e6;obtain⟨x0,x1,x2,x3,x4,x5,x6,x7,x8⟩:=aA (bo.out.b1);obtain⟨e0,e1,e2,e3,e4,e5,e6⟩:=az (bo.out.b2);clear hr);go_ret
   exact⟨af (by rw[HE.out]<;>first|(simp;done)|(simp;omega)),bo.out.frm⟩
 | false=>
   rw[bZ hc0] at K0;rw[hc0] at HE;clear hc0;go_wp2_with (go_at_call 79;refine(K0.out _ bE.out).mono ?_;rintro e w1 ⟨rfl,hr⟩;have bo:=h_ hr;clear x0 x1 x2 x3 x4 x5 x6 x7 x8 e0 e1 e2 e3 e4 e5 e6;obtain⟨x0,x1,x2,x3,x4,x5,x6,x7,x8⟩:=aA (bo.out.b1);obtain⟨e0,e1,e2,e3,e4,e5,e6⟩:=az (bo.out.b2);clear hr);go_ret;exact⟨af (by rw[HE.out]<;>first|(simp;done)|(simp;omega)),bo.out.frm⟩
theorem MK{a b n:Int}(h:bD w wc b1 b2 fo fe it se ts x G ⟨13,a,b,n,s,t,u⟩)(ho:aM ⟨13,a,b,n,s,t,u⟩=true):
  Code.wp pQ (ai 3 (ae Tryz.f30)) (bodyPost pQ Tryz.f30 λe w'=>e=.returned (.bool (aG x ⟨13,a,b,n,s,t,u⟩))∧aa ag w w') (bS b1 b2 (nL x b) v) wc:=by
 unfold bS
 have HE:Hid (aG x ⟨13,a,b,n,s,t,u⟩=((decide (x.clock≤n)))):=by
  unfold Hid aG;rw[ho];simp[Bool.and_assoc]
 have bE:=h_ h;obtain⟨x0,x1,x2,x3,x4,x5,x6,x7,x8⟩:=aA (bE.out.b1);obtain⟨e0,e1,e2,e3,e4,e5,e6⟩:=az (bE.out.b2);clear h ho;simp only[ai,ae,Tryz.f30]
 by_cases hc0:x.clock≤n
 ·have GK:x.clock≤n:=by assumption
  rw[decide_eq_true hc0] at HE;go_wp2;go_ret;exact⟨af (by rw[HE.out]<;>first|(simp;done)|(simp;omega)),bE.out.frm⟩
 ·have GK:¬x.clock≤n:=by assumption
  rw[decide_eq_false hc0] at HE;go_wp2;go_ret;exact⟨af (by rw[HE.out]<;>first|(simp;done)|(simp;omega)),bE.out.frm⟩
end Go.Proofs.YtaecjmiobllhmaaGreat
