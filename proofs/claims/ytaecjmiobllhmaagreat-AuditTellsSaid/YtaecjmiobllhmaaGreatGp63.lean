/- Words. -/
import Derived.Test.YtaecjmiobllhmaaGreatGp62
import Derived.Test.YtaecjmiobllhmaaGreatGp61
set_option linter.unusedVariables false
set_option linter.unusedSimpArgs false
set_option maxRecDepth 100000
set_option maxHeartbeats 16000000
namespace Go.Proofs.YtaecjmiobllhmaaGreat
open Go.RowKit Go.Lib
theorem deepG_0(l:List Fol)(k n:Nat):deepG l k n 0=n:=by cases k<;>rfl
theorem deepG_no{l:List Fol}{k n:Nat}{i:Int}(h0:i≠0)(h:isI Fol.id i l=false):deepG l k n i=8:=by
 cases k with
 | zero=>unfold deepG;rw[if_neg h0]
 | succ k=>
   unfold deepG;rw[if_neg h0]
   have:atI Fol.id i l=none:=by
    have:=@atI_isI Fol Fol.id i l;rw[h] at this
    cases ha:atI Fol.id i l with
    | none=>rfl
    | some f=>rw[ha] at this;cases this
   rw[this]
theorem deepG_end{l:List Fol}{n:Nat}{i:Int}(h0:i≠0):deepG l 0 n i=8:=by
 unfold deepG;rw[if_neg h0]
theorem deepG_up{l:List Fol}{k n:Nat}{i:Int}{f:Fol}(h0:i≠0)(h:atI Fol.id i l=some f):deepG l (k+1) n i=deepG l k (n+1) f.inn:=by
 conv=>lhs;unfold deepG
 rw[if_neg h0,h]
theorem rDeep_any{w:World}{fo fe it se:Sl}{ts:List (Sl×Itm)}{x:St}{G:Nat→Prop}(hS:StIn w G fo fe it se ts x)(hsm:StSmall x)(i0:Int):
  Calls Tryz.prog 73 #[stV fo fe it se x,.int .i64 i0] w λe w'=>e=.returned (.int .i64 (deepS x i0))∧Frm Nix w w':=by
 obtain⟨w0,hw0,hf0,hb0⟩:=box_st w fo fe it se x;have hcap:=hsm.fols;obtain⟨x0,x1,x2,x3,x4,x5,x6,x7,x8⟩:=blk9 hb0;have KF:Hid (∀W,Frm Nix w0 W→∀i,Calls Tryz.prog 72 #[stV fo fe it se x,.int .i64 i] W λe w'=>e=.returned (.int .i64 (posR Fol.id i x.fols))∧Frm Nix w0 w'∧Frm Nix W w'):=λW hW i=>(rFolder_any ((hS.nix hf0).nix hW) hsm i).mono λe w' q=>⟨q.1,hW.trans q.2,q.2⟩
 have HS:=h_ (hS.nix hf0);have HB:=h_ hb0;have HF0:=h_ hf0;have HW:=h_ hw0;clear hS hsm hw0 hf0 hb0;unfold stV;obtain⟨A,c⟩:=fo;dsimp only at x1 x2 x3 x4 ⊢ KF
 cases his:isI Fol.id i0 x.fols with
 | false=>
   have hp:=posR_end his;have KF0:=h_ (KF.out w0 (fR w0) i0);rw[hp] at KF0;have HD:Hid (deepS x i0=0):=by unfold Hid deepS;rw[his];rfl
   go_enter Tryz.func73,Tryz.ntmps73;go_wp2_with (go_at_call 72;rw[←HW.out];refine KF0.out.mono ?_;rintro e w1 ⟨rfl,hf,-⟩;have Z1:=h_ hf;clear hf);go_ret
   exact⟨by rw[HD.out]<;>rfl,HF0.out.trans Z1.out⟩
 | true=>
   obtain⟨p,hpl,hp,-⟩:=posR_at his;have KF0:=h_ (KF.out w0 (fR w0) i0);rw[hp] at KF0;have hp0:¬(p:Int)<0:=by omega
   have HD:Hid (deepS x i0=deepG x.fols 7 0 i0):=by unfold Hid deepS;rw[his];rfl
   have HD2:Hid (deepG x.fols 7 0 i0=deepS x i0):=HD.out.symm;clear HD;generalize deepS x i0=D at *;go_enter Tryz.func73,Tryz.ntmps73;go_wp2_with (go_at_call 72;rw[←HW.out];refine KF0.out.mono ?_;rintro e w1 ⟨rfl,hf,-⟩;have Z1:=h_ hf;clear hf)
   go_loopw [1,5] (λiv nv wr=>∃(i:Int) (m:Nat),iv=.int .i64 i∧nv=.int .i64 m∧m≤7∧deepG x.fols (7 - m) m i=D∧Frm Nix w0 wr) (λ_ nv _=>7 - (intOf nv).toNat)
   case atStart=>exact⟨i0,0,rfl,rfl,by omega,HD2.out,Z1.out⟩
   case round=>
    obtain⟨i,m,rfl,rfl,hm,hd,hf⟩:=hrel;have HDm:=h_ hd;have HF:=h_ hf;clear hd hf x0 x1 x2 x3 x4 x5 x6 x7 x8;obtain⟨y0,y1,y2,y3,y4,y5,y6,y7,y8⟩:=blk9 (HB.out.frm HF.out id);have KF1:=h_ (KF.out wr HF.out i)
    by_cases h0:i=0
    ·subst h0
     have HE:Hid (D=m):=by have:=HDm.out;rw[deepG_0] at this;exact this.symm
     go_wp2;go_ret;exact⟨by rw[HE.out]<;>rfl,HF0.out.trans HF.out⟩
    cases hi2:isI Fol.id i x.fols with
    | false=>
      have HE:Hid (D=8):=by have:=HDm.out;rw[deepG_no h0 hi2] at this;exact this.symm
      rw[posR_end hi2] at KF1;go_wp2_with (go_at_call 72;refine KF1.out.mono ?_;rintro e w2 ⟨rfl,hf,-⟩;have Z2:=h_ hf;clear hf);go_ret
      exact⟨by rw[HE.out]<;>rfl,HF0.out.trans Z2.out⟩
    | true=>
      obtain⟨q,hql,hq,-,hat,-⟩:=posR_at hi2;rw[hq] at KF1;have hq0:¬(q:Int)<0:=by omega
      by_cases h7:m=7
      ·subst h7
       have HE:Hid (D=8):=by have:=HDm.out;rw[show 7 - 7=0 from rfl,deepG_end h0] at this;exact this.symm
       go_wp2_with (go_at_call 72;refine KF1.out.mono ?_;rintro e w2 ⟨rfl,hf,-⟩;have Z2:=h_ hf;clear hf);go_ret;exact⟨by rw[HE.out]<;>rfl,HF0.out.trans Z2.out⟩
      ·have hm7:¬(m:Int)=7:=by omega
       have hm8:((m:Int)==7)=false:=by simp;omega
       have HE:Hid (deepG x.fols (7 - (m+1)) (m+1) (x.fols[q]'hql).inn=D):=by
        have:=HDm.out;rw[show 7 - m=(7 - (m+1))+1 by omega,deepG_up h0 hat] at this;exact this
       obtain⟨b,off,hA,-,hbl,hcell⟩:=(HS.out.fols.nix HF.out).at_ Fol.clen (by decide) (by omega);dsimp only at hA;subst hA;obtain⟨f,hfq⟩:∃f,x.fols[q]'hql=f:=⟨_,rfl⟩;have hc:=hcell q hql;rw[hfq] at hc HE;have HC:Hid (∀W,Frm Nix wr W→W.cell? ⟨b,off+q * 3+1,none⟩=some (.int .i64 f.inn)):=λW hW=>(hW.cell (p:=⟨b,off+q * 3+1,none⟩) hbl id).trans (hc 1 _ rfl)
       clear hcell hc hfq hq hat;have KF2:Hid (Calls Tryz.prog 72 #[.agg #[.int .i64 x.clock,.slice (some ⟨b,off,none⟩) x.fols.length c,.slice fe.1 x.fees.length fe.2,.slice it.1 x.itms.length it.2,.slice se.1 x.seas.length se.2,.int .i64 x.tFol,.int .i64 x.tFee,.int .i64 x.tItm,.int .i64 x.tSea],.int .i64 i] wr λe w'=>e=.returned (.int .i64 q)∧Frm Nix w0 w'∧w'.cell? ⟨b,off+q * 3+1,none⟩=some (.int .i64 f.inn)):=KF1.out.mono λe w' h=>⟨h.1,h.2.1,HC.out _ h.2.2⟩
       go_wp2_with (go_at_call 72;refine KF2.out.mono ?_;rintro e w2 ⟨rfl,hf,hcx⟩;have Z2:=h_ hf;have z1:=(HB.out.frm hf id).cell 1;simp at z1;clear hf);go_roundw
       case rel=>exact⟨f.inn,m+1,rfl,by go_num,by omega,HE.out,Z2.out⟩
       case measure=>simp[intOf];omega
structure RefAt(w wc:World)(b1 b2:Nat)(fo fe it se:Sl)(ts:List (Sl×Itm))(x:St)(G:Nat→Prop)(e:Ev):Prop where
 st:StIn wc G fo fe it se ts x
 small:StSmall x
 frm:Frm Nix w wc
 b1:Blk wc b1 36 #[.int .i64 x.clock,.slice fo.1 x.fols.length fo.2,.slice fe.1 x.fees.length fe.2,.slice it.1 x.itms.length it.2,.slice se.1 x.seas.length se.2,.int .i64 x.tFol,.int .i64 x.tFee,.int .i64 x.tItm,.int .i64 x.tSea]
 b2:Blk wc b2 42 #[.int .i64 e.kind,.int .i64 e.a,.int .i64 e.b,.int .i64 e.n,.string e.s,.string e.t,.string e.u]
theorem RefAt.nix{w wc w1:World}{b1 b2:Nat}{fo fe it se:Sl}{ts:List (Sl×Itm)}{x:St}{G:Nat→Prop}{e:Ev}(h:RefAt w wc b1 b2 fo fe it se ts x G e)(hf:Frm Nix wc w1):RefAt w w1 b1 b2 fo fe it se ts x G e:=
 ⟨h.st.nix hf,h.small,h.frm.trans hf,h.b1.frm hf id,h.b2.frm hf id⟩
def fitsAct(b1 b2:Nat)(c:Bool)(v:Nat→Value):Act:=⟨#[v 0,v 1,.pointer (some ⟨b1,0,none⟩),.pointer (some ⟨b2,0,none⟩),v 4,.bool c,v 6,v 7,v 8,v 9,v 10,v 11,v 12,v 13,v 14,v 15,v 16,v 17,v 18,v 19,v 20,v 21,v 22,v 23,v 24,v 25,v 26,v 27,v 28,v 29,v 30,v 31,v 32,v 33,v 34,v 35,v 36,v 37,v 38,v 39,v 40,v 41,v 42,v 43,v 44,v 45,v 46,v 47,v 48,v 49,v 50,v 51,v 52,v 53,v 54,v 55,v 56,v 57,v 58,v 59,v 60,v 61,v 62,v 63,v 64,v 65,v 66,v 67,v 68,v 69,v 70,v 71,v 72,v 73,v 74,v 75,v 76,v 77,v 78,v 79,v 80,v 81,v 82,v 83,v 84,v 85,v 86,v 87,v 88,v 89,v 90,v 91,v 92,v 93,v 94,v 95,v 96,v 97,v 98,v 99,v 100,v 101,v 102,v 103,v 104,v 105,v 106,v 107,v 108,v 109,v 110,v 111,v 112,v 113,v 114,v 115,v 116,v 117,v 118,v 119,v 120,v 121,v 122,v 123,v 124,v 125,v 126,v 127,v 128,v 129,v 130,v 131,v 132,v 133,v 134,v 135,v 136,v 137,v 138,v 139,v 140,v 141,v 142,v 143,v 144,v 145,v 146,v 147,v 148,v 149,v 150,v 151,v 152,v 153,v 154,v 155,v 156,v 157,v 158,v 159,v 160,v 161,v 162,v 163,v 164,v 165,v 166,v 167,v 168,v 169,v 170,v 171,v 172,v 173,v 174,v 175,v 176,v 177,v 178,v 179,v 180,v 181,v 182,v 183,v 184,v 185,v 186,v 187,v 188,v 189,v 190,v 191,v 192,v 193,v 194,v 195,v 196,v 197,v 198,v 199,v 200,v 201,v 202,v 203],[]⟩
theorem RF3_1{w wc:World}{b1 b2:Nat}{fo fe it se:Sl}{ts:List (Sl×Itm)}{x:St}{G:Nat→Prop}{a b n:Int}{s t u:ByteArray}(h:RefAt w wc b1 b2 fo fe it se ts x G ⟨1,a,b,n,s,t,u⟩)(ho:evOk ⟨1,a,b,n,s,t,u⟩=true){v:Nat→Value}:
  Code.wp Tryz.prog (peel 3 (bodyOf Tryz.f30)) (bodyPost Tryz.prog Tryz.f30 λe w'=>e=.returned (.bool (fits x ⟨1,a,b,n,s,t,u⟩))∧Frm Nix w w') (fitsAct b1 b2 (inS x b) v) wc:=by
 unfold fitsAct
 have HE:Hid (fits x ⟨1,a,b,n,s,t,u⟩=((!isI Fol.id a x.fols)&&((decide (x.fols.length<64))&&((inS x b)&&((decide (deepS x b<7))&&((!namedS x b s))))))):=by
  unfold Hid fits;rw[ho];simp[Bool.and_assoc]
 have HR0:=h_ h;obtain⟨x0,x1,x2,x3,x4,x5,x6,x7,x8⟩:=blk9 (HR0.out.b1);obtain⟨e0,e1,e2,e3,e4,e5,e6⟩:=blk7 (HR0.out.b2);have K0:Hid (∀W,RefAt w W b1 b2 fo fe it se ts x G ⟨1,a,b,n,s,t,u⟩→Calls Tryz.prog 72 #[stV fo fe it se x,.int .i64 a] W λe w'=>e=.returned (.int .i64 (posR Fol.id a x.fols))∧RefAt w w' b1 b2 fo fe it se ts x G ⟨1,a,b,n,s,t,u⟩):=λW hW=>(rFolder_any hW.st hW.small a).mono λe w' q=>⟨q.1,hW.nix q.2⟩
 have K3:Hid (∀W,RefAt w W b1 b2 fo fe it se ts x G ⟨1,a,b,n,s,t,u⟩→Calls Tryz.prog 73 #[stV fo fe it se x,.int .i64 b] W λe w'=>e=.returned (.int .i64 (deepS x b))∧RefAt w w' b1 b2 fo fe it se ts x G ⟨1,a,b,n,s,t,u⟩):=λW hW=>(rDeep_any hW.st hW.small b).mono λe w' q=>⟨q.1,hW.nix q.2⟩
 have K4:Hid (∀W,RefAt w W b1 b2 fo fe it se ts x G ⟨1,a,b,n,s,t,u⟩→Calls Tryz.prog 74 #[stV fo fe it se x,.int .i64 b,.string s] W λe w'=>e=.returned (.bool (namedS x b s))∧RefAt w w' b1 b2 fo fe it se ts x G ⟨1,a,b,n,s,t,u⟩):=λW hW=>(rNamed_any hW.st hW.small b s).mono λe w' q=>⟨q.1,hW.nix q.2⟩
 clear h ho;simp only[peel,bodyOf,Tryz.f30]
 cases hc0:isI Fol.id a x.fols with
 | true=>
   obtain⟨p0,-,hp0,-⟩:=posR_at hc0;rw[hp0] at K0;have hn0:¬(p0:Int)<0:=by omega
   have hm0:(0:Int)≤(p0:Int):=by omega
   rw[hc0] at HE;clear hp0 hc0;go_wp2_with (go_at_call 72;refine(K0.out _ HR0.out).mono ?_;rintro e w1 ⟨rfl,hr⟩;have HR1:=h_ hr;clear x0 x1 x2 x3 x4 x5 x6 x7 x8 e0 e1 e2 e3 e4 e5 e6;obtain⟨x0,x1,x2,x3,x4,x5,x6,x7,x8⟩:=blk9 (HR1.out.b1);obtain⟨e0,e1,e2,e3,e4,e5,e6⟩:=blk7 (HR1.out.b2);clear hr);go_ret
   exact⟨ret_bool (by rw[HE.out]<;>first | (simp;done) | (simp;omega)),HR1.out.frm⟩
 | false=>
   rw[posR_end hc0] at K0;rw[hc0] at HE;clear hc0
   by_cases hc1:x.fols.length<64
   ·have hi1:(x.fols.length:Int)<64:=by omega
    rw[decide_eq_true hc1] at HE
    cases hc2:inS x b with
    | true=>
      rw[hc2] at HE
      try rw[hc2] at K2
      by_cases hc3:deepS x b<7
      ·have hi3:((deepS x b:Nat):Int)<7:=by omega
       rw[decide_eq_true hc3] at HE
       cases hc4:namedS x b s with
       | true=>
         rw[hc4] at HE K4
         go_wp2_with (first
           | (go_at_call 74;have _q:=HR2;refine(K4.out _ HR2.out).mono ?_;rintro e w3 ⟨rfl,hr⟩;have HR3:=h_ hr;clear x0 x1 x2 x3 x4 x5 x6 x7 x8 e0 e1 e2 e3 e4 e5 e6;obtain⟨x0,x1,x2,x3,x4,x5,x6,x7,x8⟩:=blk9 (HR3.out.b1);obtain⟨e0,e1,e2,e3,e4,e5,e6⟩:=blk7 (HR3.out.b2);clear hr)
           | (go_at_call 73;have _q:=HR1;refine(K3.out _ HR1.out).mono ?_;rintro e w2 ⟨rfl,hr⟩;have HR2:=h_ hr;clear x0 x1 x2 x3 x4 x5 x6 x7 x8 e0 e1 e2 e3 e4 e5 e6;obtain⟨x0,x1,x2,x3,x4,x5,x6,x7,x8⟩:=blk9 (HR2.out.b1);obtain⟨e0,e1,e2,e3,e4,e5,e6⟩:=blk7 (HR2.out.b2);clear hr)
           | (go_at_call 72;refine(K0.out _ HR0.out).mono ?_;rintro e w1 ⟨rfl,hr⟩;have HR1:=h_ hr;clear x0 x1 x2 x3 x4 x5 x6 x7 x8 e0 e1 e2 e3 e4 e5 e6;obtain⟨x0,x1,x2,x3,x4,x5,x6,x7,x8⟩:=blk9 (HR1.out.b1);obtain⟨e0,e1,e2,e3,e4,e5,e6⟩:=blk7 (HR1.out.b2);clear hr))
         go_ret
         exact⟨ret_bool (by rw[HE.out]<;>first | (simp;done) | (simp;omega)),HR3.out.frm⟩
       | false=>
         rw[hc4] at HE K4
         go_wp2_with (first
           | (go_at_call 74;have _q:=HR2;refine(K4.out _ HR2.out).mono ?_;rintro e w3 ⟨rfl,hr⟩;have HR3:=h_ hr;clear x0 x1 x2 x3 x4 x5 x6 x7 x8 e0 e1 e2 e3 e4 e5 e6;obtain⟨x0,x1,x2,x3,x4,x5,x6,x7,x8⟩:=blk9 (HR3.out.b1);obtain⟨e0,e1,e2,e3,e4,e5,e6⟩:=blk7 (HR3.out.b2);clear hr)
           | (go_at_call 73;have _q:=HR1;refine(K3.out _ HR1.out).mono ?_;rintro e w2 ⟨rfl,hr⟩;have HR2:=h_ hr;clear x0 x1 x2 x3 x4 x5 x6 x7 x8 e0 e1 e2 e3 e4 e5 e6;obtain⟨x0,x1,x2,x3,x4,x5,x6,x7,x8⟩:=blk9 (HR2.out.b1);obtain⟨e0,e1,e2,e3,e4,e5,e6⟩:=blk7 (HR2.out.b2);clear hr)
           | (go_at_call 72;refine(K0.out _ HR0.out).mono ?_;rintro e w1 ⟨rfl,hr⟩;have HR1:=h_ hr;clear x0 x1 x2 x3 x4 x5 x6 x7 x8 e0 e1 e2 e3 e4 e5 e6;obtain⟨x0,x1,x2,x3,x4,x5,x6,x7,x8⟩:=blk9 (HR1.out.b1);obtain⟨e0,e1,e2,e3,e4,e5,e6⟩:=blk7 (HR1.out.b2);clear hr))
         go_ret;exact⟨ret_bool (by rw[HE.out]<;>first | (simp;done) | (simp;omega)),HR3.out.frm⟩
      ·have hi3:¬((deepS x b:Nat):Int)<7:=by omega
       rw[decide_eq_false hc3] at HE
       go_wp2_with (first
         | (go_at_call 73;have _q:=HR1;refine(K3.out _ HR1.out).mono ?_;rintro e w2 ⟨rfl,hr⟩;have HR2:=h_ hr;clear x0 x1 x2 x3 x4 x5 x6 x7 x8 e0 e1 e2 e3 e4 e5 e6;obtain⟨x0,x1,x2,x3,x4,x5,x6,x7,x8⟩:=blk9 (HR2.out.b1);obtain⟨e0,e1,e2,e3,e4,e5,e6⟩:=blk7 (HR2.out.b2);clear hr)
         | (go_at_call 72;refine(K0.out _ HR0.out).mono ?_;rintro e w1 ⟨rfl,hr⟩;have HR1:=h_ hr;clear x0 x1 x2 x3 x4 x5 x6 x7 x8 e0 e1 e2 e3 e4 e5 e6;obtain⟨x0,x1,x2,x3,x4,x5,x6,x7,x8⟩:=blk9 (HR1.out.b1);obtain⟨e0,e1,e2,e3,e4,e5,e6⟩:=blk7 (HR1.out.b2);clear hr))
       go_ret
       exact⟨ret_bool (by rw[HE.out]<;>first | (simp;done) | (simp;omega)),HR2.out.frm⟩
    | false=>
      rw[hc2] at HE;go_wp2_with (go_at_call 72;refine(K0.out _ HR0.out).mono ?_;rintro e w1 ⟨rfl,hr⟩;have HR1:=h_ hr;clear x0 x1 x2 x3 x4 x5 x6 x7 x8 e0 e1 e2 e3 e4 e5 e6;obtain⟨x0,x1,x2,x3,x4,x5,x6,x7,x8⟩:=blk9 (HR1.out.b1);obtain⟨e0,e1,e2,e3,e4,e5,e6⟩:=blk7 (HR1.out.b2);clear hr);go_ret;exact⟨ret_bool (by rw[HE.out]<;>first | (simp;done) | (simp;omega)),HR1.out.frm⟩
   ·have hi1:¬(x.fols.length:Int)<64:=by omega
    rw[decide_eq_false hc1] at HE;go_wp2_with (go_at_call 72;refine(K0.out _ HR0.out).mono ?_;rintro e w1 ⟨rfl,hr⟩;have HR1:=h_ hr;clear x0 x1 x2 x3 x4 x5 x6 x7 x8 e0 e1 e2 e3 e4 e5 e6;obtain⟨x0,x1,x2,x3,x4,x5,x6,x7,x8⟩:=blk9 (HR1.out.b1);obtain⟨e0,e1,e2,e3,e4,e5,e6⟩:=blk7 (HR1.out.b2);clear hr);go_ret;exact⟨ret_bool (by rw[HE.out]<;>first | (simp;done) | (simp;omega)),HR1.out.frm⟩
theorem RF3_2{w wc:World}{b1 b2:Nat}{fo fe it se:Sl}{ts:List (Sl×Itm)}{x:St}{G:Nat→Prop}{a b n:Int}{s t u:ByteArray}(h:RefAt w wc b1 b2 fo fe it se ts x G ⟨2,a,b,n,s,t,u⟩)(ho:evOk ⟨2,a,b,n,s,t,u⟩=true){v:Nat→Value}:
  Code.wp Tryz.prog (peel 3 (bodyOf Tryz.f30)) (bodyPost Tryz.prog Tryz.f30 λe w'=>e=.returned (.bool (fits x ⟨2,a,b,n,s,t,u⟩))∧Frm Nix w w') (fitsAct b1 b2 (inS x b) v) wc:=by
 unfold fitsAct
 have HE:Hid (fits x ⟨2,a,b,n,s,t,u⟩=((isI Fol.id a x.fols)&&((emptyS x a)))):=by
  unfold Hid fits;rw[ho];simp[Bool.and_assoc]
 have HR0:=h_ h;obtain⟨x0,x1,x2,x3,x4,x5,x6,x7,x8⟩:=blk9 (HR0.out.b1);obtain⟨e0,e1,e2,e3,e4,e5,e6⟩:=blk7 (HR0.out.b2);have K0:Hid (∀W,RefAt w W b1 b2 fo fe it se ts x G ⟨2,a,b,n,s,t,u⟩→Calls Tryz.prog 72 #[stV fo fe it se x,.int .i64 a] W λe w'=>e=.returned (.int .i64 (posR Fol.id a x.fols))∧RefAt w w' b1 b2 fo fe it se ts x G ⟨2,a,b,n,s,t,u⟩):=λW hW=>(rFolder_any hW.st hW.small a).mono λe w' q=>⟨q.1,hW.nix q.2⟩
 have K1:Hid (∀W,RefAt w W b1 b2 fo fe it se ts x G ⟨2,a,b,n,s,t,u⟩→Calls Tryz.prog 75 #[stV fo fe it se x,.int .i64 a] W λe w'=>e=.returned (.bool (emptyS x a))∧RefAt w w' b1 b2 fo fe it se ts x G ⟨2,a,b,n,s,t,u⟩):=λW hW=>(rEmpty_any hW.st hW.small a).mono λe w' q=>⟨q.1,hW.nix q.2⟩
 clear h ho;simp only[peel,bodyOf,Tryz.f30]
 cases hc0:isI Fol.id a x.fols with
 | true=>
   obtain⟨p0,-,hp0,-⟩:=posR_at hc0;rw[hp0] at K0;have hn0:¬(p0:Int)<0:=by omega
   have hm0:(0:Int)≤(p0:Int):=by omega
   rw[hc0] at HE;clear hp0 hc0
   cases hc1:emptyS x a with
   | true=>
     rw[hc1] at HE K1
     go_wp2_with (first
       | (go_at_call 75;have _q:=HR1;refine(K1.out _ HR1.out).mono ?_;rintro e w2 ⟨rfl,hr⟩;have HR2:=h_ hr;clear x0 x1 x2 x3 x4 x5 x6 x7 x8 e0 e1 e2 e3 e4 e5 e6;obtain⟨x0,x1,x2,x3,x4,x5,x6,x7,x8⟩:=blk9 (HR2.out.b1);obtain⟨e0,e1,e2,e3,e4,e5,e6⟩:=blk7 (HR2.out.b2);clear hr)
       | (go_at_call 72;refine(K0.out _ HR0.out).mono ?_;rintro e w1 ⟨rfl,hr⟩;have HR1:=h_ hr;clear x0 x1 x2 x3 x4 x5 x6 x7 x8 e0 e1 e2 e3 e4 e5 e6;obtain⟨x0,x1,x2,x3,x4,x5,x6,x7,x8⟩:=blk9 (HR1.out.b1);obtain⟨e0,e1,e2,e3,e4,e5,e6⟩:=blk7 (HR1.out.b2);clear hr))
     go_ret
     exact⟨ret_bool (by rw[HE.out]<;>first | (simp;done) | (simp;omega)),HR2.out.frm⟩
   | false=>
     rw[hc1] at HE K1
     go_wp2_with (first
       | (go_at_call 75;have _q:=HR1;refine(K1.out _ HR1.out).mono ?_;rintro e w2 ⟨rfl,hr⟩;have HR2:=h_ hr;clear x0 x1 x2 x3 x4 x5 x6 x7 x8 e0 e1 e2 e3 e4 e5 e6;obtain⟨x0,x1,x2,x3,x4,x5,x6,x7,x8⟩:=blk9 (HR2.out.b1);obtain⟨e0,e1,e2,e3,e4,e5,e6⟩:=blk7 (HR2.out.b2);clear hr)
       | (go_at_call 72;refine(K0.out _ HR0.out).mono ?_;rintro e w1 ⟨rfl,hr⟩;have HR1:=h_ hr;clear x0 x1 x2 x3 x4 x5 x6 x7 x8 e0 e1 e2 e3 e4 e5 e6;obtain⟨x0,x1,x2,x3,x4,x5,x6,x7,x8⟩:=blk9 (HR1.out.b1);obtain⟨e0,e1,e2,e3,e4,e5,e6⟩:=blk7 (HR1.out.b2);clear hr))
     go_ret
     exact⟨ret_bool (by rw[HE.out]<;>first | (simp;done) | (simp;omega)),HR2.out.frm⟩
 | false=>
   rw[posR_end hc0] at K0;rw[hc0] at HE;clear hc0;go_wp2_with (go_at_call 72;refine(K0.out _ HR0.out).mono ?_;rintro e w1 ⟨rfl,hr⟩;have HR1:=h_ hr;clear x0 x1 x2 x3 x4 x5 x6 x7 x8 e0 e1 e2 e3 e4 e5 e6;obtain⟨x0,x1,x2,x3,x4,x5,x6,x7,x8⟩:=blk9 (HR1.out.b1);obtain⟨e0,e1,e2,e3,e4,e5,e6⟩:=blk7 (HR1.out.b2);clear hr);go_ret;exact⟨ret_bool (by rw[HE.out]<;>first | (simp;done) | (simp;omega)),HR1.out.frm⟩
theorem RF3_3{w wc:World}{b1 b2:Nat}{fo fe it se:Sl}{ts:List (Sl×Itm)}{x:St}{G:Nat→Prop}{a b n:Int}{s t u:ByteArray}(h:RefAt w wc b1 b2 fo fe it se ts x G ⟨3,a,b,n,s,t,u⟩)(ho:evOk ⟨3,a,b,n,s,t,u⟩=true){v:Nat→Value}:
  Code.wp Tryz.prog (peel 3 (bodyOf Tryz.f30)) (bodyPost Tryz.prog Tryz.f30 λe w'=>e=.returned (.bool (fits x ⟨3,a,b,n,s,t,u⟩))∧Frm Nix w w') (fitsAct b1 b2 (inS x b) v) wc:=by
 unfold fitsAct
 have HE:Hid (fits x ⟨3,a,b,n,s,t,u⟩=((!isI Fee.id a x.fees)&&((decide (x.fees.length<64))&&((inS x b)&&((decide (placeS x s=0))))))):=by
  unfold Hid fits;rw[ho];simp[Bool.and_assoc]
 have HR0:=h_ h;obtain⟨x0,x1,x2,x3,x4,x5,x6,x7,x8⟩:=blk9 (HR0.out.b1);obtain⟨e0,e1,e2,e3,e4,e5,e6⟩:=blk7 (HR0.out.b2);have K0:Hid (∀W,RefAt w W b1 b2 fo fe it se ts x G ⟨3,a,b,n,s,t,u⟩→Calls Tryz.prog 33 #[stV fo fe it se x,.int .i64 a] W λe w'=>e=.returned (.int .i64 (posR Fee.id a x.fees))∧RefAt w w' b1 b2 fo fe it se ts x G ⟨3,a,b,n,s,t,u⟩):=λW hW=>(rFeed_any hW.st hW.small a).mono λe w' q=>⟨q.1,hW.nix q.2⟩
 have K3:Hid (∀W,RefAt w W b1 b2 fo fe it se ts x G ⟨3,a,b,n,s,t,u⟩→Calls Tryz.prog 76 #[stV fo fe it se x,.string s] W λe w'=>e=.returned (.int .i64 (placeS x s))∧RefAt w w' b1 b2 fo fe it se ts x G ⟨3,a,b,n,s,t,u⟩):=λW hW=>(rPlace_any hW.st hW.small s).mono λe w' q=>⟨q.1,hW.nix q.2⟩
 clear h ho;simp only[peel,bodyOf,Tryz.f30]
 cases hc0:isI Fee.id a x.fees with
 | true=>
   obtain⟨p0,-,hp0,-⟩:=posR_at hc0;rw[hp0] at K0;have hn0:¬(p0:Int)<0:=by omega
   have hm0:(0:Int)≤(p0:Int):=by omega
   rw[hc0] at HE;clear hp0 hc0;go_wp2_with (go_at_call 33;refine(K0.out _ HR0.out).mono ?_;rintro e w1 ⟨rfl,hr⟩;have HR1:=h_ hr;clear x0 x1 x2 x3 x4 x5 x6 x7 x8 e0 e1 e2 e3 e4 e5 e6;obtain⟨x0,x1,x2,x3,x4,x5,x6,x7,x8⟩:=blk9 (HR1.out.b1);obtain⟨e0,e1,e2,e3,e4,e5,e6⟩:=blk7 (HR1.out.b2);clear hr);go_ret
   exact⟨ret_bool (by rw[HE.out]<;>first | (simp;done) | (simp;omega)),HR1.out.frm⟩
 | false=>
   rw[posR_end hc0] at K0;rw[hc0] at HE;clear hc0
   by_cases hc1:x.fees.length<64
   ·have hi1:(x.fees.length:Int)<64:=by omega
    rw[decide_eq_true hc1] at HE
    cases hc2:inS x b with
    | true=>
      rw[hc2] at HE
      try rw[hc2] at K2
      by_cases hc3:placeS x s=0
      ·have hi3:placeS x s=0:=by assumption
       rw[decide_eq_true hc3] at HE;have hb3:(placeS x s==0)=true:=by rw[hc3];rfl
       go_wp2_with (first
         | (go_at_call 76;have _q:=HR1;refine(K3.out _ HR1.out).mono ?_;rintro e w2 ⟨rfl,hr⟩;have HR2:=h_ hr;clear x0 x1 x2 x3 x4 x5 x6 x7 x8 e0 e1 e2 e3 e4 e5 e6;obtain⟨x0,x1,x2,x3,x4,x5,x6,x7,x8⟩:=blk9 (HR2.out.b1);obtain⟨e0,e1,e2,e3,e4,e5,e6⟩:=blk7 (HR2.out.b2);clear hr)
         | (go_at_call 33;refine(K0.out _ HR0.out).mono ?_;rintro e w1 ⟨rfl,hr⟩;have HR1:=h_ hr;clear x0 x1 x2 x3 x4 x5 x6 x7 x8 e0 e1 e2 e3 e4 e5 e6;obtain⟨x0,x1,x2,x3,x4,x5,x6,x7,x8⟩:=blk9 (HR1.out.b1);obtain⟨e0,e1,e2,e3,e4,e5,e6⟩:=blk7 (HR1.out.b2);clear hr))
       go_ret;exact⟨ret_bool (by rw[HE.out]<;>first | (simp;done) | (simp;omega)),HR2.out.frm⟩
      ·have hi3:¬placeS x s=0:=by assumption
       rw[decide_eq_false hc3] at HE;have hb3:(placeS x s==0)=false:=by simp[hc3]
       go_wp2_with (first
         | (go_at_call 76;have _q:=HR1;refine(K3.out _ HR1.out).mono ?_;rintro e w2 ⟨rfl,hr⟩;have HR2:=h_ hr;clear x0 x1 x2 x3 x4 x5 x6 x7 x8 e0 e1 e2 e3 e4 e5 e6;obtain⟨x0,x1,x2,x3,x4,x5,x6,x7,x8⟩:=blk9 (HR2.out.b1);obtain⟨e0,e1,e2,e3,e4,e5,e6⟩:=blk7 (HR2.out.b2);clear hr)
         | (go_at_call 33;refine(K0.out _ HR0.out).mono ?_;rintro e w1 ⟨rfl,hr⟩;have HR1:=h_ hr;clear x0 x1 x2 x3 x4 x5 x6 x7 x8 e0 e1 e2 e3 e4 e5 e6;obtain⟨x0,x1,x2,x3,x4,x5,x6,x7,x8⟩:=blk9 (HR1.out.b1);obtain⟨e0,e1,e2,e3,e4,e5,e6⟩:=blk7 (HR1.out.b2);clear hr))
       go_ret
       exact⟨ret_bool (by rw[HE.out]<;>first | (simp;done) | (simp;omega)),HR2.out.frm⟩
    | false=>
      rw[hc2] at HE;go_wp2_with (go_at_call 33;refine(K0.out _ HR0.out).mono ?_;rintro e w1 ⟨rfl,hr⟩;have HR1:=h_ hr;clear x0 x1 x2 x3 x4 x5 x6 x7 x8 e0 e1 e2 e3 e4 e5 e6;obtain⟨x0,x1,x2,x3,x4,x5,x6,x7,x8⟩:=blk9 (HR1.out.b1);obtain⟨e0,e1,e2,e3,e4,e5,e6⟩:=blk7 (HR1.out.b2);clear hr);go_ret;exact⟨ret_bool (by rw[HE.out]<;>first | (simp;done) | (simp;omega)),HR1.out.frm⟩
   ·have hi1:¬(x.fees.length:Int)<64:=by omega
    rw[decide_eq_false hc1] at HE;go_wp2_with (go_at_call 33;refine(K0.out _ HR0.out).mono ?_;rintro e w1 ⟨rfl,hr⟩;have HR1:=h_ hr;clear x0 x1 x2 x3 x4 x5 x6 x7 x8 e0 e1 e2 e3 e4 e5 e6;obtain⟨x0,x1,x2,x3,x4,x5,x6,x7,x8⟩:=blk9 (HR1.out.b1);obtain⟨e0,e1,e2,e3,e4,e5,e6⟩:=blk7 (HR1.out.b2);clear hr);go_ret;exact⟨ret_bool (by rw[HE.out]<;>first | (simp;done) | (simp;omega)),HR1.out.frm⟩
theorem RF3_4{w wc:World}{b1 b2:Nat}{fo fe it se:Sl}{ts:List (Sl×Itm)}{x:St}{G:Nat→Prop}{a b n:Int}{s t u:ByteArray}(h:RefAt w wc b1 b2 fo fe it se ts x G ⟨4,a,b,n,s,t,u⟩)(ho:evOk ⟨4,a,b,n,s,t,u⟩=true){v:Nat→Value}:
  Code.wp Tryz.prog (peel 3 (bodyOf Tryz.f30)) (bodyPost Tryz.prog Tryz.f30 λe w'=>e=.returned (.bool (fits x ⟨4,a,b,n,s,t,u⟩))∧Frm Nix w w') (fitsAct b1 b2 (inS x b) v) wc:=by
 unfold fitsAct
 have HE:Hid (fits x ⟨4,a,b,n,s,t,u⟩=((isI Fee.id a x.fees))):=by
  unfold Hid fits;rw[ho];simp[Bool.and_assoc]
 have HR0:=h_ h;obtain⟨x0,x1,x2,x3,x4,x5,x6,x7,x8⟩:=blk9 (HR0.out.b1);obtain⟨e0,e1,e2,e3,e4,e5,e6⟩:=blk7 (HR0.out.b2);have K0:Hid (∀W,RefAt w W b1 b2 fo fe it se ts x G ⟨4,a,b,n,s,t,u⟩→Calls Tryz.prog 33 #[stV fo fe it se x,.int .i64 a] W λe w'=>e=.returned (.int .i64 (posR Fee.id a x.fees))∧RefAt w w' b1 b2 fo fe it se ts x G ⟨4,a,b,n,s,t,u⟩):=λW hW=>(rFeed_any hW.st hW.small a).mono λe w' q=>⟨q.1,hW.nix q.2⟩
 clear h ho;simp only[peel,bodyOf,Tryz.f30]
 cases hc0:isI Fee.id a x.fees with
 | true=>
   obtain⟨p0,-,hp0,-⟩:=posR_at hc0;rw[hp0] at K0;have hn0:¬(p0:Int)<0:=by omega
   have hm0:(0:Int)≤(p0:Int):=by omega
   rw[hc0] at HE;clear hp0 hc0;go_wp2_with (go_at_call 33;refine(K0.out _ HR0.out).mono ?_;rintro e w1 ⟨rfl,hr⟩;have HR1:=h_ hr;clear x0 x1 x2 x3 x4 x5 x6 x7 x8 e0 e1 e2 e3 e4 e5 e6;obtain⟨x0,x1,x2,x3,x4,x5,x6,x7,x8⟩:=blk9 (HR1.out.b1);obtain⟨e0,e1,e2,e3,e4,e5,e6⟩:=blk7 (HR1.out.b2);clear hr);go_ret
   exact⟨ret_bool (by rw[HE.out]<;>first | (simp;done) | (simp;omega)),HR1.out.frm⟩
 | false=>
   rw[posR_end hc0] at K0;rw[hc0] at HE;clear hc0;go_wp2_with (go_at_call 33;refine(K0.out _ HR0.out).mono ?_;rintro e w1 ⟨rfl,hr⟩;have HR1:=h_ hr;clear x0 x1 x2 x3 x4 x5 x6 x7 x8 e0 e1 e2 e3 e4 e5 e6;obtain⟨x0,x1,x2,x3,x4,x5,x6,x7,x8⟩:=blk9 (HR1.out.b1);obtain⟨e0,e1,e2,e3,e4,e5,e6⟩:=blk7 (HR1.out.b2);clear hr);go_ret;exact⟨ret_bool (by rw[HE.out]<;>first | (simp;done) | (simp;omega)),HR1.out.frm⟩
theorem RF3_5{w wc:World}{b1 b2:Nat}{fo fe it se:Sl}{ts:List (Sl×Itm)}{x:St}{G:Nat→Prop}{a b n:Int}{s t u:ByteArray}(h:RefAt w wc b1 b2 fo fe it se ts x G ⟨5,a,b,n,s,t,u⟩)(ho:evOk ⟨5,a,b,n,s,t,u⟩=true){v:Nat→Value}:
  Code.wp Tryz.prog (peel 3 (bodyOf Tryz.f30)) (bodyPost Tryz.prog Tryz.f30 λe w'=>e=.returned (.bool (fits x ⟨5,a,b,n,s,t,u⟩))∧Frm Nix w w') (fitsAct b1 b2 (inS x b) v) wc:=by
 unfold fitsAct
 have HE:Hid (fits x ⟨5,a,b,n,s,t,u⟩=((isI Fee.id a x.fees))):=by
  unfold Hid fits;rw[ho];simp[Bool.and_assoc]
 have HR0:=h_ h;obtain⟨x0,x1,x2,x3,x4,x5,x6,x7,x8⟩:=blk9 (HR0.out.b1);obtain⟨e0,e1,e2,e3,e4,e5,e6⟩:=blk7 (HR0.out.b2);have K0:Hid (∀W,RefAt w W b1 b2 fo fe it se ts x G ⟨5,a,b,n,s,t,u⟩→Calls Tryz.prog 33 #[stV fo fe it se x,.int .i64 a] W λe w'=>e=.returned (.int .i64 (posR Fee.id a x.fees))∧RefAt w w' b1 b2 fo fe it se ts x G ⟨5,a,b,n,s,t,u⟩):=λW hW=>(rFeed_any hW.st hW.small a).mono λe w' q=>⟨q.1,hW.nix q.2⟩
 clear h ho;simp only[peel,bodyOf,Tryz.f30]
 cases hc0:isI Fee.id a x.fees with
 | true=>
   obtain⟨p0,-,hp0,-⟩:=posR_at hc0;rw[hp0] at K0;have hn0:¬(p0:Int)<0:=by omega
   have hm0:(0:Int)≤(p0:Int):=by omega
   rw[hc0] at HE;clear hp0 hc0;go_wp2_with (go_at_call 33;refine(K0.out _ HR0.out).mono ?_;rintro e w1 ⟨rfl,hr⟩;have HR1:=h_ hr;clear x0 x1 x2 x3 x4 x5 x6 x7 x8 e0 e1 e2 e3 e4 e5 e6;obtain⟨x0,x1,x2,x3,x4,x5,x6,x7,x8⟩:=blk9 (HR1.out.b1);obtain⟨e0,e1,e2,e3,e4,e5,e6⟩:=blk7 (HR1.out.b2);clear hr);go_ret
   exact⟨ret_bool (by rw[HE.out]<;>first | (simp;done) | (simp;omega)),HR1.out.frm⟩
 | false=>
   rw[posR_end hc0] at K0;rw[hc0] at HE;clear hc0;go_wp2_with (go_at_call 33;refine(K0.out _ HR0.out).mono ?_;rintro e w1 ⟨rfl,hr⟩;have HR1:=h_ hr;clear x0 x1 x2 x3 x4 x5 x6 x7 x8 e0 e1 e2 e3 e4 e5 e6;obtain⟨x0,x1,x2,x3,x4,x5,x6,x7,x8⟩:=blk9 (HR1.out.b1);obtain⟨e0,e1,e2,e3,e4,e5,e6⟩:=blk7 (HR1.out.b2);clear hr);go_ret;exact⟨ret_bool (by rw[HE.out]<;>first | (simp;done) | (simp;omega)),HR1.out.frm⟩
theorem RF3_6{w wc:World}{b1 b2:Nat}{fo fe it se:Sl}{ts:List (Sl×Itm)}{x:St}{G:Nat→Prop}{a b n:Int}{s t u:ByteArray}(h:RefAt w wc b1 b2 fo fe it se ts x G ⟨6,a,b,n,s,t,u⟩)(ho:evOk ⟨6,a,b,n,s,t,u⟩=true){v:Nat→Value}:
  Code.wp Tryz.prog (peel 3 (bodyOf Tryz.f30)) (bodyPost Tryz.prog Tryz.f30 λe w'=>e=.returned (.bool (fits x ⟨6,a,b,n,s,t,u⟩))∧Frm Nix w w') (fitsAct b1 b2 (inS x b) v) wc:=by
 unfold fitsAct
 have HE:Hid (fits x ⟨6,a,b,n,s,t,u⟩=((isI Fee.id a x.fees)&&((inS x b)))):=by
  unfold Hid fits;rw[ho];simp[Bool.and_assoc]
 have HR0:=h_ h;obtain⟨x0,x1,x2,x3,x4,x5,x6,x7,x8⟩:=blk9 (HR0.out.b1);obtain⟨e0,e1,e2,e3,e4,e5,e6⟩:=blk7 (HR0.out.b2);have K0:Hid (∀W,RefAt w W b1 b2 fo fe it se ts x G ⟨6,a,b,n,s,t,u⟩→Calls Tryz.prog 33 #[stV fo fe it se x,.int .i64 a] W λe w'=>e=.returned (.int .i64 (posR Fee.id a x.fees))∧RefAt w w' b1 b2 fo fe it se ts x G ⟨6,a,b,n,s,t,u⟩):=λW hW=>(rFeed_any hW.st hW.small a).mono λe w' q=>⟨q.1,hW.nix q.2⟩
 clear h ho;simp only[peel,bodyOf,Tryz.f30]
 cases hc0:isI Fee.id a x.fees with
 | true=>
   obtain⟨p0,-,hp0,-⟩:=posR_at hc0;rw[hp0] at K0;have hn0:¬(p0:Int)<0:=by omega
   have hm0:(0:Int)≤(p0:Int):=by omega
   rw[hc0] at HE;clear hp0 hc0
   cases hc1:inS x b with
   | true=>
     rw[hc1] at HE
     try rw[hc1] at K1
     go_wp2_with (go_at_call 33;refine(K0.out _ HR0.out).mono ?_;rintro e w1 ⟨rfl,hr⟩;have HR1:=h_ hr;clear x0 x1 x2 x3 x4 x5 x6 x7 x8 e0 e1 e2 e3 e4 e5 e6;obtain⟨x0,x1,x2,x3,x4,x5,x6,x7,x8⟩:=blk9 (HR1.out.b1);obtain⟨e0,e1,e2,e3,e4,e5,e6⟩:=blk7 (HR1.out.b2);clear hr);go_ret
     exact⟨ret_bool (by rw[HE.out]<;>first | (simp;done) | (simp;omega)),HR1.out.frm⟩
   | false=>
     rw[hc1] at HE;go_wp2_with (go_at_call 33;refine(K0.out _ HR0.out).mono ?_;rintro e w1 ⟨rfl,hr⟩;have HR1:=h_ hr;clear x0 x1 x2 x3 x4 x5 x6 x7 x8 e0 e1 e2 e3 e4 e5 e6;obtain⟨x0,x1,x2,x3,x4,x5,x6,x7,x8⟩:=blk9 (HR1.out.b1);obtain⟨e0,e1,e2,e3,e4,e5,e6⟩:=blk7 (HR1.out.b2);clear hr);go_ret
     exact⟨ret_bool (by rw[HE.out]<;>first | (simp;done) | (simp;omega)),HR1.out.frm⟩
 | false=>
   rw[posR_end hc0] at K0;rw[hc0] at HE;clear hc0;go_wp2_with (go_at_call 33;refine(K0.out _ HR0.out).mono ?_;rintro e w1 ⟨rfl,hr⟩;have HR1:=h_ hr;clear x0 x1 x2 x3 x4 x5 x6 x7 x8 e0 e1 e2 e3 e4 e5 e6;obtain⟨x0,x1,x2,x3,x4,x5,x6,x7,x8⟩:=blk9 (HR1.out.b1);obtain⟨e0,e1,e2,e3,e4,e5,e6⟩:=blk7 (HR1.out.b2);clear hr);go_ret;exact⟨ret_bool (by rw[HE.out]<;>first | (simp;done) | (simp;omega)),HR1.out.frm⟩
theorem RF3_7{w wc:World}{b1 b2:Nat}{fo fe it se:Sl}{ts:List (Sl×Itm)}{x:St}{G:Nat→Prop}{a b n:Int}{s t u:ByteArray}(h:RefAt w wc b1 b2 fo fe it se ts x G ⟨7,a,b,n,s,t,u⟩)(ho:evOk ⟨7,a,b,n,s,t,u⟩=true){v:Nat→Value}:
  Code.wp Tryz.prog (peel 3 (bodyOf Tryz.f30)) (bodyPost Tryz.prog Tryz.f30 λe w'=>e=.returned (.bool (fits x ⟨7,a,b,n,s,t,u⟩))∧Frm Nix w w') (fitsAct b1 b2 (inS x b) v) wc:=by
 unfold fitsAct
 have HE:Hid (fits x ⟨7,a,b,n,s,t,u⟩=((!isI Itm.id a x.itms)&&((decide (x.itms.length<1024))&&((isI Fee.id b x.fees)&&((decide (guidS x b s=0))))))):=by
  unfold Hid fits;rw[ho];simp[Bool.and_assoc]
 have HR0:=h_ h;obtain⟨x0,x1,x2,x3,x4,x5,x6,x7,x8⟩:=blk9 (HR0.out.b1);obtain⟨e0,e1,e2,e3,e4,e5,e6⟩:=blk7 (HR0.out.b2);have K0:Hid (∀W,RefAt w W b1 b2 fo fe it se ts x G ⟨7,a,b,n,s,t,u⟩→Calls Tryz.prog 34 #[stV fo fe it se x,.int .i64 a] W λe w'=>e=.returned (.int .i64 (posR Itm.id a x.itms))∧RefAt w w' b1 b2 fo fe it se ts x G ⟨7,a,b,n,s,t,u⟩):=λW hW=>(rItem_any hW.st hW.small a).mono λe w' q=>⟨q.1,hW.nix q.2⟩
 have K2:Hid (∀W,RefAt w W b1 b2 fo fe it se ts x G ⟨7,a,b,n,s,t,u⟩→Calls Tryz.prog 33 #[stV fo fe it se x,.int .i64 b] W λe w'=>e=.returned (.int .i64 (posR Fee.id b x.fees))∧RefAt w w' b1 b2 fo fe it se ts x G ⟨7,a,b,n,s,t,u⟩):=λW hW=>(rFeed_any hW.st hW.small b).mono λe w' q=>⟨q.1,hW.nix q.2⟩
 have K3:Hid (∀W,RefAt w W b1 b2 fo fe it se ts x G ⟨7,a,b,n,s,t,u⟩→Calls Tryz.prog 77 #[stV fo fe it se x,.int .i64 b,.string s] W λe w'=>e=.returned (.int .i64 (guidS x b s))∧RefAt w w' b1 b2 fo fe it se ts x G ⟨7,a,b,n,s,t,u⟩):=λW hW=>(rGuid_any hW.st hW.small b s).mono λe w' q=>⟨q.1,hW.nix q.2⟩
 clear h ho;simp only[peel,bodyOf,Tryz.f30]
 cases hc0:isI Itm.id a x.itms with
 | true=>
   obtain⟨p0,-,hp0,-⟩:=posR_at hc0;rw[hp0] at K0;have hn0:¬(p0:Int)<0:=by omega
   have hm0:(0:Int)≤(p0:Int):=by omega
   rw[hc0] at HE;clear hp0 hc0;go_wp2_with (go_at_call 34;refine(K0.out _ HR0.out).mono ?_;rintro e w1 ⟨rfl,hr⟩;have HR1:=h_ hr;clear x0 x1 x2 x3 x4 x5 x6 x7 x8 e0 e1 e2 e3 e4 e5 e6;obtain⟨x0,x1,x2,x3,x4,x5,x6,x7,x8⟩:=blk9 (HR1.out.b1);obtain⟨e0,e1,e2,e3,e4,e5,e6⟩:=blk7 (HR1.out.b2);clear hr);go_ret
   exact⟨ret_bool (by rw[HE.out]<;>first | (simp;done) | (simp;omega)),HR1.out.frm⟩
 | false=>
   rw[posR_end hc0] at K0;rw[hc0] at HE;clear hc0
   by_cases hc1:x.itms.length<1024
   ·have hi1:(x.itms.length:Int)<1024:=by omega
    rw[decide_eq_true hc1] at HE
    cases hc2:isI Fee.id b x.fees with
    | true=>
      obtain⟨p2,-,hp2,-⟩:=posR_at hc2;rw[hp2] at K2;have hn2:¬(p2:Int)<0:=by omega
      have hm2:(0:Int)≤(p2:Int):=by omega
      rw[hc2] at HE;clear hp2 hc2
      by_cases hc3:guidS x b s=0
      ·have hi3:guidS x b s=0:=by assumption
       rw[decide_eq_true hc3] at HE;have hb3:(guidS x b s==0)=true:=by rw[hc3];rfl
       go_wp2_with (first
         | (go_at_call 77;have _q:=HR2;refine(K3.out _ HR2.out).mono ?_;rintro e w3 ⟨rfl,hr⟩;have HR3:=h_ hr;clear x0 x1 x2 x3 x4 x5 x6 x7 x8 e0 e1 e2 e3 e4 e5 e6;obtain⟨x0,x1,x2,x3,x4,x5,x6,x7,x8⟩:=blk9 (HR3.out.b1);obtain⟨e0,e1,e2,e3,e4,e5,e6⟩:=blk7 (HR3.out.b2);clear hr)
         | (go_at_call 33;have _q:=HR1;refine(K2.out _ HR1.out).mono ?_;rintro e w2 ⟨rfl,hr⟩;have HR2:=h_ hr;clear x0 x1 x2 x3 x4 x5 x6 x7 x8 e0 e1 e2 e3 e4 e5 e6;obtain⟨x0,x1,x2,x3,x4,x5,x6,x7,x8⟩:=blk9 (HR2.out.b1);obtain⟨e0,e1,e2,e3,e4,e5,e6⟩:=blk7 (HR2.out.b2);clear hr)
         | (go_at_call 34;refine(K0.out _ HR0.out).mono ?_;rintro e w1 ⟨rfl,hr⟩;have HR1:=h_ hr;clear x0 x1 x2 x3 x4 x5 x6 x7 x8 e0 e1 e2 e3 e4 e5 e6;obtain⟨x0,x1,x2,x3,x4,x5,x6,x7,x8⟩:=blk9 (HR1.out.b1);obtain⟨e0,e1,e2,e3,e4,e5,e6⟩:=blk7 (HR1.out.b2);clear hr))
       go_ret;exact⟨ret_bool (by rw[HE.out]<;>first | (simp;done) | (simp;omega)),HR3.out.frm⟩
      ·have hi3:¬guidS x b s=0:=by assumption
       rw[decide_eq_false hc3] at HE;have hb3:(guidS x b s==0)=false:=by simp[hc3]
       go_wp2_with (first
         | (go_at_call 77;have _q:=HR2;refine(K3.out _ HR2.out).mono ?_;rintro e w3 ⟨rfl,hr⟩;have HR3:=h_ hr;clear x0 x1 x2 x3 x4 x5 x6 x7 x8 e0 e1 e2 e3 e4 e5 e6;obtain⟨x0,x1,x2,x3,x4,x5,x6,x7,x8⟩:=blk9 (HR3.out.b1);obtain⟨e0,e1,e2,e3,e4,e5,e6⟩:=blk7 (HR3.out.b2);clear hr)
         | (go_at_call 33;have _q:=HR1;refine(K2.out _ HR1.out).mono ?_;rintro e w2 ⟨rfl,hr⟩;have HR2:=h_ hr;clear x0 x1 x2 x3 x4 x5 x6 x7 x8 e0 e1 e2 e3 e4 e5 e6;obtain⟨x0,x1,x2,x3,x4,x5,x6,x7,x8⟩:=blk9 (HR2.out.b1);obtain⟨e0,e1,e2,e3,e4,e5,e6⟩:=blk7 (HR2.out.b2);clear hr)
         | (go_at_call 34;refine(K0.out _ HR0.out).mono ?_;rintro e w1 ⟨rfl,hr⟩;have HR1:=h_ hr;clear x0 x1 x2 x3 x4 x5 x6 x7 x8 e0 e1 e2 e3 e4 e5 e6;obtain⟨x0,x1,x2,x3,x4,x5,x6,x7,x8⟩:=blk9 (HR1.out.b1);obtain⟨e0,e1,e2,e3,e4,e5,e6⟩:=blk7 (HR1.out.b2);clear hr))
       go_ret
       exact⟨ret_bool (by rw[HE.out]<;>first | (simp;done) | (simp;omega)),HR3.out.frm⟩
    | false=>
      rw[posR_end hc2] at K2;rw[hc2] at HE;clear hc2
      go_wp2_with (first
        | (go_at_call 33;have _q:=HR1;refine(K2.out _ HR1.out).mono ?_;rintro e w2 ⟨rfl,hr⟩;have HR2:=h_ hr;clear x0 x1 x2 x3 x4 x5 x6 x7 x8 e0 e1 e2 e3 e4 e5 e6;obtain⟨x0,x1,x2,x3,x4,x5,x6,x7,x8⟩:=blk9 (HR2.out.b1);obtain⟨e0,e1,e2,e3,e4,e5,e6⟩:=blk7 (HR2.out.b2);clear hr)
        | (go_at_call 34;refine(K0.out _ HR0.out).mono ?_;rintro e w1 ⟨rfl,hr⟩;have HR1:=h_ hr;clear x0 x1 x2 x3 x4 x5 x6 x7 x8 e0 e1 e2 e3 e4 e5 e6;obtain⟨x0,x1,x2,x3,x4,x5,x6,x7,x8⟩:=blk9 (HR1.out.b1);obtain⟨e0,e1,e2,e3,e4,e5,e6⟩:=blk7 (HR1.out.b2);clear hr))
      go_ret;exact⟨ret_bool (by rw[HE.out]<;>first | (simp;done) | (simp;omega)),HR2.out.frm⟩
   ·have hi1:¬(x.itms.length:Int)<1024:=by omega
    rw[decide_eq_false hc1] at HE;go_wp2_with (go_at_call 34;refine(K0.out _ HR0.out).mono ?_;rintro e w1 ⟨rfl,hr⟩;have HR1:=h_ hr;clear x0 x1 x2 x3 x4 x5 x6 x7 x8 e0 e1 e2 e3 e4 e5 e6;obtain⟨x0,x1,x2,x3,x4,x5,x6,x7,x8⟩:=blk9 (HR1.out.b1);obtain⟨e0,e1,e2,e3,e4,e5,e6⟩:=blk7 (HR1.out.b2);clear hr);go_ret;exact⟨ret_bool (by rw[HE.out]<;>first | (simp;done) | (simp;omega)),HR1.out.frm⟩
theorem RF3_8{w wc:World}{b1 b2:Nat}{fo fe it se:Sl}{ts:List (Sl×Itm)}{x:St}{G:Nat→Prop}{a b n:Int}{s t u:ByteArray}(h:RefAt w wc b1 b2 fo fe it se ts x G ⟨8,a,b,n,s,t,u⟩)(ho:evOk ⟨8,a,b,n,s,t,u⟩=true){v:Nat→Value}:
  Code.wp Tryz.prog (peel 3 (bodyOf Tryz.f30)) (bodyPost Tryz.prog Tryz.f30 λe w'=>e=.returned (.bool (fits x ⟨8,a,b,n,s,t,u⟩))∧Frm Nix w w') (fitsAct b1 b2 (inS x b) v) wc:=by
 unfold fitsAct
 have HE:Hid (fits x ⟨8,a,b,n,s,t,u⟩=((isI Itm.id a x.itms))):=by
  unfold Hid fits;rw[ho];simp[Bool.and_assoc]
 have HR0:=h_ h;obtain⟨x0,x1,x2,x3,x4,x5,x6,x7,x8⟩:=blk9 (HR0.out.b1);obtain⟨e0,e1,e2,e3,e4,e5,e6⟩:=blk7 (HR0.out.b2);have K0:Hid (∀W,RefAt w W b1 b2 fo fe it se ts x G ⟨8,a,b,n,s,t,u⟩→Calls Tryz.prog 34 #[stV fo fe it se x,.int .i64 a] W λe w'=>e=.returned (.int .i64 (posR Itm.id a x.itms))∧RefAt w w' b1 b2 fo fe it se ts x G ⟨8,a,b,n,s,t,u⟩):=λW hW=>(rItem_any hW.st hW.small a).mono λe w' q=>⟨q.1,hW.nix q.2⟩
 clear h ho;simp only[peel,bodyOf,Tryz.f30]
 cases hc0:isI Itm.id a x.itms with
 | true=>
   obtain⟨p0,-,hp0,-⟩:=posR_at hc0;rw[hp0] at K0;have hn0:¬(p0:Int)<0:=by omega
   have hm0:(0:Int)≤(p0:Int):=by omega
   rw[hc0] at HE;clear hp0 hc0;go_wp2_with (go_at_call 34;refine(K0.out _ HR0.out).mono ?_;rintro e w1 ⟨rfl,hr⟩;have HR1:=h_ hr;clear x0 x1 x2 x3 x4 x5 x6 x7 x8 e0 e1 e2 e3 e4 e5 e6;obtain⟨x0,x1,x2,x3,x4,x5,x6,x7,x8⟩:=blk9 (HR1.out.b1);obtain⟨e0,e1,e2,e3,e4,e5,e6⟩:=blk7 (HR1.out.b2);clear hr);go_ret
   exact⟨ret_bool (by rw[HE.out]<;>first | (simp;done) | (simp;omega)),HR1.out.frm⟩
 | false=>
   rw[posR_end hc0] at K0;rw[hc0] at HE;clear hc0;go_wp2_with (go_at_call 34;refine(K0.out _ HR0.out).mono ?_;rintro e w1 ⟨rfl,hr⟩;have HR1:=h_ hr;clear x0 x1 x2 x3 x4 x5 x6 x7 x8 e0 e1 e2 e3 e4 e5 e6;obtain⟨x0,x1,x2,x3,x4,x5,x6,x7,x8⟩:=blk9 (HR1.out.b1);obtain⟨e0,e1,e2,e3,e4,e5,e6⟩:=blk7 (HR1.out.b2);clear hr);go_ret;exact⟨ret_bool (by rw[HE.out]<;>first | (simp;done) | (simp;omega)),HR1.out.frm⟩
theorem RF3_9{w wc:World}{b1 b2:Nat}{fo fe it se:Sl}{ts:List (Sl×Itm)}{x:St}{G:Nat→Prop}{a b n:Int}{s t u:ByteArray}(h:RefAt w wc b1 b2 fo fe it se ts x G ⟨9,a,b,n,s,t,u⟩)(ho:evOk ⟨9,a,b,n,s,t,u⟩=true){v:Nat→Value}:
  Code.wp Tryz.prog (peel 3 (bodyOf Tryz.f30)) (bodyPost Tryz.prog Tryz.f30 λe w'=>e=.returned (.bool (fits x ⟨9,a,b,n,s,t,u⟩))∧Frm Nix w w') (fitsAct b1 b2 (inS x b) v) wc:=by
 unfold fitsAct
 have HE:Hid (fits x ⟨9,a,b,n,s,t,u⟩=((isI Itm.id a x.itms))):=by
  unfold Hid fits;rw[ho];simp[Bool.and_assoc]
 have HR0:=h_ h;obtain⟨x0,x1,x2,x3,x4,x5,x6,x7,x8⟩:=blk9 (HR0.out.b1);obtain⟨e0,e1,e2,e3,e4,e5,e6⟩:=blk7 (HR0.out.b2);have K0:Hid (∀W,RefAt w W b1 b2 fo fe it se ts x G ⟨9,a,b,n,s,t,u⟩→Calls Tryz.prog 34 #[stV fo fe it se x,.int .i64 a] W λe w'=>e=.returned (.int .i64 (posR Itm.id a x.itms))∧RefAt w w' b1 b2 fo fe it se ts x G ⟨9,a,b,n,s,t,u⟩):=λW hW=>(rItem_any hW.st hW.small a).mono λe w' q=>⟨q.1,hW.nix q.2⟩
 clear h ho;simp only[peel,bodyOf,Tryz.f30]
 cases hc0:isI Itm.id a x.itms with
 | true=>
   obtain⟨p0,-,hp0,-⟩:=posR_at hc0;rw[hp0] at K0;have hn0:¬(p0:Int)<0:=by omega
   have hm0:(0:Int)≤(p0:Int):=by omega
   rw[hc0] at HE;clear hp0 hc0;go_wp2_with (go_at_call 34;refine(K0.out _ HR0.out).mono ?_;rintro e w1 ⟨rfl,hr⟩;have HR1:=h_ hr;clear x0 x1 x2 x3 x4 x5 x6 x7 x8 e0 e1 e2 e3 e4 e5 e6;obtain⟨x0,x1,x2,x3,x4,x5,x6,x7,x8⟩:=blk9 (HR1.out.b1);obtain⟨e0,e1,e2,e3,e4,e5,e6⟩:=blk7 (HR1.out.b2);clear hr);go_ret
   exact⟨ret_bool (by rw[HE.out]<;>first | (simp;done) | (simp;omega)),HR1.out.frm⟩
 | false=>
   rw[posR_end hc0] at K0;rw[hc0] at HE;clear hc0;go_wp2_with (go_at_call 34;refine(K0.out _ HR0.out).mono ?_;rintro e w1 ⟨rfl,hr⟩;have HR1:=h_ hr;clear x0 x1 x2 x3 x4 x5 x6 x7 x8 e0 e1 e2 e3 e4 e5 e6;obtain⟨x0,x1,x2,x3,x4,x5,x6,x7,x8⟩:=blk9 (HR1.out.b1);obtain⟨e0,e1,e2,e3,e4,e5,e6⟩:=blk7 (HR1.out.b2);clear hr);go_ret;exact⟨ret_bool (by rw[HE.out]<;>first | (simp;done) | (simp;omega)),HR1.out.frm⟩
theorem RF3_11{w wc:World}{b1 b2:Nat}{fo fe it se:Sl}{ts:List (Sl×Itm)}{x:St}{G:Nat→Prop}{a b n:Int}{s t u:ByteArray}(h:RefAt w wc b1 b2 fo fe it se ts x G ⟨11,a,b,n,s,t,u⟩)(ho:evOk ⟨11,a,b,n,s,t,u⟩=true){v:Nat→Value}:
  Code.wp Tryz.prog (peel 3 (bodyOf Tryz.f30)) (bodyPost Tryz.prog Tryz.f30 λe w'=>e=.returned (.bool (fits x ⟨11,a,b,n,s,t,u⟩))∧Frm Nix w w') (fitsAct b1 b2 (inS x b) v) wc:=by
 unfold fitsAct
 have HE:Hid (fits x ⟨11,a,b,n,s,t,u⟩=((!isI Sea.id a x.seas)&&((decide (x.seas.length<32))))):=by
  unfold Hid fits;rw[ho];simp[Bool.and_assoc]
 have HR0:=h_ h;obtain⟨x0,x1,x2,x3,x4,x5,x6,x7,x8⟩:=blk9 (HR0.out.b1);obtain⟨e0,e1,e2,e3,e4,e5,e6⟩:=blk7 (HR0.out.b2);have K0:Hid (∀W,RefAt w W b1 b2 fo fe it se ts x G ⟨11,a,b,n,s,t,u⟩→Calls Tryz.prog 79 #[stV fo fe it se x,.int .i64 a] W λe w'=>e=.returned (.int .i64 (posR Sea.id a x.seas))∧RefAt w w' b1 b2 fo fe it se ts x G ⟨11,a,b,n,s,t,u⟩):=λW hW=>(rSearch_any hW.st hW.small a).mono λe w' q=>⟨q.1,hW.nix q.2⟩
 clear h ho;simp only[peel,bodyOf,Tryz.f30]
 cases hc0:isI Sea.id a x.seas with
 | true=>
   obtain⟨p0,-,hp0,-⟩:=posR_at hc0;rw[hp0] at K0;have hn0:¬(p0:Int)<0:=by omega
   have hm0:(0:Int)≤(p0:Int):=by omega
   rw[hc0] at HE;clear hp0 hc0;go_wp2_with (go_at_call 79;refine(K0.out _ HR0.out).mono ?_;rintro e w1 ⟨rfl,hr⟩;have HR1:=h_ hr;clear x0 x1 x2 x3 x4 x5 x6 x7 x8 e0 e1 e2 e3 e4 e5 e6;obtain⟨x0,x1,x2,x3,x4,x5,x6,x7,x8⟩:=blk9 (HR1.out.b1);obtain⟨e0,e1,e2,e3,e4,e5,e6⟩:=blk7 (HR1.out.b2);clear hr);go_ret
   exact⟨ret_bool (by rw[HE.out]<;>first | (simp;done) | (simp;omega)),HR1.out.frm⟩
 | false=>
   rw[posR_end hc0] at K0;rw[hc0] at HE;clear hc0
   by_cases hc1:x.seas.length<32
   ·have hi1:(x.seas.length:Int)<32:=by omega
    rw[decide_eq_true hc1] at HE;go_wp2_with (go_at_call 79;refine(K0.out _ HR0.out).mono ?_;rintro e w1 ⟨rfl,hr⟩;have HR1:=h_ hr;clear x0 x1 x2 x3 x4 x5 x6 x7 x8 e0 e1 e2 e3 e4 e5 e6;obtain⟨x0,x1,x2,x3,x4,x5,x6,x7,x8⟩:=blk9 (HR1.out.b1);obtain⟨e0,e1,e2,e3,e4,e5,e6⟩:=blk7 (HR1.out.b2);clear hr);go_ret;exact⟨ret_bool (by rw[HE.out]<;>first | (simp;done) | (simp;omega)),HR1.out.frm⟩
   ·have hi1:¬(x.seas.length:Int)<32:=by omega
    rw[decide_eq_false hc1] at HE;go_wp2_with (go_at_call 79;refine(K0.out _ HR0.out).mono ?_;rintro e w1 ⟨rfl,hr⟩;have HR1:=h_ hr;clear x0 x1 x2 x3 x4 x5 x6 x7 x8 e0 e1 e2 e3 e4 e5 e6;obtain⟨x0,x1,x2,x3,x4,x5,x6,x7,x8⟩:=blk9 (HR1.out.b1);obtain⟨e0,e1,e2,e3,e4,e5,e6⟩:=blk7 (HR1.out.b2);clear hr);go_ret;exact⟨ret_bool (by rw[HE.out]<;>first | (simp;done) | (simp;omega)),HR1.out.frm⟩
theorem RF3_12{w wc:World}{b1 b2:Nat}{fo fe it se:Sl}{ts:List (Sl×Itm)}{x:St}{G:Nat→Prop}{a b n:Int}{s t u:ByteArray}(h:RefAt w wc b1 b2 fo fe it se ts x G ⟨12,a,b,n,s,t,u⟩)(ho:evOk ⟨12,a,b,n,s,t,u⟩=true){v:Nat→Value}:
  Code.wp Tryz.prog (peel 3 (bodyOf Tryz.f30)) (bodyPost Tryz.prog Tryz.f30 λe w'=>e=.returned (.bool (fits x ⟨12,a,b,n,s,t,u⟩))∧Frm Nix w w') (fitsAct b1 b2 (inS x b) v) wc:=by
 unfold fitsAct
 have HE:Hid (fits x ⟨12,a,b,n,s,t,u⟩=((isI Sea.id a x.seas))):=by
  unfold Hid fits;rw[ho];simp[Bool.and_assoc]
 have HR0:=h_ h;obtain⟨x0,x1,x2,x3,x4,x5,x6,x7,x8⟩:=blk9 (HR0.out.b1);obtain⟨e0,e1,e2,e3,e4,e5,e6⟩:=blk7 (HR0.out.b2);have K0:Hid (∀W,RefAt w W b1 b2 fo fe it se ts x G ⟨12,a,b,n,s,t,u⟩→Calls Tryz.prog 79 #[stV fo fe it se x,.int .i64 a] W λe w'=>e=.returned (.int .i64 (posR Sea.id a x.seas))∧RefAt w w' b1 b2 fo fe it se ts x G ⟨12,a,b,n,s,t,u⟩):=λW hW=>(rSearch_any hW.st hW.small a).mono λe w' q=>⟨q.1,hW.nix q.2⟩
 clear h ho;simp only[peel,bodyOf,Tryz.f30]
 cases hc0:isI Sea.id a x.seas with
 | true=>
   obtain⟨p0,-,hp0,-⟩:=posR_at hc0;rw[hp0] at K0;have hn0:¬(p0:Int)<0:=by omega
   have hm0:(0:Int)≤(p0:Int):=by omega
   rw[hc0] at HE;clear hp0 hc0;go_wp2_with (go_at_call 79;refine(K0.out _ HR0.out).mono ?_;rintro e w1 ⟨rfl,hr⟩;have HR1:=h_ hr;clear x0 x1 x2 x3 x4 x5 x6 x7 x8 e0 e1 e2 e3 e4 e5 e6;obtain⟨x0,x1,x2,x3,x4,x5,x6,x7,x8⟩:=blk9 (HR1.out.b1);obtain⟨e0,e1,e2,e3,e4,e5,e6⟩:=blk7 (HR1.out.b2);clear hr);go_ret
   exact⟨ret_bool (by rw[HE.out]<;>first | (simp;done) | (simp;omega)),HR1.out.frm⟩
 | false=>
   rw[posR_end hc0] at K0;rw[hc0] at HE;clear hc0;go_wp2_with (go_at_call 79;refine(K0.out _ HR0.out).mono ?_;rintro e w1 ⟨rfl,hr⟩;have HR1:=h_ hr;clear x0 x1 x2 x3 x4 x5 x6 x7 x8 e0 e1 e2 e3 e4 e5 e6;obtain⟨x0,x1,x2,x3,x4,x5,x6,x7,x8⟩:=blk9 (HR1.out.b1);obtain⟨e0,e1,e2,e3,e4,e5,e6⟩:=blk7 (HR1.out.b2);clear hr);go_ret;exact⟨ret_bool (by rw[HE.out]<;>first | (simp;done) | (simp;omega)),HR1.out.frm⟩
theorem RF3_13{w wc:World}{b1 b2:Nat}{fo fe it se:Sl}{ts:List (Sl×Itm)}{x:St}{G:Nat→Prop}{a b n:Int}{s t u:ByteArray}(h:RefAt w wc b1 b2 fo fe it se ts x G ⟨13,a,b,n,s,t,u⟩)(ho:evOk ⟨13,a,b,n,s,t,u⟩=true){v:Nat→Value}:
  Code.wp Tryz.prog (peel 3 (bodyOf Tryz.f30)) (bodyPost Tryz.prog Tryz.f30 λe w'=>e=.returned (.bool (fits x ⟨13,a,b,n,s,t,u⟩))∧Frm Nix w w') (fitsAct b1 b2 (inS x b) v) wc:=by
 unfold fitsAct
 have HE:Hid (fits x ⟨13,a,b,n,s,t,u⟩=((decide (x.clock≤n)))):=by
  unfold Hid fits;rw[ho];simp[Bool.and_assoc]
 have HR0:=h_ h;obtain⟨x0,x1,x2,x3,x4,x5,x6,x7,x8⟩:=blk9 (HR0.out.b1);obtain⟨e0,e1,e2,e3,e4,e5,e6⟩:=blk7 (HR0.out.b2);clear h ho;simp only[peel,bodyOf,Tryz.f30]
 by_cases hc0:x.clock≤n
 ·have hi0:x.clock≤n:=by assumption
  rw[decide_eq_true hc0] at HE;go_wp2;go_ret;exact⟨ret_bool (by rw[HE.out]<;>first | (simp;done) | (simp;omega)),HR0.out.frm⟩
 ·have hi0:¬x.clock≤n:=by assumption
  rw[decide_eq_false hc0] at HE;go_wp2;go_ret;exact⟨ret_bool (by rw[HE.out]<;>first | (simp;done) | (simp;omega)),HR0.out.frm⟩
end Go.Proofs.YtaecjmiobllhmaaGreat
