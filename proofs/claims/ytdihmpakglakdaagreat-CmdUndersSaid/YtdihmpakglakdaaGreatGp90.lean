/-
  Contracts: the document's Cut, Short.
-/
import Derived.Test.YtdihmpakglakdaaGreatGp34
import Derived.Test.YtdihmpakglakdaaGreatGp08
import Derived.Test.YtdihmpakglakdaaGreatGp62
import Derived.Test.YtdihmpakglakdaaGreatGp32
import Derived.Deep.RegionHeld3
import Derived.Test.YtdihmpakglakdaaGreatGp38
import Derived.BigQuiet
import Derived.Test.YtdihmpakglakdaaGreatGp39
import Derived.Test.YtdihmpakglakdaaGreatGp40
import Derived.Test.YtdihmpakglakdaaGreatGp30
import Derived.Test.YtdihmpakglakdaaGreatGp68
set_option linter.unusedVariables false
set_option linter.unusedSimpArgs false
set_option maxRecDepth 100000
set_option maxHeartbeats 16000000
namespace Go.Proofs.YtdihmpakglakdaaGreat
open Go.RowKit Go.Lib
theorem bys_from(s:ByteArray)(k:Nat):bys (s.extract k s.size)=(bys s).drop k:=bys_cut s k
theorem rCut_any(s:ByteArray)(rs:List Nat)(hv:∀ r ∈ rs,Vr r)(hs:bys s=enc rs)(hsz:s.size≤1000000)(n:Int)(hn:I64 n)(w:World):
  Calls Tryz.prog 77 #[.string s,.int .i64 n] w fun e w'=>e=.returned (.string (ofB (enc (cutR rs n))))∧w=w':=by
 have HS:=h_ hs;have HV:=h_ hv;have HLen:Hid (s.size=(enc rs).length):=by unfold Hid;rw[size_bys,hs]
 have HI:=h_ hn;clear hs hv hn;go_enter Tryz.func77,Tryz.ntmps77;go_wp2
 go_loopw [5] (fun ev wr=>∃ (k E:Nat),k≤rs.length∧ev=.int .i64 E∧E=(enc (rs.take k)).length∧(k=0∨(E:Int)≤n)∧w=wr) (fun ev _=>s.size - (intOf ev).toNat)
 case atStart=>exact⟨0,0,by omega,rfl,rfl,.inl rfl,rfl⟩
 case round=>
  obtain⟨k,E,hk,rfl,hE,hn,rfl⟩:=hrel;have HE:=h_ hE;have HN:=h_ hn;have hES:E≤s.size:=by rw[hE,HLen.out];exact take_le rs _
  have hE0:(0:Int)≤(E:Int):=Int.natCast_nonneg _;have hE1:(E:Int)≤(s.size:Int):=by omega
  have hlo: -9223372036854775808≤n - (E:Int)∧n - (E:Int)≤9223372036854775807:=by
   have h1:=HI.out;unfold I64 at h1;rcases hn with h0 | h0
   ·subst h0
    have:E=0:=by rw[hE];rfl
    omega
   ·omega
  obtain⟨hlo,hhi⟩:=hlo;clear hE hn
  by_cases hlt:k<rs.length
  ·have hsl:=take_succ_len rs k hlt
   have hone:=encR_len rs[k];have hle:=take_le rs (k+1);have hps:E<s.size:=by rw[HLen.out,HE.out];omega
   have hd:decodeL (bys (s.extract E s.size))=(rs[k],(encR rs[k]).length):=by
    rw[bys_from,HS.out,HE.out,drop_enc,List.drop_eq_getElem_cons hlt,enc_cons];exact decode_enc _ (HV.out _ (List.getElem_mem hlt)) _
   have hxs:(s.extract E s.size).size=s.size - E:=by rw[size_bys,bys_from,List.length_drop,← size_bys]
   have kf:=First_any (s.extract E s.size) w (by omega) (by omega);rw[hd] at kf;have KF:=h_ kf;have HP2:Hid (E+(encR rs[k]).length=(enc (rs.take (k+1))).length):=by unfold Hid;rw[HE.out,hsl]
   have hP2:E+(encR rs[k]).length≤s.size:=by rw[HP2.out,HLen.out];exact hle
   have hone1:=hone.1;have hx0:decide ((E:Int)<(s.size:Int))=true:=decide_eq_true (by omega);have hx1:decide (E<s.size)=true:=decide_eq_true (by omega);clear hd hsl hone hle kf hxs;generalize (encR rs[k]).length=K at *;generalize rs[k]=R at *
   by_cases hgt:n - (E:Int)<(K:Int)
   ·have HR:Hid (s.extract 0 E=ofB (enc (cutR rs n))):=by
     unfold Hid;have e1:=HP2.out;have q:=cut_bytes HS.out n k (by omega) (HN.out.imp id fun h=>by rw[← HE.out];exact h) (.inr (by rw[← HP2.out];omega));rw[← HE.out] at q;exact q
    go_wp2_with (go_at_call 137;refine KF.out.mono ?_;rintro e w' ⟨rfl,rfl⟩);go_ret;exact⟨by rw[← HR.out]<;>rfl,rfl⟩
   ·have hng:¬n - (E:Int)<(K:Int):=hgt
    clear hgt;go_wp2_with (go_at_call 137;refine KF.out.mono ?_;rintro e w' ⟨rfl,rfl⟩);go_roundw
    case rel=>exact⟨k+1,E+K,by omega,by go_num,HP2.out,.inr (by omega),by first | trivial | rfl⟩
    case measure=>simp[intOf];omega
  ·obtain rfl:k=rs.length:=by omega
   have hPe:E=s.size:=by rw[HE.out,List.take_length,HLen.out]
   have HR:Hid (s.extract 0 E=ofB (enc (cutR rs n))):=by
    unfold Hid;have q:=cut_bytes HS.out n rs.length (Nat.le_refl _) (HN.out.imp id fun h=>by rw[← HE.out];exact h) (.inl rfl);rw[← HE.out] at q;exact q
   have hx0:decide ((E:Int)<(s.size:Int))=false:=decide_eq_false (by omega);have hx1:decide (E<s.size)=false:=decide_eq_false (by omega);clear hPe;go_wp2;go_ret;exact⟨by rw[← HR.out]<;>rfl,rfl⟩
theorem rShort_any(s:ByteArray)(hs:s.size≤10000)(m:Int)(hm:I64 m)(w:World):
  Calls Tryz.prog 35 #[.string s,.int .i64 m] w fun e w'=>e=.returned (.string (shortS s m))∧Frm Nix w w':=by
 obtain⟨rs,hrs⟩:∃ rs,cleanR (runesD (bys s)) [] false=rs:=⟨_,rfl⟩;have hv:∀ r ∈ rs,Vr r:=by rw[← hrs];exact cleanR_valid _ _ _ (runesD_valid _) (by simp)
 have hcs:cleanS (bys s)=enc rs:=by unfold cleanS;rw[hrs]
 have hvc:∀ r ∈ cutR rs m,Vr r:=fun r hr=>hv r (cutR_sub _ _ r hr)
 have h1:rs.length≤2 * s.size:=by
  have h1:=cleanR_len (runesD (bys s)) [] false;have h2:=runesD_len (bys s);rw[hrs] at h1;rw[← size_bys] at h2;simp at h1;omega
 have h2:=(enc_len rs).2;have hsz:(ofB (enc rs)).size≤1000000:=by rw[size_bys,bys_ofB];omega
 have h3:(enc (cutR rs m)).length≤(enc rs).length:=cut_le rs m;have hsz2:(ofB (enc (cutR rs m))).size≤1000000:=by rw[size_bys,bys_ofB];omega
 obtain⟨r1,hr1⟩:∃ r1,ofB (enc rs)=r1:=⟨_,rfl⟩;obtain⟨r2,hr2⟩:∃ r2,ofB (enc (cutR rs m))=r2:=⟨_,rfl⟩;obtain⟨r3,hr3⟩:∃ r3,shortS s m=r3:=⟨_,rfl⟩
 have K1:Hid (∀ W,Calls Tryz.prog 76 #[.string s] W fun e w'=>e=.returned (.string r1)∧Frm Nix W w'):=fun W=>by
  have q:=rClean_any s W (by omega);rw[hcs,hr1] at q;exact q
 have K2:Hid (∀ W,Calls Tryz.prog 77 #[.string r1,.int .i64 m] W fun e w'=>e=.returned (.string r2)∧Frm Nix W w'):=fun W=>by
  have q:=rCut_any (ofB (enc rs)) rs hv (bys_ofB _) hsz m hm W;rw[hr1,hr2] at q;exact q.mono fun e w' h=>⟨h.1,by rw[h.2];exact Frm.refl _ _⟩
 have K3:Hid (∀ W,Calls Tryz.prog 76 #[.string r2] W fun e w'=>e=.returned (.string r3)∧Frm Nix W w'):=fun W=>by
  have q:=rClean_any (ofB (enc (cutR rs m))) W hsz2
  have e3:ofB (cleanS (bys (ofB (enc (cutR rs m)))))=r3:=by
   rw[bys_ofB,cleanS_enc hvc,← hr3];unfold shortS shortR;rw[hrs]
  rw[e3,hr2] at q;exact q
 rw[hr3];clear hrs hv hcs hvc h1 h2 hsz h3 hsz2 hs hr1 hr2 hr3 hm;go_enter Tryz.func35,Tryz.ntmps35
 go_wp2_with (first
  | (go_at_call 76;have _q:=Z2;refine(K3.out _).mono ?_;rintro e w3 ⟨rfl,hf⟩;have Z3:Hid (Frm Nix w w3):=Z2.out.trans hf;clear hf)
  | (go_at_call 77;have _q:=Z1;refine(K2.out _).mono ?_;rintro e w2 ⟨rfl,hf⟩;have Z2:Hid (Frm Nix w w2):=Z1.out.trans hf;clear hf)
  | (go_at_call 76;refine(K1.out _).mono ?_;rintro e w1 ⟨rfl,hf⟩;have Z1:=h_ hf;clear hf))
 go_ret;exact⟨rfl,Z3.out⟩
theorem dec_beqB(a b:Int):decide (a=b)=(a==b):=by by_cases h:a=b<;>simp[h]
theorem rFol22_any{w:World}{fo fe it se:Sl}{ts:List (Sl×Itm)}{x:St}{G:Nat→Prop}(hS:StIn w G fo fe it se ts x)(hsm:StSmall x)(id:Int):
  Calls Tryz.prog 80 #[stV fo fe it se x,.int .i64 id] w fun e w'=>e=.returned (.bool (inS x id))∧Frm Nix w w':=by
 obtain⟨w0,hw0,hf0,hb0⟩:=box_st w fo fe it se x;obtain⟨x0,x1,x2,x3,x4,x5,x6,x7,x8⟩:=blk9 hb0;have KF:Hid (Calls Tryz.prog 93 #[stV fo fe it se x,.int .i64 id] w0 fun e w'=>e=.returned (.int .i64 (posR Fol.id id x.fols))∧Frm Nix w0 w'):=rFolder_any (hS.nix hf0) hsm id;have HF0:=h_ hf0;have HW:=h_ hw0;have HE:Hid (inS x id=(decide (id=0)||isI Fol.id id x.fols)):=rfl;unfold stV
 by_cases h0:id=0
 ·have e0:(id==0)=true:=beq_iff_eq.2 h0
  have HE2:Hid (inS x id=true):=by unfold Hid;rw[HE.out,decide_eq_true h0];rfl
  clear hS hsm hw0 hf0 hb0 h0;go_enter Tryz.func80,Tryz.ntmps80;go_wp2;rw[← HW.out];go_ret;exact⟨ret_bool HE2.out.symm,HF0.out⟩
 ·have e0:(id==0)=false:=beq_eq_false_iff_ne.2 h0
  have HE2:Hid (inS x id=isI Fol.id id x.fols):=by unfold Hid;rw[HE.out,decide_eq_false h0];rfl
  cases hi:isI Fol.id id x.fols with
  | false=>
    rw[posR_end hi] at KF;rw[hi] at HE2;clear hS hsm hw0 hf0 hb0 h0 hi;go_enter Tryz.func80,Tryz.ntmps80;go_wp2_with (first | (go_at_call 93;rw[← HW.out];refine KF.out.mono ?_;rintro e w1 ⟨rfl,hf⟩;have Z1:=h_ hf;clear hf) | fail);go_ret
    exact⟨ret_bool HE2.out.symm,HF0.out.trans Z1.out⟩
  | true=>
    obtain⟨p,-,hp,-⟩:=posR_at hi;rw[hp] at KF;rw[hi] at HE2;have hp0:(0:Int)≤(p:Int):=Int.natCast_nonneg _;clear hS hsm hw0 hf0 hb0 h0 hi hp;go_enter Tryz.func80,Tryz.ntmps80;go_wp2_with (first | (go_at_call 93;rw[← HW.out];refine KF.out.mono ?_;rintro e w1 ⟨rfl,hf⟩;have Z1:=h_ hf;clear hf) | fail);go_ret;exact⟨ret_bool HE2.out.symm,HF0.out.trans Z1.out⟩
theorem rWithin_any{w:World}{fo fe it se:Sl}{ts:List (Sl×Itm)}{x:St}{G:Nat→Prop}(hS:StIn w G fo fe it se ts x)(hP:StP x){i0 u:Int}(hid:inS x i0=true):
  Calls Tryz.prog 81 #[stV fo fe it se x,.int .i64 i0,.int .i64 u] w fun e w'=>e=.returned (.bool (withinS x i0 u))∧Frm Nix w w':=by
 obtain⟨w0,hw0,hf0,hb0⟩:=box_st w fo fe it se x;have hsm:=hP.small;have hcap:=hsm.fols;obtain⟨R,hR⟩:∃ R,upG x.fols 10 i0 u=R:=⟨_,rfl⟩;have HE:Hid (withinS x i0 u=(decide (R=u)||decide (u=0))):=by unfold Hid withinS;rw[hR]
 have KF:Hid (∀ W,Frm Nix w0 W→∀ i,Calls Tryz.prog 93 #[stV fo fe it se x,.int .i64 i] W fun e w'=>e=.returned (.int .i64 (posR Fol.id i x.fols))∧Frm Nix w0 w'∧Frm Nix W w'):=fun W hW i=>(rFolder_any ((hS.nix hf0).nix hW) hsm i).mono fun e w' q=>⟨q.1,hW.trans q.2,q.2⟩
 have HS:=h_ (hS.nix hf0);have HB:=h_ hb0;have HF0:=h_ hf0;have HW:=h_ hw0;have HP:=h_ hP;have HR:=h_ hR;have HI:=h_ hid;clear hS hsm hw0 hf0 hb0 hP hR hid;unfold stV;obtain⟨A,c⟩:=fo;dsimp only at ⊢ KF HB HW;go_enter Tryz.func81,Tryz.ntmps81;go_wp2;rw[← HW.out]
 go_loopw [1,7] (fun iv nv wr=>∃ (i:Int) (m:Nat),iv=.int .i64 i∧nv=.int .i64 m∧m≤10∧inS x i=true∧upG x.fols (10 - m) i u=R∧Frm Nix w0 wr) (fun _ nv _=>10 - (intOf nv).toNat)
 case atStart=>exact⟨i0,0,rfl,rfl,by omega,HI.out,HR.out,Frm.refl _ _⟩
 case round=>
  obtain⟨i,m,rfl,rfl,hm,hin,hd,hf⟩:=hrel;have HDm:=h_ hd;have HIn:=h_ hin;have HF:=h_ hf;clear hd hf hin
  have HEnd:Hid (m=10∨i=u∨i=0→R=i):=fun h=>by
   rw[← HDm.out];rcases h with rfl | h
   ·rfl
   ·exact up_end h _
  by_cases h10:m=10
  ·subst h10
   have e:R=i:=HEnd.out (.inl rfl);subst e
   by_cases hr:R=u
   ·have b1:(R==u)=true:=beq_iff_eq.2 hr
    have HEE:Hid (withinS x i0 u=true):=by unfold Hid;rw[HE.out,decide_eq_true hr];rfl
    clear hr;go_wp2;go_ret;exact⟨ret_bool HEE.out.symm,HF0.out.trans HF.out⟩
   ·have b1:(R==u)=false:=beq_eq_false_iff_ne.2 hr
    have HEE:Hid (withinS x i0 u=(u==0)):=by unfold Hid;rw[HE.out,decide_eq_false hr,dec_beqB];rfl
    clear hr;go_wp2;go_ret;exact⟨ret_bool HEE.out.symm,HF0.out.trans HF.out⟩
  have hm10:(m:Int)<10:=by omega
  by_cases hu:i=u
  ·have e:R=i:=HEnd.out (.inr (.inl hu))
   subst e;have e1:(R !=u)=false:=by simp[hu]
   clear hu
   by_cases hr:R=u
   ·have b1:(R==u)=true:=beq_iff_eq.2 hr
    have HEE:Hid (withinS x i0 u=true):=by unfold Hid;rw[HE.out,decide_eq_true hr];rfl
    clear hr;go_wp2;go_ret;exact⟨ret_bool HEE.out.symm,HF0.out.trans HF.out⟩
   ·have b1:(R==u)=false:=beq_eq_false_iff_ne.2 hr
    have HEE:Hid (withinS x i0 u=(u==0)):=by unfold Hid;rw[HE.out,decide_eq_false hr,dec_beqB];rfl
    clear hr;go_wp2;go_ret;exact⟨ret_bool HEE.out.symm,HF0.out.trans HF.out⟩
  have e1:(i !=u)=true:=by simp[hu]
  by_cases hz:i=0
  ·have e:R=i:=HEnd.out (.inr (.inr hz))
   subst e;have e2:(R !=0)=false:=by simp[hz]
   clear hu hz
   by_cases hr:R=u
   ·have b1:(R==u)=true:=beq_iff_eq.2 hr
    have HEE:Hid (withinS x i0 u=true):=by unfold Hid;rw[HE.out,decide_eq_true hr];rfl
    clear hr;go_wp2;go_ret;exact⟨ret_bool HEE.out.symm,HF0.out.trans HF.out⟩
   ·have b1:(R==u)=false:=beq_eq_false_iff_ne.2 hr
    have HEE:Hid (withinS x i0 u=(u==0)):=by unfold Hid;rw[HE.out,decide_eq_false hr,dec_beqB];rfl
    clear hr;go_wp2;go_ret;exact⟨ret_bool HEE.out.symm,HF0.out.trans HF.out⟩
  have e2:(i !=0)=true:=by simp[hz]
  have hi2:isI Fol.id i x.fols=true:=by
   have:=HIn.out;unfold inS at this;rw[decide_eq_false hz,Bool.false_or] at this;exact this
  obtain⟨q,hql,hq,-,hat,-⟩:=posR_at hi2;have KF1:=h_ (fun W hW=>KF.out W hW i);rw[hq] at KF1
  have HE3:Hid (upG x.fols (10 - (m+1)) (x.fols[q]'hql).inn u=R):=by
   have:=HDm.out;rw[show 10 - m=(10 - (m+1))+1 by omega,up_step hu hz hat] at this;exact this
  have HIn2:Hid (inS x (x.fols[q]'hql).inn=true):=by
   unfold Hid inS;rcases fol_inn HP.out (List.getElem_mem hql) with h | h
   ·rw[decide_eq_true h];rfl
   ·rw[isI_iff.2 h,Bool.or_true]
  obtain⟨b,off,hA,-,hbl,hcell⟩:=(HS.out.fols.nix HF.out).at_ Fol.clen (by decide) (by omega);dsimp only at hA;subst hA;obtain⟨f,hfq⟩:∃ f,x.fols[q]'hql=f:=⟨_,rfl⟩;have hc:=hcell q hql;rw[hfq] at hc HE3 HIn2;have hq1:(0:Int)≤(q:Int):=Int.natCast_nonneg _;have hq2:(q:Int)<(x.fols.length:Int):=by omega
  have HMk:Hid (∀ W,Frm Nix wr W→W.cell? ⟨w.heap.size,0,none⟩=some (.int .i64 x.clock)∧W.cell? ⟨w.heap.size,1,none⟩=some (.slice (some ⟨b,off,none⟩) x.fols.length c)∧W.cell? ⟨w.heap.size,2,none⟩=some (.slice fe.1 x.fees.length fe.2)∧W.cell? ⟨w.heap.size,3,none⟩=some (.slice it.1 x.itms.length it.2)∧W.cell? ⟨w.heap.size,4,none⟩=some (.slice se.1 x.seas.length se.2)∧W.cell? ⟨w.heap.size,5,none⟩=some (.int .i64 x.tFol)∧W.cell? ⟨w.heap.size,6,none⟩=some (.int .i64 x.tFee)∧W.cell? ⟨w.heap.size,7,none⟩=some (.int .i64 x.tItm)∧W.cell? ⟨w.heap.size,8,none⟩=some (.int .i64 x.tSea)∧W.cell? ⟨b,off+q * 3+1,none⟩=some (.int .i64 f.inn)):=fun W hW=>by
   obtain⟨y0,y1,y2,y3,y4,y5,y6,y7,y8⟩:=blk9 (HB.out.frm (HF.out.trans hW) id);exact⟨y0,y1,y2,y3,y4,y5,y6,y7,y8,(hW.cell (p:=⟨b,off+q * 3+1,none⟩) hbl id).trans (hc 1 _ rfl)⟩
  have HNz:=h_ (And.intro hu hz);clear hcell hc hfq hq hat hi2 hu hz h10;go_wp2
  go_region_held3 (fun W=>W.cell? ⟨w.heap.size,0,none⟩=some (.int .i64 x.clock)∧W.cell? ⟨w.heap.size,1,none⟩=some (.slice (some ⟨b,off,none⟩) x.fols.length c)∧W.cell? ⟨w.heap.size,2,none⟩=some (.slice fe.1 x.fees.length fe.2)∧W.cell? ⟨w.heap.size,3,none⟩=some (.slice it.1 x.itms.length it.2)∧W.cell? ⟨w.heap.size,4,none⟩=some (.slice se.1 x.seas.length se.2)∧W.cell? ⟨w.heap.size,5,none⟩=some (.int .i64 x.tFol)∧W.cell? ⟨w.heap.size,6,none⟩=some (.int .i64 x.tFee)∧W.cell? ⟨w.heap.size,7,none⟩=some (.int .i64 x.tItm)∧W.cell? ⟨w.heap.size,8,none⟩=some (.int .i64 x.tSea)∧W.cell? ⟨b,off+q * 3+1,none⟩=some (.int .i64 f.inn)) ((refine HMk.out _ ?_;first | exact(fR wr).drew | exact Y2.out))
   (first | (go_at_call 93;refine(KF1.out _ HF.out.drew).mono ?_;rintro e w2 ⟨rfl,hf2,hf3⟩;have Z2:=h_ hf2;have Y2:Hid (Frm Nix wr w2):=(fR wr).drew.trans hf3;clear hf2 hf3))
  all_goals
   go_wp2;go_roundw
   case rel=>exact⟨f.inn,m+1,rfl,by go_num,by omega,HIn2.out,HE3.out,Z2.out⟩
   case measure=>simp[intOf];omega
theorem rUnder_any{w:World}{fo fe it se:Sl}{ts:List (Sl×Itm)}{x:St}{G:Nat→Prop}(hS:StIn w G fo fe it se ts x)(hP:StP x)(i0:Int):
  Calls Tryz.prog 37 #[stV fo fe it se x,.int .i64 i0] w fun e w'=>∃ A c,e=.returned (.slice A (underS x i0).length c)∧SlIn w' (fun k=>w.heap.size≤k) 1 (A,c) (underS x i0).length ((underS x i0).map kI)∧Frm Nix w w':=by
 obtain⟨w0,hw0,hf0,hb0⟩:=box_st w fo fe it se x;have hsm:=hP.small;have hcap:=hsm.fees;have KFo:Hid (∀ W,Frm Nix w0 W→Calls Tryz.prog 80 #[stV fo fe it se x,.int .i64 i0] W fun e w'=>e=.returned (.bool (inS x i0))∧Frm Nix W w'):=fun W hW=>rFol22_any ((hS.nix hf0).nix hW) hsm i0
 have KWi:Hid (∀ W,Frm Nix w0 W→∀ q ∈ x.fees,Calls Tryz.prog 81 #[stV fo fe it se x,.int .i64 q.inn,.int .i64 i0] W fun e w'=>e=.returned (.bool (withinS x q.inn i0))∧Frm Nix W w'):=fun W hW q hq=>rWithin_any ((hS.nix hf0).nix hW) hP (hP.eE q hq).2.2
 have HS:=h_ (hS.nix hf0);have HB:=h_ hb0;have HF0:=h_ hf0;have HW:=h_ hw0;have HU:Hid (underS x i0=if inS x i0=true then (x.fees.filter fun f=>withinS x f.inn i0).map Fee.id else []):=rfl;have HSz:Hid (w.heap.size≤w0.heap.size):=hf0.size;clear hS hsm hw0 hf0 hb0 hP;unfold stV;obtain⟨A,c⟩:=fe;dsimp only at ⊢ KFo KWi HB HW;obtain⟨n,hn⟩:∃ n,x.fees.length=n:=⟨_,rfl⟩;have HN:=h_ hn
 cases hin:inS x i0 with
 | false=>
   have HUE:Hid (underS x i0=[]):=by unfold Hid;rw[HU.out,hin];rfl
   rw[hin] at KFo;rw[HUE.out];clear hn hin HU;go_enter Tryz.func37,Tryz.ntmps37;go_wp2;rw[← HW.out]
   go_loopw [5,6] (fun ov iv wr=>ov=.slice none 0 0∧iv=.int .i64 0∧Frm Nix w0 wr) (fun _ _ _=>0)
   case atStart=>exact⟨rfl,rfl,Frm.refl _ _⟩
   case round=>
    obtain⟨rfl,rfl,hf⟩:=hrel;have HF:=h_ hf;obtain⟨x0,x1,x2,x3,x4,x5,x6,x7,x8⟩:=blk9 (HB.out.frm hf id);clear hf
    by_cases h0:0<x.fees.length
    ·have d1:decide ((0:Int)<(x.fees.length:Int))=true:=decide_eq_true (by omega)
     go_wp2_with (first | (go_at_call 80;refine(KFo.out _ HF.out).mono ?_;rintro e w2 ⟨rfl,hf2⟩;have Z2:=h_ hf2;clear hf2) | fail);go_ret;exact⟨none,0,rfl,SlIn.none_ _ _ _,HF0.out.trans (HF.out.trans Z2.out)⟩
    ·have d1:decide ((0:Int)<(x.fees.length:Int))=false:=decide_eq_false (by omega)
     have d2:decide (0<x.fees.length)=false:=decide_eq_false h0;go_wp2_with (first | (go_at_call 80;refine(KFo.out _ HF.out).mono ?_;rintro e w2 ⟨rfl,hf2⟩;have Z2:=h_ hf2;clear hf2) | fail);go_ret
     exact⟨none,0,rfl,SlIn.none_ _ _ _,HF0.out.trans HF.out⟩
 | true=>
   have HUE:Hid (underS x i0=(x.fees.filter fun f=>withinS x f.inn i0).map Fee.id):=by unfold Hid;rw[HU.out,hin];rfl
   rw[hin] at KFo;rw[HUE.out];clear hin HU;obtain⟨p,hp⟩:∃ p:Fee→Bool,(fun f=>withinS x f.inn i0)=p:=⟨_,rfl⟩;have HPf:Hid (∀ q,withinS x q.inn i0=p q):=fun q=>by rw[← hp]
   rw[hp];clear hp hn;go_enter Tryz.func37,Tryz.ntmps37;go_wp2;rw[← HW.out]
   go_loopw [5,6] (fun ov iv wr=>∃ (k:Nat),k≤x.fees.length∧iv=.int .i64 k∧RowIn 3 w0 wr ov ((x.fees.take k).filter p).length ((((x.fees.take k).filter p).map Fee.id).map kI)) (fun _ iv _=>x.fees.length - (intOf iv).toNat)
   case atStart=>exact⟨0,by omega,rfl,RowIn.nil_ _ (Frm.refl _ _)⟩
   case round=>
    obtain⟨k,hk,rfl,hr⟩:=hrel;obtain⟨wo,rfl⟩:∃ wo,wo=wr:=⟨_,rfl⟩;obtain⟨Ao,co,rfl,-⟩:=hr.shape;have HR:=h_ hr;clear hr;obtain⟨x0,x1,x2,x3,x4,x5,x6,x7,x8⟩:=blk9 (HB.out.frm HR.out.frm id)
    by_cases hlt:k<x.fees.length
    ·obtain⟨b,off,hA,-,hbl,hcell⟩:=(HS.out.fees.nix HR.out.frm).at_ Fee.clen (by decide) (by omega)
     dsimp only at hA;subst hA;have hc:=hcell k hlt;have hmem:=List.getElem_mem hlt
     have HStep:Hid ((x.fees.take (k+1)).filter p=(x.fees.take k).filter p++if p x.fees[k]=true then [x.fees[k]] else []):=by
      unfold Hid;rw[List.take_succ_eq_append_getElem hlt,List.filter_append]
      congr 1
      cases hpk:p x.fees[k]<;>simp[hpk]
     obtain⟨q,hq⟩:∃ q,x.fees[k]=q:=⟨_,rfl⟩;rw[hq] at hc hmem HStep;have KW:=h_ (fun W hW=>KWi.out W hW q hmem);rw[HPf.out q] at KW
     have hlen:((x.fees.take k).filter p).length≤x.fees.length:=by
      have h1:=List.length_filter_le p (x.fees.take k);rw[List.length_take] at h1;omega
     have HMk:Hid (∀ W,Frm Nix wo W→W.cell? ⟨w.heap.size,0,none⟩=some (.int .i64 x.clock)∧W.cell? ⟨w.heap.size,1,none⟩=some (.slice fo.1 x.fols.length fo.2)∧W.cell? ⟨w.heap.size,2,none⟩=some (.slice (some ⟨b,off,none⟩) x.fees.length c)∧W.cell? ⟨w.heap.size,3,none⟩=some (.slice it.1 x.itms.length it.2)∧W.cell? ⟨w.heap.size,4,none⟩=some (.slice se.1 x.seas.length se.2)∧W.cell? ⟨w.heap.size,5,none⟩=some (.int .i64 x.tFol)∧W.cell? ⟨w.heap.size,6,none⟩=some (.int .i64 x.tFee)∧W.cell? ⟨w.heap.size,7,none⟩=some (.int .i64 x.tItm)∧W.cell? ⟨w.heap.size,8,none⟩=some (.int .i64 x.tSea)∧W.cell? ⟨b,off+k * 4,none⟩=some (.int .i64 q.id)∧W.cell? ⟨b,off+k * 4+1,none⟩=some (.int .i64 q.inn)):=fun W hW=>by
      obtain⟨y0,y1,y2,y3,y4,y5,y6,y7,y8⟩:=blk9 (HB.out.frm (HR.out.frm.trans hW) id);exact⟨y0,y1,y2,y3,y4,y5,y6,y7,y8,(hW.cell (p:=⟨b,off+k * 4,none⟩) hbl id).trans (hc 0 _ rfl),(hW.cell (p:=⟨b,off+k * 4+1,none⟩) hbl id).trans (hc 1 _ rfl)⟩
     have hk1:(0:Int)≤(k:Int):=Int.natCast_nonneg _;have hk2:(k:Int)<(x.fees.length:Int):=by omega
     have d1:decide ((k:Int)<(x.fees.length:Int))=true:=decide_eq_true (by omega);have d2:decide (k<x.fees.length)=true:=decide_eq_true hlt;have HHc:=h_ hcap;clear hcell hc hmem hq
     cases hpq:p q with
     | false=>
       have HX:Hid (∀ W,Frm Nix wo W→RowIn 3 w0 W (.slice Ao ((x.fees.take k).filter p).length co) ((x.fees.take (k+1)).filter p).length ((((x.fees.take (k+1)).filter p).map Fee.id).map kI)):=fun W hW=>by
        rw[HStep.out,hpq,if_neg (by simp),List.append_nil];exact HR.out.more hW
       rw[hpq] at KW;clear hpq;generalize ((x.fees.take k).filter p).length=m at *;go_wp2_with (first | (go_at_call 80;refine(KFo.out _ HR.out.frm).mono ?_;rintro e w1 ⟨rfl,hf1⟩;have Y1:=h_ hf1;clear hf1) | fail)
       go_region_held3 (fun W=>W.cell? ⟨w.heap.size,0,none⟩=some (.int .i64 x.clock)∧W.cell? ⟨w.heap.size,1,none⟩=some (.slice fo.1 x.fols.length fo.2)∧W.cell? ⟨w.heap.size,2,none⟩=some (.slice (some ⟨b,off,none⟩) x.fees.length c)∧W.cell? ⟨w.heap.size,3,none⟩=some (.slice it.1 x.itms.length it.2)∧W.cell? ⟨w.heap.size,4,none⟩=some (.slice se.1 x.seas.length se.2)∧W.cell? ⟨w.heap.size,5,none⟩=some (.int .i64 x.tFol)∧W.cell? ⟨w.heap.size,6,none⟩=some (.int .i64 x.tFee)∧W.cell? ⟨w.heap.size,7,none⟩=some (.int .i64 x.tItm)∧W.cell? ⟨w.heap.size,8,none⟩=some (.int .i64 x.tSea)∧W.cell? ⟨b,off+k * 4,none⟩=some (.int .i64 q.id)∧W.cell? ⟨b,off+k * 4+1,none⟩=some (.int .i64 q.inn)) ((refine HMk.out _ ?_;first | exact Y1.out.drew | exact Y2.out))
        (first | (go_at_call 81;refine(KW.out _ (HR.out.frm.trans Y1.out.drew)).mono ?_;rintro e w2 ⟨rfl,hf2⟩;have Y2:Hid (Frm Nix wo w2):=Y1.out.drew.trans hf2;clear hf2))
       all_goals
        go_wp2;go_roundw
        case rel=>exact⟨k+1,by omega,by go_num,HX.out _ Y2.out⟩
        case measure=>simp[intOf];omega
     | true=>
       have HX:Hid (∀ W v,RowIn 3 w0 W v (((x.fees.take k).filter p).length+1) ((((x.fees.take k).filter p).map Fee.id).map kI++[.int .i64 q.id])→RowIn 3 w0 W v ((x.fees.take (k+1)).filter p).length ((((x.fees.take (k+1)).filter p).map Fee.id).map kI)):=fun W v hW=>by
        rw[HStep.out,hpq,if_pos rfl,List.length_append,List.map_append,List.map_append];exact hW
       have HPu:Hid (∀ W,Frm Nix wo W→∃ v' w',(∀ ty,(Builtin.append_ #[68,68] ty #[.slice Ao ((x.fees.take k).filter p).length co,.slice (some ⟨W.heap.size,0,none⟩) 1 1]).run Tryz.prog (W.alloc (.cells #[.int .i64 q.id] 3))=.ok v' w')∧RowIn 3 w0 w' v' (((x.fees.take k).filter p).length+1) ((((x.fees.take k).filter p).map Fee.id).map kI++[.int .i64 q.id])):=fun W hW=>by
        obtain⟨v',w',h1,h2,-⟩:=(HR.out.more hW).push elemI1 (.int .i64 q.id) rfl (by unfold maxLen;omega) (by omega);exact⟨v',w',h1,h2⟩
       rw[hpq] at KW;clear hpq;generalize ((x.fees.take k).filter p).length=m at *;go_wp2_with (first | (go_at_call 80;refine(KFo.out _ HR.out.frm).mono ?_;rintro e w1 ⟨rfl,hf1⟩;have Y1:=h_ hf1;clear hf1) | fail)
       go_region_held3 (fun W=>W.cell? ⟨w.heap.size,0,none⟩=some (.int .i64 x.clock)∧W.cell? ⟨w.heap.size,1,none⟩=some (.slice fo.1 x.fols.length fo.2)∧W.cell? ⟨w.heap.size,2,none⟩=some (.slice (some ⟨b,off,none⟩) x.fees.length c)∧W.cell? ⟨w.heap.size,3,none⟩=some (.slice it.1 x.itms.length it.2)∧W.cell? ⟨w.heap.size,4,none⟩=some (.slice se.1 x.seas.length se.2)∧W.cell? ⟨w.heap.size,5,none⟩=some (.int .i64 x.tFol)∧W.cell? ⟨w.heap.size,6,none⟩=some (.int .i64 x.tFee)∧W.cell? ⟨w.heap.size,7,none⟩=some (.int .i64 x.tItm)∧W.cell? ⟨w.heap.size,8,none⟩=some (.int .i64 x.tSea)∧W.cell? ⟨b,off+k * 4,none⟩=some (.int .i64 q.id)∧W.cell? ⟨b,off+k * 4+1,none⟩=some (.int .i64 q.inn)) ((refine HMk.out _ ?_;first | exact Y1.out.drew | exact Y2.out))
        (first | (go_at_call 81;refine(KW.out _ (HR.out.frm.trans Y1.out.drew)).mono ?_;rintro e w2 ⟨rfl,hf2⟩;have Y2:Hid (Frm Nix wo w2):=Y1.out.drew.trans hf2;clear hf2))
       all_goals
        obtain⟨v4,w4,run4,h4⟩:=HPu.out w2 Y2.out;have H4:=h_ h4;clear h4;obtain⟨y0,y1,y2,y3,y4,y5,y6,y7,y8,y9,y10⟩:=HMk.out _ Y2.out;go_wp2_with (first | (at_builtin;refine wpList_append_run run4 rfl _ _ rfl rfl rfl ?_) | fail);go_roundw
        case rel=>exact⟨k+1,by omega,by go_num,HX.out _ _ H4.out⟩
        case measure=>simp[intOf];omega
    ·obtain rfl:k=x.fees.length:=by omega
     have HTk:Hid (x.fees.take x.fees.length=x.fees):=List.take_length;rw[HTk.out] at HR;have d1:decide ((x.fees.length:Int)<(x.fees.length:Int))=false:=decide_eq_false (by omega);go_wp2;go_ret;exact⟨Ao,co,by rw[List.length_map];exact congrArg (fun l:List Fee=>Ending.returned (.slice Ao (l.filter p).length co)) HTk.out,by rw[List.length_map];exact HR.out.toK.sl.mono fun j hj=>Nat.le_trans HSz.out hj,HF0.out.trans HR.out.frm⟩
theorem Plan_nil{w:World}{k a b n:Int}{s t:ByteArray}:Calls Tryz.prog 25 #[.pointer none,.agg #[.int .i64 k,.int .i64 a,.int .i64 b,.int .i64 n,.string s,.string t]] w fun e w'=>e=.returned (.tuple #[.slice none 0 0,.int .i64 6])∧Frm Nix w w':=by
 go_enter Tryz.func25,Tryz.ntmps25;go_wp2_with (first | (go_at_call 51;refine(refused_any 6 _).mono ?_;rintro e w1 ⟨rfl,rfl⟩) | fail)
 go_ret2
 exact⟨rfl,(fR w).alloc _⟩
theorem Do_nil{w:World}{k a b n:Int}{s t:ByteArray}:Calls Tryz.prog 29 #[.pointer none,.agg #[.int .i64 k,.int .i64 a,.int .i64 b,.int .i64 n,.string s,.string t]] w fun e w'=>e=.returned (.tuple #[.slice none 0 0,.int .i64 6])∧Frm Nix w w':=by
 go_enter Tryz.func29,Tryz.ntmps29;go_wp2_with (first | (go_at_call 25;refine Plan_nil.mono ?_;rintro e w1 ⟨rfl,hf⟩;have Z1:Hid (Frm Nix w w1):=((fR w).alloc _).trans hf;clear hf) | fail)
 go_loopw [18] (fun iv wr=>iv=.int .i64 0∧Frm Nix w wr) (fun _ _=>0)
 case atStart=>exact⟨rfl,Z1.out⟩
 case round=>
  obtain⟨rfl,hf⟩:=hrel;go_wp2
  go_ret2
  exact⟨rfl,hf⟩
theorem Undo_nil{w:World}{k a b n:Int}{s t:ByteArray}:Calls Tryz.prog 32 #[.pointer none,.agg #[.int .i64 k,.int .i64 a,.int .i64 b,.int .i64 n,.string s,.string t]] w fun e w'=>e=.returned (.tuple #[.slice none 0 0,.bool false])∧Frm Nix w w':=by
 go_enter Tryz.func32,Tryz.ntmps32;go_wp2_with (first | (go_at_call 25;refine Plan_nil.mono ?_;rintro e w1 ⟨rfl,hf⟩;have Z1:Hid (Frm Nix w w1):=((fR w).alloc _).trans hf;clear hf) | fail)
 go_ret2
 exact⟨rfl,Z1.out⟩
theorem Under_nil{w:World}{i:Int}:Calls Tryz.prog 36 #[.pointer none,.int .i64 i] w fun e w'=>e=.returned (.slice none 0 0)∧Frm Nix w w':=by
 go_enter Tryz.func36,Tryz.ntmps36;go_wp2;go_ret;exact⟨rfl,(fR w).alloc _⟩
theorem int_flat(l:List Int):l.map kI=l.flatMap fun i=>[kI i]:=by
 induction l with
 | nil=>rfl
 | cons a l ih=>rw[List.map_cons,List.flatMap_cons,ih];rfl
theorem unders_walk{w:World}{G:Nat→Prop}{v:Sl}{l:List Ev}(hl:EvsIn w G v l)(i0:Int)(hi0:I64 i0)(tx:ByteArray)(mo:Int)(hmo:I64 mo)(k a b n:Int)(s t:ByteArray):
  Calls Tryz.prog 11 #[.slice v.1 l.length v.2,.int .i64 i0,.string tx,.int .i64 mo,.agg #[.int .i64 k,.int .i64 a,.int .i64 b,.int .i64 n,.string s,.string t]] w fun e w'=>e=.returned (.bool true)∧Frm Nix w w':=by
 obtain⟨Av,cv⟩:=v;dsimp only;obtain⟨lc,hlc⟩:∃ lc,largeC l [⟨k,a,b,n,s,t⟩]=lc:=⟨_,rfl⟩
 have KLg:Hid (Calls Tryz.prog 22 #[.slice Av l.length cv,.slice (some ⟨w.heap.size+1,0,none⟩) 1 1] ((w.alloc (.cells #[.int .i64 k,.int .i64 a,.int .i64 b,.int .i64 n,.string s,.string t] 50)).alloc (.cells #[.int .i64 k,.int .i64 a,.int .i64 b,.int .i64 n,.string s,.string t] 50)) fun e w'=>e=.returned (.bool lc)∧Frm Nix (w.alloc (.cells #[.int .i64 k,.int .i64 a,.int .i64 b,.int .i64 n,.string s,.string t] 50)) w'):=by
  have q:=large1_any (hl.nix ((fR w).alloc (.cells #[.int .i64 k,.int .i64 a,.int .i64 b,.int .i64 n,.string s,.string t] 50))) (fR _) k a b n s t;rw[hlc,show (w.alloc (.cells #[.int .i64 k,.int .i64 a,.int .i64 b,.int .i64 n,.string s,.string t] 50)).heap.size=w.heap.size+1 by simp] at q;exact q
 cases lc with
 | true=>
   generalize l.length=n1 at *;clear hlc hl;go_enter Tryz.func11,Tryz.ntmps11;go_wp2_with (first | (go_at_call 22;refine KLg.out.mono ?_;rintro e w1 ⟨rfl,hf⟩;have W1:Hid (Frm Nix w w1):=((fR w).alloc _).trans hf;have HB1:Hid (Blk w1 w.heap.size 50 #[.int .i64 k,.int .i64 a,.int .i64 b,.int .i64 n,.string s,.string t]):=(Blk.new w 50 #[.int .i64 k,.int .i64 a,.int .i64 b,.int .i64 n,.string s,.string t]).frm hf id;clear hf) | (go_at_call 23;(refine(lives22_any _).mono ?_;rintro e w2 ⟨rfl,hf⟩);have W2:Hid (Frm Nix w w2):=W1.out.trans hf;clear hf) | fail);go_ret
   exact⟨rfl,W2.out⟩
 | false=>
 by_cases h0:1000<tx.size
 ·have d0:decide ((1000:Int)<(tx.size:Int))=true:=decide_eq_true (by omega)
  have d1:decide (1000<tx.size)=true:=decide_eq_true h0;generalize l.length=n1 at *;clear hlc hl;go_enter Tryz.func11,Tryz.ntmps11;go_wp2_with (first | (go_at_call 22;refine KLg.out.mono ?_;rintro e w1 ⟨rfl,hf⟩;have W1:Hid (Frm Nix w w1):=((fR w).alloc _).trans hf;have HB1:Hid (Blk w1 w.heap.size 50 #[.int .i64 k,.int .i64 a,.int .i64 b,.int .i64 n,.string s,.string t]):=(Blk.new w 50 #[.int .i64 k,.int .i64 a,.int .i64 b,.int .i64 n,.string s,.string t]).frm hf id;clear hf) | (go_at_call 23;(refine(lives22_any _).mono ?_;rintro e w2 ⟨rfl,hf⟩);have W2:Hid (Frm Nix w w2):=W1.out.trans hf;clear hf) | fail);go_ret;exact⟨rfl,W2.out⟩
 have d0:decide ((1000:Int)<(tx.size:Int))=false:=decide_eq_false (by omega);have d1:decide (1000<tx.size)=false:=decide_eq_false h0;obtain⟨h1,h2,h3⟩:=largeC_no hlc;have hll:=largeEvs_len h1;have KF:Hid (∀ W,Frm Nix w W→Calls Tryz.prog 24 #[.slice Av l.length cv] W fun e w'=>∃ g M,e=.returned (.pointer (some ⟨g,0,none⟩))∧StAt w' g M (foldE st0 l)∧Frm Nix W w'∧∀ k,SF g M k→W.heap.size≤k):=fun W hW=>(hl.nix hW).fold h1
 have KRF:Hid (∀ W,Frm Nix w W→Calls Tryz.prog 20 #[.slice Av l.length cv] W fun r w'=>∃ (fo fe it se:Sl) (ts:List (Sl×Itm)),r=.returned (stV fo fe it se (foldE st0 l))∧StIn w' (fun k=>W.heap.size≤k) fo fe it se ts (foldE st0 l)∧Frm Nix W w'):=fun W hW=>rStFold_any (v:=(Av,cv)) l (hl.nix hW).sl (by omega)
 have KS1:Hid (∀ W,Calls Tryz.prog 34 #[.string tx,.int .i64 mo] W fun e w'=>e=.returned (.string (shortS tx mo))∧Frm Nix W w'):=fun W=>Short_any tx (by omega) mo W
 have KS2:Hid (∀ W,Calls Tryz.prog 35 #[.string tx,.int .i64 mo] W fun e w'=>e=.returned (.string (shortS tx mo))∧Frm Nix W w'):=fun W=>rShort_any tx (by omega) mo hmo W
 obtain⟨x,hx⟩:∃ x,foldE st0 l=x:=⟨_,rfl⟩;have HP:Hid (StP x):=by rw[← hx];exact foldE_ok l st0_ok
 have KU:Hid (∀ W g M,StAt W g M x→Calls Tryz.prog 36 #[.pointer (some ⟨g,0,none⟩),.int .i64 i0] W fun e w'=>∃ A c,e=.returned (.slice A (underS x i0).length c)∧SlIn w' (fun k=>W.heap.size≤k) 1 (A,c) (underS x i0).length ((underS x i0).map kI)∧Frm Nix W w'):=fun W g M h=>Under_any h hi0
 have KRU:Hid (∀ W fo fe it se ts (G:Nat→Prop),StIn W G fo fe it se ts x→Calls Tryz.prog 37 #[stV fo fe it se x,.int .i64 i0] W fun e w'=>∃ A c,e=.returned (.slice A (underS x i0).length c)∧SlIn w' (fun k=>W.heap.size≤k) 1 (A,c) (underS x i0).length ((underS x i0).map kI)∧Frm Nix W w'):=fun W fo fe it se ts G h=>rUnder_any h HP.out i0
 rw[hx] at KF KRF;generalize shortS tx mo=sh at *;generalize underS x i0=ul at *;obtain⟨m,hm⟩:∃ m,ul.length=m:=⟨_,rfl⟩;have HM:=h_ hm;rw[hm] at KU KRU;generalize l.length=n1 at *;clear hlc hl h1 h2 h3 hll hx hm h0;unfold stV at *;go_enter Tryz.func11,Tryz.ntmps11
 go_wp2_with (first
  | (go_at_call 22;refine KLg.out.mono ?_;rintro e w1 ⟨rfl,hf⟩;have W1:Hid (Frm Nix w w1):=((fR w).alloc _).trans hf;have HB1:Hid (Blk w1 w.heap.size 50 #[.int .i64 k,.int .i64 a,.int .i64 b,.int .i64 n,.string s,.string t]):=(Blk.new w 50 #[.int .i64 k,.int .i64 a,.int .i64 b,.int .i64 n,.string s,.string t]).frm hf id;clear hf)
  | (go_at_call 24;refine(KF.out _ W1.out).mono ?_;rintro e w2 ⟨g,M,rfl,hs,hf,-⟩;have H2:=h_ hs;have W2:Hid (Frm Nix w w2):=W1.out.trans hf;have HB2:=h_ (HB1.out.frm hf id);clear hs hf)
  | (go_at_call 23;refine(lives22_any _).mono ?_;rintro e w3 ⟨rfl,hf⟩;have H3:=h_ (H2.out.nix hf);have W3:Hid (Frm Nix w w3):=W2.out.trans hf;have HB3:=h_ (HB2.out.frm hf id);clear hf)
  | (go_at_call 34;refine(KS1.out _).mono ?_;rintro e w4 ⟨rfl,hf⟩;have H4:=h_ (H3.out.nix hf);have W4:Hid (Frm Nix w w4):=W3.out.trans hf;have HB4:=h_ (HB3.out.frm hf id);clear hf)
  | (go_at_call 35;refine(KS2.out _).mono ?_;rintro e w5 ⟨rfl,hf⟩;have H5:=h_ (H4.out.nix hf);have W5:Hid (Frm Nix w w5):=W4.out.trans hf;have HB5:=h_ (HB4.out.frm hf id);clear hf)
  | (go_at_call 36;refine(KU.out _ _ _ H5.out).mono ?_;rintro e w6 ⟨A1,c1,rfl,hs,hf⟩;have HU1:=h_ hs;have W6:Hid (Frm Nix w w6):=W5.out.trans hf;have HB6:=h_ (HB5.out.frm hf id);clear hs hf)
  | (go_at_call 20;refine(KRF.out _ W6.out).mono ?_;rintro e w7 ⟨fo,fe,it,se,ts,rfl,hs,hf⟩;have HX7:=h_ hs;have HU7:=h_ (HU1.out.nix hf);have W7:Hid (Frm Nix w w7):=W6.out.trans hf;have HB7:=h_ (HB6.out.frm hf id);clear hs hf)
  | (go_at_call 37;refine(KRU.out _ _ _ _ _ _ _ HX7.out).mono ?_;rintro e w8 ⟨A2,c2,rfl,hs,hf⟩;have HU2:=h_ hs;have HU8:=h_ (HU7.out.nix hf);have W8:Hid (Frm Nix w w8):=W7.out.trans hf;have HB8:=h_ (HB7.out.frm hf id);clear hs hf)
  | fail)
 go_loopw [14] (fun iv wr=>∃ j:Nat,j≤m∧iv=.int .i64 j∧Frm Nix w8 wr) (fun iv _=>m - (intOf iv).toNat)
 case atStart=>exact⟨0,by omega,rfl,Frm.refl _ _⟩
 case round=>
  obtain⟨j,hj,rfl,hf⟩:=hrel;have HF:=h_ hf;clear hf
  by_cases hlt:j<m
  ·have hjl:j<ul.length:=by rw[HM.out];exact hlt
   have hmx:m≤9223372036854775807:=by
    have h1:=HU8.out.cap;have h2:=HU8.out.max;rw[maxL] at h2;simp only at h1 h2;omega
   have hI:=int_flat ul;have q1:=HU8.out.nix HF.out;have q2:=HU2.out.nix HF.out;rw[hI,← HM.out] at q1 q2;obtain⟨b1,o1,hA1,-,-,hc1⟩:=q1.at_ (f:=fun i=>[kI i]) (fun _=>rfl) (by decide) (by omega);obtain⟨b2,o2,hA2,-,-,hc2⟩:=q2.at_ (f:=fun i=>[kI i]) (fun _=>rfl) (by decide) (by omega);dsimp only at hA1 hA2;subst hA1;subst hA2;have z1:=hc1 j hjl 0 _ rfl;have z2:=hc2 j hjl 0 _ rfl;simp only[Nat.mul_one,Nat.add_zero,kI] at z1 z2;have hj1:(0:Int)≤(j:Int):=Int.natCast_nonneg _;have hj2:(j:Int)<(m:Int):=by omega
   have d2:decide ((j:Int)<(m:Int))=true:=decide_eq_true (by omega);obtain⟨z,hz⟩:∃ z,ul[j]=z:=⟨_,rfl⟩;rw[hz] at z1 z2;have hzz:(z !=z)=false:=by simp
   clear q1 q2 hc1 hc2 hz hI;go_wp2;go_quiet (fail);go_wp2;go_roundw
   case rel=>exact⟨j+1,by omega,by go_num,HF.out.drewN _⟩
   case measure=>simp[intOf];omega
  ·obtain rfl:j=m:=by omega
   obtain⟨y0,y1,y2,y3,y4,y5⟩:=blk6 (HB8.out.frm HF.out id);have W9:Hid (Frm Nix w wr):=W8.out.trans HF.out;have HB9:=h_ (HB8.out.frm HF.out id);have d2:decide ((j:Int)<(j:Int))=false:=decide_eq_false (by omega)
   go_wp2_with (first
    | (go_at_call 25;refine Plan_nil.mono ?_;rintro e wa ⟨rfl,hf⟩;have WA:Hid (Frm Nix w wa):=W9.out.trans hf;have HBa:=h_ (HB9.out.frm hf id);obtain⟨y0,y1,y2,y3,y4,y5⟩:=blk6 HBa.out;clear hf)
    | (go_at_call 29;refine Do_nil.mono ?_;rintro e wb ⟨rfl,hf⟩;have WB:Hid (Frm Nix w wb):=WA.out.trans hf;have HBb:=h_ (HBa.out.frm hf id);obtain⟨y0,y1,y2,y3,y4,y5⟩:=blk6 HBb.out;clear hf)
    | (go_at_call 32;refine Undo_nil.mono ?_;rintro e wc ⟨rfl,hf⟩;have WC:Hid (Frm Nix w wc):=WB.out.trans hf;clear hf)
    | (go_at_call 36;refine Under_nil.mono ?_;rintro e wd ⟨rfl,hf⟩;have WD:Hid (Frm Nix w wd):=WC.out.trans hf;clear hf)
    | fail)
   go_ret;exact⟨rfl,WD.out⟩
end Go.Proofs.YtdihmpakglakdaaGreat
