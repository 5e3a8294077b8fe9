/- Words. -/
import Derived.Test.YtaecjmiobllhmaaGreatGr80
set_option linter.unusedVariables false
set_option linter.unusedSimpArgs false
set_option maxRecDepth 100000
set_option maxHeartbeats 16000000
namespace Go.Proofs.YtaecjmiobllhmaaGreat
open Go.Value renaming int→I,slice→U,pointer→O
open Go.IntKind renaming i64→J
open Tryz renaming prog→pQ
open Go.RowKit Go.Lib
variable {w:World}{G:Nat→Prop}{A:Option Addr}{c:Nat}{l:List Wd}{er la:Int}{bm:Nat}
theorem O0(x y:Wd):(x=y)↔(x.mode=y.mode∧x.sure=y.sure∧x.snap=y.snap):=⟨λh=>by subst h;simp,λ⟨h1,h2,h3⟩=>by cases x;cases y;simp_all⟩
theorem Ru{b off:Nat}{f:Wd}(h:∀(j:Nat) (u:Value),f.cells[j]? =some u→w.cell? ⟨b,off+j,none⟩=some u):
  w.cell? ⟨b,off,none⟩=some (I J f.mode)∧w.cell? ⟨b,off+1,none⟩=some (I J f.sure)∧w.cell? ⟨b,off+2,none⟩=some (I J f.snap):=
 ⟨h 0 _ rfl,h 1 _ rfl,h 2 _ rfl⟩
theorem MZ(x y:Wd)(w:World):(Op.equalIn 10000 68 (.agg #[I J x.mode,I J x.sure,I J x.snap]) (.agg #[I J y.mode,I J y.sure,I J y.snap])).run pQ w=.ok (decide (x=y)) w:=by
 have hS:pQ.underlying 68=some (.struct (pQ.fieldsOf 68)):=by kernel_rfl
 rw[show (10000:Nat)=9999+1 from rfl,run_equalIn_agg w 9999 68 _ _ hS (by kernel_rfl)];simp only[Program.fieldsOf,Tryz.underlying68];have u3:=Tryz.underlying3;have a3:=Tryz.isAgg3;have z3:=Tryz.sizeOf3;have u4:=Tryz.underlying66;have a4:=Tryz.isAgg66;have z4:=Tryz.sizeOf66;go_simp;simp only[O0]
 repeat' split
 all_goals simp[*]
theorem IG(x y:Wd)(w:World):(binOp .eql 68 (.agg #[I J x.mode,I J x.sure,I J x.snap]) (.agg #[I J y.mode,I J y.sure,I J y.snap])).run pQ w=.ok (.bool (decide (x=y))) w:=by
 rw[run_eql_struct,MZ];rfl
theorem DU(x:Wd)(hv:aF w G 3 (A,c) l.length (l.flatMap Wd.cells))(hn:l.length≤1000):
  Calls pQ 205 #[U A l.length c,.agg #[I J x.mode,I J x.sure,I J x.snap]] w λe w'=>∃r:Int,e=.returned (I J r)∧decide (0≤r)=decide (x∈l)∧aa ag w w':=by
 obtain⟨n,d9⟩:∃n,l.length=n:=⟨_,rfl⟩;have HL:=h_ d9;have HV:=h_ hv;rw[d9] at hn ⊢;clear hv d9;go_enter Tryz.func205,Tryz.ntmps205;go_wp2
 go_loopw [8] (λkv wr=>∃k:Nat,k≤n∧kv=I J k∧(¬x∈l.take k)∧aa ag w wr∧aj wr w.heap.size 68 #[I J x.mode,I J x.sure,I J x.snap]) (λkv _=>n-(intOf kv).toNat)
 case atStart=>exact⟨0,by omega,rfl,by simp,(fR w).alloc _,aj.new w _ _⟩
 case round=>
  obtain⟨k,hk,rfl,ht,hf,hb⟩:=hrel;have HT:=h_ ht;have HF:=h_ hf;have HB:=h_ hb;have b0:=hb.cell 0;have b1:=hb.cell 1;have b2:=hb.cell 2;simp at b0 b1 b2;clear ht hf hb
  by_cases hlt:k<n
  ·have cQ:k<l.length:=by rw[HL.out];exact hlt
   obtain⟨bb,off,hA,-,hbl,hcell⟩:=(HV.out.nix HF.out).at_ Wd.clen (by decide) (by omega);dsimp only at hA;subst hA;obtain⟨x0,x1,x2⟩:=Ru (w:=wr) (b:=bb) (off:=off+k * 3) (f:=l[k]) (hcell k cQ);have uZ:Hid (x=l[k]→x∈l):=λh=>h ▸ List.getElem_mem cQ
   have yc:Hid (¬x=l[k]→¬x∈l.take (k+1)):=λh hm=>by
    rw[List.take_succ_eq_append_getElem cQ,List.mem_append,List.mem_singleton] at hm;exact hm.elim HT.out h
   obtain⟨f,hf⟩:∃f,l[k]=f:=⟨_,rfl⟩;rw[hf] at x0 x1 x2 uZ yc;have run:∀W,(binOp .eql 68 (.agg #[I J x.mode,I J x.sure,I J x.snap]) (.agg #[I J f.mode,I J f.sure,I J f.snap])).run pQ W=.ok (.bool (decide (x=f))) W:=λW=>IG x f W
   clear hcell hf;have hg:pQ.eqGuardType pQ.depth 68=false:=by kernel_rfl
   have wJ:(0:Int)≤(k:Int):=by omega
   have I5:(k:Int)<(n:Int):=by omega
   by_cases hq:x=f
   ·have HY:=h_ (uZ.out hq)
    simp only[decide_eq_true hq] at run;clear hq;go_wp2;go_quiet (fail);go_wp2;go_ret;exact⟨k,rfl,by simp[HY.out],HF.out.drewN _⟩
   ·have HN:=h_ (yc.out hq)
    simp only[decide_eq_false hq] at run;clear hq;go_wp2;go_quiet (fail);go_wp2;go_roundw
    case rel=>exact⟨k+1,by omega,by go_num,HN.out,HF.out.drewN _,HB.out.frm ((fR _).drewN _) id⟩
    case measure=>simp[intOf];omega
  ·obtain rfl:k=n:=by omega
   have za:Hid (¬x∈l):=by
    have:=HT.out
    rwa [List.take_of_length_le (by rw[HL.out];exact Nat.le_refl _)] at this
   go_wp2;go_ret;exact⟨-1,rfl,by simp[za.out],HF.out⟩
theorem xy(x:Wd)(hv:aF w G 3 (A,c) l.length (l.flatMap Wd.cells))(hn:l.length≤1000):
  Calls pQ 165 #[U A l.length c,.agg #[I J x.mode,I J x.sure,I J x.snap]] w λe w'=>e=.returned (.bool (decide (x∈l)))∧aa ag w w':=by
 have KI:Hid (∀W,aa ag w W→Calls pQ 205 #[U A l.length c,.agg #[I J x.mode,I J x.sure,I J x.snap]] W λe w'=>∃r:Int,e=.returned (I J r)∧decide (0≤r)=decide (x∈l)∧aa ag W w'):=λW hW=>DU x (hv.nix hW) hn
 clear hv hn;generalize decide (x∈l)=bb at *;generalize l.length=n at *;go_enter Tryz.func165,Tryz.ntmps165;go_wp2_with fail;refine(KI.out _ ((fR w).alloc _)).mono ?_;rintro e w1 ⟨r,rfl,hr,hf⟩;have Z1:Hid (aa ag w w1):=((fR w).alloc _).trans hf;have HR:=h_ hr;clear hf hr;go_wp2;go_ret;exact⟨af (by simpa using HR.out),Z1.out⟩
theorem iK.up{w w1 w2:World}{l l':List Wd}{e:Ending}(h:iK w1 l e w2)(hf:aa ag w w1)(hl:l'=l)(hle:w.heap.size≤w1.heap.size):iK w l' e w2:=by
 subst hl;obtain⟨v,h1,h2,h3⟩:=h;exact⟨v,h1,h2.mono λk hk=>Nat.le_trans hle hk,hf.trans h3⟩
theorem kH(a b:Int):(a==b)=decide (a=b):=by by_cases h:a=b<;>simp[h]
theorem IH(x:Wd){bm bw bd:Nat}{er want:Int}{dn:Bool}(c1:w.cell? ⟨bm,8,none⟩=some (I J er))(c2:w.cell? ⟨bw,0,none⟩=some (I J want))(c3:w.cell? ⟨bd,0,none⟩=some (.bool dn)):
  Calls pQ 118 #[.agg #[I J x.mode,I J x.sure,I J x.snap],O (some ⟨bm,0,none⟩),O (some ⟨bw,0,none⟩),O (some ⟨bd,0,none⟩)] w (iK w (nx want dn er x)):=by
 have l1:=World.block_lt_of_cell? w _ c1;have l2:=World.block_lt_of_cell? w _ c2;have l3:=World.block_lt_of_cell? w _ c3;dsimp only at l1 l2 l3;obtain⟨m,s,n⟩:=x
 by_cases h1:m=3
 ·have e1:(m==3)=true:=beq_iff_eq.2 h1
  have HE:Hid (nx want dn er ⟨m,s,n⟩=cd ⟨m,s,n⟩ (er==6)):=by unfold Hid nx;rw[if_pos h1,kH]
  clear h1;go_enter Tryz.func118,Tryz.ntmps118;go_wp2_with fail;refine(gC ⟨m,s,n⟩ (er==6) _).mono ?_;rintro e w1 ⟨v,rfl,hs,hf⟩;have HS:=h_ hs;have HF:=h_ hf;clear hs hf;go_wp2;go_ret;exact iK.up ⟨v,rfl,HS.out,HF.out⟩ ((fR w).alloc _) HE.out (by simp)
 ·have e1:(m==3)=false:=beq_eq_false_iff_ne.2 h1
  by_cases h2:want=30
  ·have e2:(want==30)=true:=beq_iff_eq.2 h2
   cases dn with
   | true=>
     have HE:Hid (nx want true er ⟨m,s,n⟩=cd ⟨m,s,n⟩ true):=by unfold Hid nx;rw[if_neg h1,if_neg (by simp[h2]),if_pos rfl];rfl
     clear h1 h2;go_enter Tryz.func118,Tryz.ntmps118;go_wp2_with fail;refine(gC ⟨m,s,n⟩ true _).mono ?_;rintro e w1 ⟨v,rfl,hs,hf⟩;have HS:=h_ hs;have HF:=h_ hf;clear hs hf;go_wp2;go_ret
     exact iK.up ⟨v,rfl,HS.out,HF.out⟩ ((fR w).alloc _) HE.out (by simp)
   | false=>
     have HE:Hid (nx want false er ⟨m,s,n⟩=cd ⟨3,s,n⟩ (er==30)):=by unfold Hid nx;rw[if_neg h1,if_neg (by simp[h2]),if_neg (by simp),kH]
     clear h1 h2;go_enter Tryz.func118,Tryz.ntmps118;go_wp2_with fail;refine(gC ⟨3,s,n⟩ (er==30) _).mono ?_;rintro e w1 ⟨v,rfl,hs,hf⟩;have HS:=h_ hs;have HF:=h_ hf;clear hs hf;go_wp2;go_ret;exact iK.up ⟨v,rfl,HS.out,HF.out⟩ ((fR w).alloc _) HE.out (by simp)
  ·have e2:(want==30)=false:=beq_eq_false_iff_ne.2 h2
   have HE:Hid (nx want dn er ⟨m,s,n⟩=cd ⟨m,s,n⟩ (er==want)):=by unfold Hid nx;rw[if_neg h1,if_pos h2,kH]
   clear h1 h2;go_enter Tryz.func118,Tryz.ntmps118;go_wp2_with fail;refine(gC ⟨m,s,n⟩ (er==want) _).mono ?_;rintro e w1 ⟨v,rfl,hs,hf⟩;have HS:=h_ hs;have HF:=h_ hf;clear hs hf;go_wp2;go_ret;exact iK.up ⟨v,rfl,HS.out,HF.out⟩ ((fR w).alloc _) HE.out (by simp)
theorem FO(x:Wd){bm bp g:Nat}(c1:w.cell? ⟨bm,8,none⟩=some (I J er))(c2:w.cell? ⟨bp,0,none⟩=some (O (some ⟨g,0,none⟩)))(c3:w.cell? ⟨g,1,none⟩=some (I J la)):
  Calls pQ 124 #[.agg #[I J x.mode,I J x.sure,I J x.snap],O (some ⟨bm,0,none⟩),O (some ⟨bp,0,none⟩)] w (iK w (lC la er x)):=by
 have l1:=World.block_lt_of_cell? w _ c1;have l2:=World.block_lt_of_cell? w _ c2;have l3:=World.block_lt_of_cell? w _ c3;dsimp only at l1 l2 l3;obtain⟨m,s,n⟩:=x
 by_cases h1:m=3
 ·have e1:(m==3)=true:=beq_iff_eq.2 h1
  have HE:Hid (lC la er ⟨m,s,n⟩=cd ⟨m,s,n⟩ (er==6)):=by unfold Hid lC;rw[if_pos h1,kH]
  clear h1;go_enter Tryz.func124,Tryz.ntmps124;go_wp2_with fail;refine(gC ⟨m,s,n⟩ (er==6) _).mono ?_;rintro e w1 ⟨v,rfl,hs,hf⟩;have HS:=h_ hs;have HF:=h_ hf;clear hs hf;go_wp2;go_ret;exact iK.up ⟨v,rfl,HS.out,HF.out⟩ ((fR w).alloc _) HE.out (by simp)
 ·have e1:(m==3)=false:=beq_eq_false_iff_ne.2 h1
  by_cases h2:er=0
  ·have e2:(er==0)=true:=beq_iff_eq.2 h2
   have HE:Hid (lC la er ⟨m,s,n⟩=cd ⟨m,la,n⟩ (m==1)):=by unfold Hid lC;rw[if_neg h1,if_pos h2,kH]
   clear h1 h2;go_enter Tryz.func124,Tryz.ntmps124;go_wp2_with fail;refine(gC ⟨m,la,n⟩ (m==1) _).mono ?_;rintro e w1 ⟨v,rfl,hs,hf⟩;have HS:=h_ hs;have HF:=h_ hf;clear hs hf;go_wp2;go_ret;exact iK.up ⟨v,rfl,HS.out,HF.out⟩ ((fR w).alloc _) HE.out (by simp)
  ·have e2:(er==0)=false:=beq_eq_false_iff_ne.2 h2
   have HE:Hid (lC la er ⟨m,s,n⟩=cd ⟨3,s,n⟩ (er==30)):=by unfold Hid lC;rw[if_neg h1,if_neg h2,kH]
   clear h1 h2;go_enter Tryz.func124,Tryz.ntmps124;go_wp2_with fail;refine(gC ⟨3,s,n⟩ (er==30) _).mono ?_;rintro e w1 ⟨v,rfl,hs,hf⟩;have HS:=h_ hs;have HF:=h_ hf;clear hs hf;go_wp2;go_ret;exact iK.up ⟨v,rfl,HS.out,HF.out⟩ ((fR w).alloc _) HE.out (by simp)
theorem FP(x:Wd):Calls pQ 121 #[.agg #[I J x.mode,I J x.sure,I J x.snap]] w (iK w [⟨3,x.sure,x.snap⟩]):=by
 obtain⟨m,s,n⟩:=x;go_enter Tryz.func121,Tryz.ntmps121;go_wp2_with fail;refine(gC ⟨3,s,n⟩ true _).mono ?_;rintro e w1 ⟨v,rfl,hs,hf⟩;have HS:=h_ hs;have HF:=h_ hf;clear hs hf;go_wp2;go_ret;exact iK.up ⟨v,rfl,HS.out,HF.out⟩ ((fR w).alloc _) rfl (by simp)
theorem FQ(x:Wd){la sn:Int}(c1:w.cell? ⟨bm,9,none⟩=some (I J la))(c2:w.cell? ⟨bm,10,none⟩=some (I J sn)):
  Calls pQ 123 #[.agg #[I J x.mode,I J x.sure,I J x.snap],O (some ⟨bm,0,none⟩)] w (iK w (l9 la sn x)):=by
 have l1:=World.block_lt_of_cell? w _ c1;dsimp only at l1;obtain⟨m,s,n⟩:=x
 by_cases h1:s≤la
 ·have HE:Hid (l9 la sn ⟨m,s,n⟩=cd ⟨1,la,n⟩ (sn==n)):=by unfold Hid l9;rw[kH];simp[h1]
  go_enter Tryz.func123,Tryz.ntmps123;go_wp2_with fail;refine(gC ⟨1,la,n⟩ (sn==n) _).mono ?_;rintro e w1 ⟨v,rfl,hs,hf⟩;have HS:=h_ hs;have HF:=h_ hf;clear hs hf;go_wp2;go_ret;exact iK.up ⟨v,rfl,HS.out,HF.out⟩ ((fR w).alloc _) HE.out (by simp)
 ·have h2:(decide (s≤la))=false:=decide_eq_false h1
  have HE:Hid (l9 la sn ⟨m,s,n⟩=cd ⟨1,la,n⟩ false):=by unfold Hid l9;simp[h1]
  clear h2;go_enter Tryz.func123,Tryz.ntmps123;go_wp2_with fail;refine(gC ⟨1,la,n⟩ false _).mono ?_;rintro e w1 ⟨v,rfl,hs,hf⟩;have HS:=h_ hs;have HF:=h_ hf;clear hs hf;go_wp2;go_ret;exact iK.up ⟨v,rfl,HS.out,HF.out⟩ ((fR w).alloc _) HE.out (by simp)
end Go.Proofs.YtaecjmiobllhmaaGreat
