/- Words. -/
import Derived.Test.YtaecjmiobllhmaaGreatGp80
import Derived.Test.YtaecjmiobllhmaaGreatGp11
import Derived.BigQuiet
set_option linter.unusedVariables false
set_option linter.unusedSimpArgs false
set_option maxRecDepth 100000
set_option maxHeartbeats 16000000
namespace Go.Proofs.YtaecjmiobllhmaaGreat
open Go.RowKit Go.Lib
theorem wd_eq(x y:Wd):(x=y)↔(x.mode=y.mode∧x.sure=y.sure∧x.snap=y.snap):=⟨λh=>by subst h;simp,λ⟨h1,h2,h3⟩=>by cases x;cases y;simp_all⟩
theorem wd3{w:World}{b off:Nat}{f:Wd}(h:∀(j:Nat) (u:Value),f.cells[j]? =some u→w.cell? ⟨b,off+j,none⟩=some u):
  w.cell? ⟨b,off,none⟩=some (.int .i64 f.mode)∧w.cell? ⟨b,off+1,none⟩=some (.int .i64 f.sure)∧w.cell? ⟨b,off+2,none⟩=some (.int .i64 f.snap):=
 ⟨h 0 _ rfl,h 1 _ rfl,h 2 _ rfl⟩
theorem eqInWd(x y:Wd)(w:World):(Op.equalIn 10000 68 (.agg #[.int .i64 x.mode,.int .i64 x.sure,.int .i64 x.snap]) (.agg #[.int .i64 y.mode,.int .i64 y.sure,.int .i64 y.snap])).run Tryz.prog w=.ok (decide (x=y)) w:=by
 have hS:Tryz.prog.underlying 68=some (.struct (Tryz.prog.fieldsOf 68)):=by kernel_rfl
 rw[show (10000:Nat)=9999+1 from rfl,run_equalIn_agg w 9999 68 _ _ hS (by kernel_rfl)];simp only[Program.fieldsOf,Tryz.underlying68];have u3:=Tryz.underlying3;have a3:=Tryz.isAgg3;have z3:=Tryz.sizeOf3;have u4:=Tryz.underlying66;have a4:=Tryz.isAgg66;have z4:=Tryz.sizeOf66;go_simp;simp only[wd_eq]
 repeat' split
 all_goals simp[*]
theorem eqWd_run(x y:Wd)(w:World):(binOp .eql 68 (.agg #[.int .i64 x.mode,.int .i64 x.sure,.int .i64 x.snap]) (.agg #[.int .i64 y.mode,.int .i64 y.sure,.int .i64 y.snap])).run Tryz.prog w=.ok (.bool (decide (x=y))) w:=by
 rw[run_eql_struct,eqInWd];rfl
theorem wIndex_any{w:World}{G:Nat→Prop}{A:Option Addr}{c:Nat}{l:List Wd}(x:Wd)(hv:SlIn w G 3 (A,c) l.length (l.flatMap Wd.cells))(hn:l.length≤1000):
  Calls Tryz.prog 205 #[.slice A l.length c,.agg #[.int .i64 x.mode,.int .i64 x.sure,.int .i64 x.snap]] w λe w'=>∃r:Int,e=.returned (.int .i64 r)∧decide (0≤r)=decide (x∈l)∧Frm Nix w w':=by
 obtain⟨n,hln⟩:∃n,l.length=n:=⟨_,rfl⟩;have HL:=h_ hln;have HV:=h_ hv;rw[hln] at hn ⊢;clear hv hln;go_enter Tryz.func205,Tryz.ntmps205;go_wp2
 go_loopw [8] (λkv wr=>∃k:Nat,k≤n∧kv=.int .i64 k∧(¬x∈l.take k)∧Frm Nix w wr∧Blk wr w.heap.size 68 #[.int .i64 x.mode,.int .i64 x.sure,.int .i64 x.snap]) (λkv _=>n - (intOf kv).toNat)
 case atStart=>exact⟨0,by omega,rfl,by simp,(fR w).alloc _,Blk.new w _ _⟩
 case round=>
  obtain⟨k,hk,rfl,ht,hf,hb⟩:=hrel;have HT:=h_ ht;have HF:=h_ hf;have HB:=h_ hb;have b0:=hb.cell 0;have b1:=hb.cell 1;have b2:=hb.cell 2;simp at b0 b1 b2;clear ht hf hb
  by_cases hlt:k<n
  ·have hkl:k<l.length:=by rw[HL.out];exact hlt
   obtain⟨bb,off,hA,-,hbl,hcell⟩:=(HV.out.nix HF.out).at_ Wd.clen (by decide) (by omega);dsimp only at hA;subst hA;obtain⟨x0,x1,x2⟩:=wd3 (w:=wr) (b:=bb) (off:=off+k * 3) (f:=l[k]) (hcell k hkl);have HYes:Hid (x=l[k]→x∈l):=λh=>h ▸ List.getElem_mem hkl
   have HNo:Hid (¬x=l[k]→¬x∈l.take (k+1)):=λh hm=>by
    rw[List.take_succ_eq_append_getElem hkl,List.mem_append,List.mem_singleton] at hm;exact hm.elim HT.out h
   obtain⟨f,hf⟩:∃f,l[k]=f:=⟨_,rfl⟩;rw[hf] at x0 x1 x2 HYes HNo;have run:∀W,(binOp .eql 68 (.agg #[.int .i64 x.mode,.int .i64 x.sure,.int .i64 x.snap]) (.agg #[.int .i64 f.mode,.int .i64 f.sure,.int .i64 f.snap])).run Tryz.prog W=.ok (.bool (decide (x=f))) W:=λW=>eqWd_run x f W
   clear hcell hf;have hg:Tryz.prog.eqGuardType Tryz.prog.depth 68=false:=by kernel_rfl
   have hi1:(0:Int)≤(k:Int):=by omega
   have hi2:(k:Int)<(n:Int):=by omega
   by_cases hq:x=f
   ·have HY:=h_ (HYes.out hq)
    simp only[decide_eq_true hq] at run;clear hq;go_wp2;go_quiet (fail);go_wp2;go_ret;exact⟨k,rfl,by simp[HY.out],HF.out.drewN _⟩
   ·have HN:=h_ (HNo.out hq)
    simp only[decide_eq_false hq] at run;clear hq;go_wp2;go_quiet (fail);go_wp2;go_roundw
    case rel=>exact⟨k+1,by omega,by go_num,HN.out,HF.out.drewN _,HB.out.frm ((fR _).drewN _) id⟩
    case measure=>simp[intOf];omega
  ·obtain rfl:k=n:=by omega
   have HTk:Hid (¬x∈l):=by
    have:=HT.out
    rwa [List.take_of_length_le (by rw[HL.out];exact Nat.le_refl _)] at this
   go_wp2;go_ret;exact⟨-1,rfl,by simp[HTk.out],HF.out⟩
theorem wContains_any{w:World}{G:Nat→Prop}{A:Option Addr}{c:Nat}{l:List Wd}(x:Wd)(hv:SlIn w G 3 (A,c) l.length (l.flatMap Wd.cells))(hn:l.length≤1000):
  Calls Tryz.prog 165 #[.slice A l.length c,.agg #[.int .i64 x.mode,.int .i64 x.sure,.int .i64 x.snap]] w λe w'=>e=.returned (.bool (decide (x∈l)))∧Frm Nix w w':=by
 have KI:Hid (∀W,Frm Nix w W→Calls Tryz.prog 205 #[.slice A l.length c,.agg #[.int .i64 x.mode,.int .i64 x.sure,.int .i64 x.snap]] W λe w'=>∃r:Int,e=.returned (.int .i64 r)∧decide (0≤r)=decide (x∈l)∧Frm Nix W w'):=λW hW=>wIndex_any x (hv.nix hW) hn
 clear hv hn;generalize decide (x∈l)=bb at *;generalize l.length=n at *;go_enter Tryz.func165,Tryz.ntmps165;go_wp2_with fail;refine(KI.out _ ((fR w).alloc _)).mono ?_;rintro e w1 ⟨r,rfl,hr,hf⟩;have Z1:Hid (Frm Nix w w1):=((fR w).alloc _).trans hf;have HR:=h_ hr;clear hf hr;go_wp2;go_ret;exact⟨ret_bool (by simpa using HR.out),Z1.out⟩
theorem WsOut.up{w w1 w2:World}{l l':List Wd}{e:Ending}(h:WsOut w1 l e w2)(hf:Frm Nix w w1)(hl:l'=l)(hle:w.heap.size≤w1.heap.size):WsOut w l' e w2:=by
 subst hl;obtain⟨v,h1,h2,h3⟩:=h;exact⟨v,h1,h2.mono λk hk=>Nat.le_trans hle hk,hf.trans h3⟩
theorem dec_beq(a b:Int):(a==b)=decide (a=b):=by by_cases h:a=b<;>simp[h]
theorem putC_any{w:World}(x:Wd){bm bw bd:Nat}{er want:Int}{dn:Bool}(c1:w.cell? ⟨bm,8,none⟩=some (.int .i64 er))(c2:w.cell? ⟨bw,0,none⟩=some (.int .i64 want))(c3:w.cell? ⟨bd,0,none⟩=some (.bool dn)):
  Calls Tryz.prog 118 #[.agg #[.int .i64 x.mode,.int .i64 x.sure,.int .i64 x.snap],.pointer (some ⟨bm,0,none⟩),.pointer (some ⟨bw,0,none⟩),.pointer (some ⟨bd,0,none⟩)] w (WsOut w (putW want dn er x)):=by
 have l1:=World.block_lt_of_cell? w _ c1;have l2:=World.block_lt_of_cell? w _ c2;have l3:=World.block_lt_of_cell? w _ c3;dsimp only at l1 l2 l3;obtain⟨m,s,n⟩:=x
 by_cases h1:m=3
 ·have e1:(m==3)=true:=beq_iff_eq.2 h1
  have HE:Hid (putW want dn er ⟨m,s,n⟩=onlyW ⟨m,s,n⟩ (er==6)):=by unfold Hid putW;rw[if_pos h1,dec_beq]
  clear h1;go_enter Tryz.func118,Tryz.ntmps118;go_wp2_with fail;refine(only_any ⟨m,s,n⟩ (er==6) _).mono ?_;rintro e w1 ⟨v,rfl,hs,hf⟩;have HS:=h_ hs;have HF:=h_ hf;clear hs hf;go_wp2;go_ret;exact WsOut.up ⟨v,rfl,HS.out,HF.out⟩ ((fR w).alloc _) HE.out (by simp)
 ·have e1:(m==3)=false:=beq_eq_false_iff_ne.2 h1
  by_cases h2:want=30
  ·have e2:(want==30)=true:=beq_iff_eq.2 h2
   cases dn with
   | true=>
     have HE:Hid (putW want true er ⟨m,s,n⟩=onlyW ⟨m,s,n⟩ true):=by unfold Hid putW;rw[if_neg h1,if_neg (by simp[h2]),if_pos rfl];rfl
     clear h1 h2;go_enter Tryz.func118,Tryz.ntmps118;go_wp2_with fail;refine(only_any ⟨m,s,n⟩ true _).mono ?_;rintro e w1 ⟨v,rfl,hs,hf⟩;have HS:=h_ hs;have HF:=h_ hf;clear hs hf;go_wp2;go_ret
     exact WsOut.up ⟨v,rfl,HS.out,HF.out⟩ ((fR w).alloc _) HE.out (by simp)
   | false=>
     have HE:Hid (putW want false er ⟨m,s,n⟩=onlyW ⟨3,s,n⟩ (er==30)):=by unfold Hid putW;rw[if_neg h1,if_neg (by simp[h2]),if_neg (by simp),dec_beq]
     clear h1 h2;go_enter Tryz.func118,Tryz.ntmps118;go_wp2_with fail;refine(only_any ⟨3,s,n⟩ (er==30) _).mono ?_;rintro e w1 ⟨v,rfl,hs,hf⟩;have HS:=h_ hs;have HF:=h_ hf;clear hs hf;go_wp2;go_ret;exact WsOut.up ⟨v,rfl,HS.out,HF.out⟩ ((fR w).alloc _) HE.out (by simp)
  ·have e2:(want==30)=false:=beq_eq_false_iff_ne.2 h2
   have HE:Hid (putW want dn er ⟨m,s,n⟩=onlyW ⟨m,s,n⟩ (er==want)):=by unfold Hid putW;rw[if_neg h1,if_pos h2,dec_beq]
   clear h1 h2;go_enter Tryz.func118,Tryz.ntmps118;go_wp2_with fail;refine(only_any ⟨m,s,n⟩ (er==want) _).mono ?_;rintro e w1 ⟨v,rfl,hs,hf⟩;have HS:=h_ hs;have HF:=h_ hf;clear hs hf;go_wp2;go_ret;exact WsOut.up ⟨v,rfl,HS.out,HF.out⟩ ((fR w).alloc _) HE.out (by simp)
theorem syncC_any{w:World}(x:Wd){bm bp g:Nat}{er la:Int}(c1:w.cell? ⟨bm,8,none⟩=some (.int .i64 er))(c2:w.cell? ⟨bp,0,none⟩=some (.pointer (some ⟨g,0,none⟩)))(c3:w.cell? ⟨g,1,none⟩=some (.int .i64 la)):
  Calls Tryz.prog 124 #[.agg #[.int .i64 x.mode,.int .i64 x.sure,.int .i64 x.snap],.pointer (some ⟨bm,0,none⟩),.pointer (some ⟨bp,0,none⟩)] w (WsOut w (syncW la er x)):=by
 have l1:=World.block_lt_of_cell? w _ c1;have l2:=World.block_lt_of_cell? w _ c2;have l3:=World.block_lt_of_cell? w _ c3;dsimp only at l1 l2 l3;obtain⟨m,s,n⟩:=x
 by_cases h1:m=3
 ·have e1:(m==3)=true:=beq_iff_eq.2 h1
  have HE:Hid (syncW la er ⟨m,s,n⟩=onlyW ⟨m,s,n⟩ (er==6)):=by unfold Hid syncW;rw[if_pos h1,dec_beq]
  clear h1;go_enter Tryz.func124,Tryz.ntmps124;go_wp2_with fail;refine(only_any ⟨m,s,n⟩ (er==6) _).mono ?_;rintro e w1 ⟨v,rfl,hs,hf⟩;have HS:=h_ hs;have HF:=h_ hf;clear hs hf;go_wp2;go_ret;exact WsOut.up ⟨v,rfl,HS.out,HF.out⟩ ((fR w).alloc _) HE.out (by simp)
 ·have e1:(m==3)=false:=beq_eq_false_iff_ne.2 h1
  by_cases h2:er=0
  ·have e2:(er==0)=true:=beq_iff_eq.2 h2
   have HE:Hid (syncW la er ⟨m,s,n⟩=onlyW ⟨m,la,n⟩ (m==1)):=by unfold Hid syncW;rw[if_neg h1,if_pos h2,dec_beq]
   clear h1 h2;go_enter Tryz.func124,Tryz.ntmps124;go_wp2_with fail;refine(only_any ⟨m,la,n⟩ (m==1) _).mono ?_;rintro e w1 ⟨v,rfl,hs,hf⟩;have HS:=h_ hs;have HF:=h_ hf;clear hs hf;go_wp2;go_ret;exact WsOut.up ⟨v,rfl,HS.out,HF.out⟩ ((fR w).alloc _) HE.out (by simp)
  ·have e2:(er==0)=false:=beq_eq_false_iff_ne.2 h2
   have HE:Hid (syncW la er ⟨m,s,n⟩=onlyW ⟨3,s,n⟩ (er==30)):=by unfold Hid syncW;rw[if_neg h1,if_neg h2,dec_beq]
   clear h1 h2;go_enter Tryz.func124,Tryz.ntmps124;go_wp2_with fail;refine(only_any ⟨3,s,n⟩ (er==30) _).mono ?_;rintro e w1 ⟨v,rfl,hs,hf⟩;have HS:=h_ hs;have HF:=h_ hf;clear hs hf;go_wp2;go_ret;exact WsOut.up ⟨v,rfl,HS.out,HF.out⟩ ((fR w).alloc _) HE.out (by simp)
theorem deadC_any{w:World}(x:Wd):Calls Tryz.prog 121 #[.agg #[.int .i64 x.mode,.int .i64 x.sure,.int .i64 x.snap]] w (WsOut w [⟨3,x.sure,x.snap⟩]):=by
 obtain⟨m,s,n⟩:=x;go_enter Tryz.func121,Tryz.ntmps121;go_wp2_with fail;refine(only_any ⟨3,s,n⟩ true _).mono ?_;rintro e w1 ⟨v,rfl,hs,hf⟩;have HS:=h_ hs;have HF:=h_ hf;clear hs hf;go_wp2;go_ret;exact WsOut.up ⟨v,rfl,HS.out,HF.out⟩ ((fR w).alloc _) rfl (by simp)
theorem openC_any{w:World}(x:Wd){bm:Nat}{la sn:Int}(c1:w.cell? ⟨bm,9,none⟩=some (.int .i64 la))(c2:w.cell? ⟨bm,10,none⟩=some (.int .i64 sn)):
  Calls Tryz.prog 123 #[.agg #[.int .i64 x.mode,.int .i64 x.sure,.int .i64 x.snap],.pointer (some ⟨bm,0,none⟩)] w (WsOut w (openW la sn x)):=by
 have l1:=World.block_lt_of_cell? w _ c1;dsimp only at l1;obtain⟨m,s,n⟩:=x
 by_cases h1:s≤la
 ·have HE:Hid (openW la sn ⟨m,s,n⟩=onlyW ⟨1,la,n⟩ (sn==n)):=by unfold Hid openW;rw[dec_beq];simp[h1]
  go_enter Tryz.func123,Tryz.ntmps123;go_wp2_with fail;refine(only_any ⟨1,la,n⟩ (sn==n) _).mono ?_;rintro e w1 ⟨v,rfl,hs,hf⟩;have HS:=h_ hs;have HF:=h_ hf;clear hs hf;go_wp2;go_ret;exact WsOut.up ⟨v,rfl,HS.out,HF.out⟩ ((fR w).alloc _) HE.out (by simp)
 ·have h2:(decide (s≤la))=false:=decide_eq_false h1
  have HE:Hid (openW la sn ⟨m,s,n⟩=onlyW ⟨1,la,n⟩ false):=by unfold Hid openW;simp[h1]
  clear h2;go_enter Tryz.func123,Tryz.ntmps123;go_wp2_with fail;refine(only_any ⟨1,la,n⟩ false _).mono ?_;rintro e w1 ⟨v,rfl,hs,hf⟩;have HS:=h_ hs;have HF:=h_ hf;clear hs hf;go_wp2;go_ret;exact WsOut.up ⟨v,rfl,HS.out,HF.out⟩ ((fR w).alloc _) HE.out (by simp)
end Go.Proofs.YtaecjmiobllhmaaGreat
