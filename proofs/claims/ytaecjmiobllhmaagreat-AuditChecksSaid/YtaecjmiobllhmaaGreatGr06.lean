/- Words. -/
import Derived.Shelf.Spec.SearchS
import Derived.Shelf.Spec.SlicesInsert
import Derived.Shelf.Spec.SlicesInsertGrow
import Derived.Shelf.SlMaps.Clone
import Derived.Ground.SlmcProg
import Derived.Test.YtaecjmiobllhmaaGreatGr05
import Derived.Deep.QuietTactic
set_option linter.unusedVariables false
set_option linter.unusedSimpArgs false
set_option maxRecDepth 100000
set_option maxHeartbeats 16000000
section
namespace Go.Proofs
open Go.Shelf
def Tryz.laysBS_ren:Go.Shelf.Ren:=⟨fun|26=>153|33=>192|34=>193|38=>214|n=>n,fun|24=>80|9=>9|3=>3|4=>4|40=>204|0=>0|n=>n,fun|n=>n⟩
theorem Tryz.laysBS:Go.Proofs.Lays2.n26 Tryz.prog Tryz.laysBS_ren:={
 mixed:=by kernel_rfl
 f26:=Tryz.func153.trans (congrArg some (by kernel_rfl))
 f33:=Tryz.func192.trans (congrArg some (by kernel_rfl))
 f34:=Tryz.func193.trans (congrArg some (by kernel_rfl))
 f38:=Tryz.func214.trans (congrArg some (by kernel_rfl))
 t0:=Tryz.underlying0
 a0:=Tryz.isAgg0
 z0:=Tryz.sizeOf0
 v0:=Tryz.zeroValue0
 t3:=Tryz.underlying3
 a3:=Tryz.isAgg3
 z3:=Tryz.sizeOf3
 v3:=Tryz.zeroValue3
 t4:=Tryz.underlying4
 a4:=Tryz.isAgg4
 z4:=Tryz.sizeOf4
 v4:=Tryz.zeroValue4
 t9:=Tryz.underlying9
 a9:=Tryz.isAgg9
 z9:=Tryz.sizeOf9
 v9:=Tryz.zeroValue9
 t24:=Tryz.underlying80
 a24:=Tryz.isAgg80
 z24:=Tryz.sizeOf80
 v24:=Tryz.zeroValue80
 t40:=Tryz.underlying204
 a40:=Tryz.isAgg204
 z40:=Tryz.sizeOf204
 v40:=Tryz.zeroValue204}
def Tryz.laysIns_ren:Go.Shelf.Ren:=⟨fun|22=>141|29=>175|30=>176|36=>210|17=>230|n=>n,fun|24=>80|9=>9|3=>3|4=>4|0=>0|n=>n,fun|n=>n⟩
theorem Tryz.laysIns:Go.Proofs.Lays2.n22 Tryz.prog Tryz.laysIns_ren:={
 mixed:=by kernel_rfl
 f17:=Tryz.func230.trans (congrArg some (by kernel_rfl))
 f22:=Tryz.func141.trans (congrArg some (by kernel_rfl))
 f29:=Tryz.func175.trans (congrArg some (by kernel_rfl))
 f30:=Tryz.func176.trans (congrArg some (by kernel_rfl))
 f36:=Tryz.func210.trans (congrArg some (by kernel_rfl))
 t0:=Tryz.underlying0
 a0:=Tryz.isAgg0
 z0:=Tryz.sizeOf0
 v0:=Tryz.zeroValue0
 t3:=Tryz.underlying3
 a3:=Tryz.isAgg3
 z3:=Tryz.sizeOf3
 v3:=Tryz.zeroValue3
 t4:=Tryz.underlying4
 a4:=Tryz.isAgg4
 z4:=Tryz.sizeOf4
 v4:=Tryz.zeroValue4
 t9:=Tryz.underlying9
 a9:=Tryz.isAgg9
 z9:=Tryz.sizeOf9
 v9:=Tryz.zeroValue9
 t24:=Tryz.underlying80
 a24:=Tryz.isAgg80
 z24:=Tryz.sizeOf80
 v24:=Tryz.zeroValue80
 i9:=by kernel_rfl}
end Go.Proofs
end
section
namespace Go.Proofs.YtaecjmiobllhmaaGreat
open Go.RowKit Go.Lib
theorem xO{w:World}{a:Addr}{v:Value}(h:w.cell? a=some v):a.spot=none:=by
 unfold World.cell? at h;split at h
 ·split at h
  ·cases h
  ·rename_i hs
   simpa using hs
 ·cases h
theorem tZ(b off n:Nat):(⟨b,off,none⟩:Addr).add n=⟨b,off+n,none⟩:=by
 unfold Addr.add;split
 ·rename_i h;rw[h];rfl
 ·rfl
theorem vM{x y:ByteArray}(h:x≠y):(x.toList==y.toList)=false:=by
 rw[beq_eq_false_iff_ne];intro e;rw[ByteArray.toList_eq,ByteArray.toList_eq] at e;exact h (vg e)
theorem yD{α:Type}{xs ys:List α}{k:Nat}(hx:k<xs.length)(hy:k<ys.length)(h:xs.take k=ys.take k)(he:xs[k]=ys[k]):xs.take (k+1)=ys.take (k+1):=by
 rw[List.take_succ_eq_append_getElem hx,List.take_succ_eq_append_getElem hy,h,he]
theorem EM{w:World}{G G':Nat→Prop}{A A':Option Addr}{n c m d:Nat}{xs ys:List ByteArray}(hx:Rd w G 1 A n (xs.map Value.string))(hy:Rd w G' 1 A' m (ys.map Value.string))(hn:n≤4611686018427387904)(hm:m≤4611686018427387904):
  Calls Tryz.prog 172 #[.slice A n c,.slice A' m d] w λe w'=>e=.returned (.bool (decide (xs=ys)))∧aa ag w w':=by
 have mg:xs.length=n:=by have:=hx.1;simpa using this
 have P5:ys.length=m:=by have:=hy.1;simpa using this
 have RQ:=h_ mg;have RR:=h_ P5;have HX:=h_ hx;have HY:=h_ hy;clear hx hy
 by_cases Ns:n=m
 ·subst Ns
  clear mg P5;go_enter Tryz.func172,Tryz.ntmps172;go_wp2
  go_loopw [5] (λi wr=>∃k:Nat,k≤n∧i=.int .i64 k∧xs.take k=ys.take k∧aa ag w wr) (λi _=>n-(intOf i).toNat)
  case atStart=>exact⟨0,Nat.zero_le _,rfl,rfl,aa.refl _ _⟩
  case round=>
   obtain⟨k,hk,rfl,hall,hfr⟩:=hrel;have HA:=h_ hall;have HF:=h_ hfr;clear hall hfr
   by_cases hlt:k<n
   ·obtain⟨ax,u,rfl,-,lx,hu,RS⟩:=HX.out.at_ hlt
    obtain⟨ay,v,rfl,-,ly,hv,RT⟩:=HY.out.at_ hlt;have cx:=(HF.out.cell (p:=ax.add k) (by rw[cq];exact lx) id).trans RS;have cy:=(HF.out.cell (p:=ay.add k) (by rw[cq];exact ly) id).trans RT;clear RS RT;have kx:k<xs.length:=by rw[RQ.out];exact hlt
    have ky:k<ys.length:=by rw[RR.out];exact hlt
    rw[List.getElem?_map,List.getElem?_eq_getElem kx] at hu;rw[List.getElem?_map,List.getElem?_eq_getElem ky] at hv;injection hu with hu;injection hv with hv;subst hu;subst hv;have HT:=h_ (yD kx ky HA.out);have LS:Hid (xs[k]≠ys[k]→xs≠ys):=λh e=>h (by subst e;rfl)
    obtain⟨X,hX⟩:∃X,xs[k]=X:=⟨_,rfl⟩;obtain⟨Y,hY⟩:∃Y,ys[k]=Y:=⟨_,rfl⟩;rw[hX] at cx HT LS;rw[hY] at cy HT LS;have hk0:(0:Int)≤(k:Int):=Int.natCast_nonneg _;have vh:(k:Int)<(n:Int):=by omega
    clear hX hY
    by_cases Pt:X=Y
    ·have HE:=h_ (HT.out Pt)
     subst Pt;go_wp2_with fail;go_quiet (fail);go_wp2;go_roundw
     case rel=>exact⟨k+1,by omega,by go_num,HE.out,HF.out.drewN _⟩
     case measure=>simp[intOf];omega
    ·have HE:=h_ (LS.out Pt)
     have hb:=vM Pt;go_wp2_with fail;go_quiet (fail);go_wp2;go_ret;exact⟨af (by rw[eq_comm,decide_eq_false_iff_not];exact HE.out),HF.out.drewN _⟩
   ·obtain rfl:k=n:=by omega
    go_wp2;go_ret;refine⟨af ?_,HF.out⟩;have:=HA.out;rw[List.take_of_length_le (by rw[RQ.out];exact Nat.le_refl _),List.take_of_length_le (by rw[RR.out];exact Nat.le_refl _)] at this;rw[eq_comm,decide_eq_true_eq];exact this
 ·have hd:decide ((n:Int)=(m:Int))=false:=by simp;omega
  have hb:((n:Int) !=(m:Int))=true:=by simp;omega
  have LS:Hid (xs≠ys):=λe=>by rw[e] at mg;omega
  clear mg P5;go_enter Tryz.func172,Tryz.ntmps172;go_wp2;go_ret;exact⟨af (by rw[eq_comm,decide_eq_false_iff_not];exact LS.out),aa.refl _ _⟩
theorem LU(s:ByteArray)(w:World)(hs:s.size≤1000000):
  Calls Tryz.prog 184 #[.string s] w λe w'=>e=.returned (.bool (decide (mW s=[s])))∧aa ag w w':=by
 have KW:=h_ (EG s w hs);generalize mW s=l at *;go_enter Tryz.func184,Tryz.ntmps184;go_wp2_with fail;refine KW.out.mono ?_;rintro e w1 ⟨A,c,rfl,hrow⟩;have HF:=h_ hrow.frm
 by_cases h1:l.length=1
 ·obtain⟨x,rfl⟩:=List.length_eq_one_iff.1 h1
  obtain⟨ad,u,rfl,-,-,hu,cx⟩:=hrow.rd.at_ (k:=0) (by simp);simp at hu;subst hu;have ca:w1.cell? ad=some (.string x):=cx;clear hrow cx
  by_cases P6:x=s
  ·subst P6
   go_wp2;go_ret;exact⟨af (by simp),HF.out⟩
  ·have hb:=vM P6
   go_wp2;go_ret;exact⟨af (by simp[P6]),HF.out⟩
 ·have hb:((l.length:Int)==1)=false:=by simp;omega
  have LS:Hid (l≠[s]):=λe=>h1 (by rw[e];rfl)
  clear hrow h1;generalize l.length=N at *;go_wp2;go_ret;exact⟨af (by rw[eq_comm,decide_eq_false_iff_not];exact LS.out),HF.out⟩
end Go.Proofs.YtaecjmiobllhmaaGreat
end
