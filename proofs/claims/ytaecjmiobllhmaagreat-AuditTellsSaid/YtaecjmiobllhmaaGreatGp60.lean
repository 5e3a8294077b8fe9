/- Words. -/
import Derived.Test.YtaecjmiobllhmaaGreatGp11
import Derived.Deep.Cut
import Derived.Deep.CutRange
import Derived.Deep.DeepCutAuto
set_option linter.unusedVariables false
set_option linter.unusedSimpArgs false
set_option maxRecDepth 100000
set_option maxHeartbeats 16000000
namespace Go.Proofs.YtaecjmiobllhmaaGreat
open Go.RowKit Go.Lib
theorem evEqL(e e':Ev):decide (e=e')=(decide (e.kind=e'.kind)&&(decide (e.a=e'.a)&&(decide (e.b=e'.b)&&(decide (e.n=e'.n)&&(decide (e.s.toList=e'.s.toList)&&(decide (e.t.toList=e'.t.toList)&&decide (e.u.toList=e'.u.toList))))))):=by
 rw[evEq_iff];simp only[toList_inj]
theorem placeL(s:ByteArray):placeOk s=(!s.toList.isEmpty&&linkOk s):=by
 unfold placeOk
 by_cases h:s=eS
 ·subst h
  simp[eS_list]
 ·have:=mt toList_nil.1 h
  simp[h,this]
theorem ev_cells2{w W:World}{k a b n k' a' b' n':Int}{s t u s' t' u':ByteArray}(h:Frm Nix ((w.alloc (.cells #[.int .i64 k,.int .i64 a,.int .i64 b,.int .i64 n,.string s,.string t,.string u] 42)).alloc (.cells #[.int .i64 k',.int .i64 a',.int .i64 b',.int .i64 n',.string s',.string t',.string u'] 42)) W):
  Blk W w.heap.size 42 #[.int .i64 k,.int .i64 a,.int .i64 b,.int .i64 n,.string s,.string t,.string u]∧Blk W (w.heap.size+1) 42 #[.int .i64 k',.int .i64 a',.int .i64 b',.int .i64 n',.string s',.string t',.string u']:=by
 have hb1:=((Blk.new w 42 #[.int .i64 k,.int .i64 a,.int .i64 b,.int .i64 n,.string s,.string t,.string u]).alloc (.cells #[.int .i64 k',.int .i64 a',.int .i64 b',.int .i64 n',.string s',.string t',.string u'] 42)).frm h id;have hb2:=(Blk.new (w.alloc (.cells #[.int .i64 k,.int .i64 a,.int .i64 b,.int .i64 n,.string s,.string t,.string u] 42)) 42 #[.int .i64 k',.int .i64 a',.int .i64 b',.int .i64 n',.string s',.string t',.string u']).frm h id;simp at hb2;exact⟨hb1,hb2⟩
theorem rCheck0_any(k a b n:Int)(s t u:ByteArray)(w:World)(hk:¬(1≤k∧k≤13)):Calls Tryz.prog 71 #[evV ⟨k,a,b,n,s,t,u⟩] w λr w'=>r=.returned (.bool false)∧Frm Nix w w':=by
 have HF:Hid (Frm Nix w ((w.alloc (.cells #[.int .i64 k,.int .i64 a,.int .i64 b,.int .i64 n,.string s,.string t,.string u] 42)).alloc (.cells #[.int .i64 k,.int .i64 a,.int .i64 0,.int .i64 0,.string {data:=#[]},.string {data:=#[]},.string {data:=#[]}] 42))):=((fR w).alloc _).alloc _;have b1:(k==1)=false:=by simp;omega
 have b2:(k==2)=false:=by simp;omega
 have b3:(k==3)=false:=by simp;omega
 have b4:(k==4)=false:=by simp;omega
 have b5:(k==5)=false:=by simp;omega
 have b6:(k==6)=false:=by simp;omega
 have b7:(k==7)=false:=by simp;omega
 have b8:(k==8)=false:=by simp;omega
 have b9:(k==9)=false:=by simp;omega
 have b10:(k==10)=false:=by simp;omega
 have b11:(k==11)=false:=by simp;omega
 have b12:(k==12)=false:=by simp;omega
 have b13:(k==13)=false:=by simp;omega
 clear hk;unfold evV;go_enter Tryz.func71,Tryz.ntmps71;go_wp2_with (go_at_call 127;refine(rId_any _ _).mono ?_;rintro e w' ⟨rfl,rfl⟩)
 all_goals
  subst_vars
  go_ret;exact⟨rfl,HF.out⟩
theorem rCheck1_any(a b n:Int)(s t u:ByteArray)(w:World):Calls Tryz.prog 71 #[evV ⟨1,a,b,n,s,t,u⟩] w λr w'=>r=.returned (.bool (evOk ⟨1,a,b,n,s,t,u⟩))∧Frm Nix w w':=by
 have hcur0:=fR ((w.alloc (.cells #[.int .i64 1,.int .i64 a,.int .i64 b,.int .i64 n,.string s,.string t,.string u] 42)).alloc (.cells #[.int .i64 1,.int .i64 a,.int .i64 b,.int .i64 0,.string s,.string {data:=#[]},.string {data:=#[]}] 42));have hcur:=hcur0.drew;have HC:=λW (h:Frm Nix ((w.alloc (.cells #[.int .i64 1,.int .i64 a,.int .i64 b,.int .i64 n,.string s,.string t,.string u] 42)).alloc (.cells #[.int .i64 1,.int .i64 a,.int .i64 b,.int .i64 0,.string s,.string {data:=#[]},.string {data:=#[]}] 42)) W)=>ev_cells2 h
 have HF:Hid (Frm Nix w ((w.alloc (.cells #[.int .i64 1,.int .i64 a,.int .i64 b,.int .i64 n,.string s,.string t,.string u] 42)).alloc (.cells #[.int .i64 1,.int .i64 a,.int .i64 b,.int .i64 0,.string s,.string {data:=#[]},.string {data:=#[]}] 42))):=((fR w).alloc _).alloc _;have hg:Tryz.prog.eqGuardType Tryz.prog.depth 42=false:=by kernel_rfl
 unfold evV;go_enter Tryz.func71,Tryz.ntmps71
 go_upto_region 3 with ((go_at_call 127;refine(rId_any _ _).mono ?_;rintro e w' ⟨rfl,rfl⟩))
 go_cut [5] (λs5 wx=>s5=.bool (flagOk n)∧wx=((w.alloc (.cells #[.int .i64 1,.int .i64 a,.int .i64 b,.int .i64 n,.string s,.string t,.string u] 42)).alloc (.cells #[.int .i64 1,.int .i64 a,.int .i64 0,.int .i64 0,.string {data:=#[]},.string {data:=#[]},.string {data:=#[]}] 42)))
 case first=>
  cases hb0:(n==0)
  all_goals
   cases hb1:(n==1)
   all_goals
    go_wp2_with fail
    go_meet
    exact⟨congrArg Value.bool (by simp[flagOk,beq_iff_eq,beq_eq_false_iff_ne] at *;simp[flagOk, *]),rfl⟩
 case rest=>
 obtain⟨rfl,rfl⟩:=hcut
 go_upto_region 4 with fail
 go_cut [6] (λs6 wx=>s6=.bool (folderOk b)∧wx=((w.alloc (.cells #[.int .i64 1,.int .i64 a,.int .i64 b,.int .i64 n,.string s,.string t,.string u] 42)).alloc (.cells #[.int .i64 1,.int .i64 a,.int .i64 0,.int .i64 0,.string {data:=#[]},.string {data:=#[]},.string {data:=#[]}] 42)))
 case first=>
  cases hb0:(b==0)
  all_goals
   go_wp2_with (go_at_call 127;refine(rId_any _ _).mono ?_;rintro e w' ⟨rfl,rfl⟩)
   go_meet
   exact⟨congrArg Value.bool (by simp[beq_iff_eq,beq_eq_false_iff_ne] at hb0;simp[folderOk, *]),rfl⟩
 case rest=>
 obtain⟨rfl,rfl⟩:=hcut
 cases hfx:folderOk b
 all_goals
  go_step
  go_step
  go_cut [4] (λs4 wx=>s4=.bool (evRight ⟨1,a,b,n,s,t,u⟩)∧Frm Nix ((w.alloc (.cells #[.int .i64 1,.int .i64 a,.int .i64 b,.int .i64 n,.string s,.string t,.string u] 42)).alloc (.cells #[.int .i64 1,.int .i64 a,.int .i64 b,.int .i64 0,.string s,.string {data:=#[]},.string {data:=#[]}] 42)) wx)
  case first=>
   skip
   all_goals
    go_wp2_with (first
     | (go_at_call 127;refine(rId_any _ _).mono ?_;rintro e w' ⟨rfl,rfl⟩)
     | (go_at_call 128;refine(rLabel_any _ _).mono ?_;rintro e w' ⟨rfl,hf'⟩;replace hcur:=hcur.trans hf';obtain⟨d0,d1,d2,d3,d4,d5,d6⟩:=blk7 (HC _ hcur).1;clear hf')
     | fail)
    go_region
    go_wp2_with (first
     | (go_at_call 127;refine(rId_any _ _).mono ?_;rintro e w' ⟨rfl,rfl⟩)
     | (go_at_call 128;refine(rLabel_any _ _).mono ?_;rintro e w' ⟨rfl,hf'⟩;replace hcur:=hcur.trans hf';obtain⟨d0,d1,d2,d3,d4,d5,d6⟩:=blk7 (HC _ hcur).1;clear hf')
     | fail)
   all_goals
    go_meet
    exact⟨congrArg Value.bool (by simp[evRight,placeL, *]),hcur⟩
  case rest=>
  obtain⟨rfl,hcur⟩:=hcut;obtain⟨d0,d1,d2,d3,d4,d5,d6⟩:=blk7 (HC _ hcur).1;obtain⟨x0,x1,x2,x3,x4,x5,x6⟩:=blk7 (HC _ hcur).2
  cases hrt:evRight ⟨1,a,b,n,s,t,u⟩
  all_goals
   go_wp2_with fail
  all_goals
   go_ret;refine⟨ret_bool ?_,by first | exact HF.out.trans hcur | exact HF.out⟩;clear HC HF hcur;rw[evOk,evEqL,hrt];simp[evUsed,eS, *]
theorem rCheck2_any(a b n:Int)(s t u:ByteArray)(w:World):Calls Tryz.prog 71 #[evV ⟨2,a,b,n,s,t,u⟩] w λr w'=>r=.returned (.bool (evOk ⟨2,a,b,n,s,t,u⟩))∧Frm Nix w w':=by
 have hcur:=fR ((w.alloc (.cells #[.int .i64 2,.int .i64 a,.int .i64 b,.int .i64 n,.string s,.string t,.string u] 42)).alloc (.cells #[.int .i64 2,.int .i64 a,.int .i64 0,.int .i64 0,.string {data:=#[]},.string {data:=#[]},.string {data:=#[]}] 42));have HC:=λW (h:Frm Nix ((w.alloc (.cells #[.int .i64 2,.int .i64 a,.int .i64 b,.int .i64 n,.string s,.string t,.string u] 42)).alloc (.cells #[.int .i64 2,.int .i64 a,.int .i64 0,.int .i64 0,.string {data:=#[]},.string {data:=#[]},.string {data:=#[]}] 42)) W)=>ev_cells2 h
 have HF:Hid (Frm Nix w ((w.alloc (.cells #[.int .i64 2,.int .i64 a,.int .i64 b,.int .i64 n,.string s,.string t,.string u] 42)).alloc (.cells #[.int .i64 2,.int .i64 a,.int .i64 0,.int .i64 0,.string {data:=#[]},.string {data:=#[]},.string {data:=#[]}] 42))):=((fR w).alloc _).alloc _;have hg:Tryz.prog.eqGuardType Tryz.prog.depth 42=false:=by kernel_rfl
 unfold evV;go_enter Tryz.func71,Tryz.ntmps71
 go_upto_region 3 with ((go_at_call 127;refine(rId_any _ _).mono ?_;rintro e w' ⟨rfl,rfl⟩))
 go_cut [5] (λs5 wx=>s5=.bool (flagOk n)∧wx=((w.alloc (.cells #[.int .i64 2,.int .i64 a,.int .i64 b,.int .i64 n,.string s,.string t,.string u] 42)).alloc (.cells #[.int .i64 2,.int .i64 a,.int .i64 0,.int .i64 0,.string {data:=#[]},.string {data:=#[]},.string {data:=#[]}] 42)))
 case first=>
  cases hb0:(n==0)
  all_goals
   cases hb1:(n==1)
   all_goals
    go_wp2_with fail
    go_meet
    exact⟨congrArg Value.bool (by simp[flagOk,beq_iff_eq,beq_eq_false_iff_ne] at *;simp[flagOk, *]),rfl⟩
 case rest=>
 obtain⟨rfl,rfl⟩:=hcut
 go_upto_region 4 with fail
 go_cut [6] (λs6 wx=>s6=.bool (folderOk b)∧wx=((w.alloc (.cells #[.int .i64 2,.int .i64 a,.int .i64 b,.int .i64 n,.string s,.string t,.string u] 42)).alloc (.cells #[.int .i64 2,.int .i64 a,.int .i64 0,.int .i64 0,.string {data:=#[]},.string {data:=#[]},.string {data:=#[]}] 42)))
 case first=>
  cases hb0:(b==0)
  all_goals
   go_wp2_with (go_at_call 127;refine(rId_any _ _).mono ?_;rintro e w' ⟨rfl,rfl⟩)
   go_meet
   exact⟨congrArg Value.bool (by simp[beq_iff_eq,beq_eq_false_iff_ne] at hb0;simp[folderOk, *]),rfl⟩
 case rest=>
 obtain⟨rfl,rfl⟩:=hcut
 go_step
 go_step
 go_cut [4] (λs4 wx=>s4=.bool (evRight ⟨2,a,b,n,s,t,u⟩)∧Frm Nix ((w.alloc (.cells #[.int .i64 2,.int .i64 a,.int .i64 b,.int .i64 n,.string s,.string t,.string u] 42)).alloc (.cells #[.int .i64 2,.int .i64 a,.int .i64 0,.int .i64 0,.string {data:=#[]},.string {data:=#[]},.string {data:=#[]}] 42)) wx)
 case first=>
  skip
  all_goals
   go_wp2_with (first
    | (go_at_call 127;refine(rId_any _ _).mono ?_;rintro e w' ⟨rfl,rfl⟩)
    | fail)
  all_goals
   go_meet
   exact⟨congrArg Value.bool (by simp[evRight,placeL, *]),hcur⟩
 case rest=>
 obtain⟨rfl,hcur⟩:=hcut;obtain⟨d0,d1,d2,d3,d4,d5,d6⟩:=blk7 (HC _ hcur).1;obtain⟨x0,x1,x2,x3,x4,x5,x6⟩:=blk7 (HC _ hcur).2
 cases hrt:evRight ⟨2,a,b,n,s,t,u⟩
 all_goals
  go_wp2_with fail
 all_goals
  go_ret;refine⟨ret_bool ?_,by first | exact HF.out.trans hcur | exact HF.out⟩;clear HC HF hcur;rw[evOk,evEqL,hrt];simp[evUsed,eS, *]
theorem rCheck3_any(a b n:Int)(s t u:ByteArray)(w:World):Calls Tryz.prog 71 #[evV ⟨3,a,b,n,s,t,u⟩] w λr w'=>r=.returned (.bool (evOk ⟨3,a,b,n,s,t,u⟩))∧Frm Nix w w':=by
 have hcur0:=fR ((w.alloc (.cells #[.int .i64 3,.int .i64 a,.int .i64 b,.int .i64 n,.string s,.string t,.string u] 42)).alloc (.cells #[.int .i64 3,.int .i64 a,.int .i64 b,.int .i64 0,.string s,.string t,.string {data:=#[]}] 42));have hcur:=hcur0.drew;have HC:=λW (h:Frm Nix ((w.alloc (.cells #[.int .i64 3,.int .i64 a,.int .i64 b,.int .i64 n,.string s,.string t,.string u] 42)).alloc (.cells #[.int .i64 3,.int .i64 a,.int .i64 b,.int .i64 0,.string s,.string t,.string {data:=#[]}] 42)) W)=>ev_cells2 h
 have HF:Hid (Frm Nix w ((w.alloc (.cells #[.int .i64 3,.int .i64 a,.int .i64 b,.int .i64 n,.string s,.string t,.string u] 42)).alloc (.cells #[.int .i64 3,.int .i64 a,.int .i64 b,.int .i64 0,.string s,.string t,.string {data:=#[]}] 42))):=((fR w).alloc _).alloc _;have hg:Tryz.prog.eqGuardType Tryz.prog.depth 42=false:=by kernel_rfl
 unfold evV;go_enter Tryz.func71,Tryz.ntmps71
 go_upto_region 3 with ((go_at_call 127;refine(rId_any _ _).mono ?_;rintro e w' ⟨rfl,rfl⟩))
 go_cut [5] (λs5 wx=>s5=.bool (flagOk n)∧wx=((w.alloc (.cells #[.int .i64 3,.int .i64 a,.int .i64 b,.int .i64 n,.string s,.string t,.string u] 42)).alloc (.cells #[.int .i64 3,.int .i64 a,.int .i64 0,.int .i64 0,.string {data:=#[]},.string {data:=#[]},.string {data:=#[]}] 42)))
 case first=>
  cases hb0:(n==0)
  all_goals
   cases hb1:(n==1)
   all_goals
    go_wp2_with fail
    go_meet
    exact⟨congrArg Value.bool (by simp[flagOk,beq_iff_eq,beq_eq_false_iff_ne] at *;simp[flagOk, *]),rfl⟩
 case rest=>
 obtain⟨rfl,rfl⟩:=hcut
 go_upto_region 4 with fail
 go_cut [6] (λs6 wx=>s6=.bool (folderOk b)∧wx=((w.alloc (.cells #[.int .i64 3,.int .i64 a,.int .i64 b,.int .i64 n,.string s,.string t,.string u] 42)).alloc (.cells #[.int .i64 3,.int .i64 a,.int .i64 0,.int .i64 0,.string {data:=#[]},.string {data:=#[]},.string {data:=#[]}] 42)))
 case first=>
  cases hb0:(b==0)
  all_goals
   go_wp2_with (go_at_call 127;refine(rId_any _ _).mono ?_;rintro e w' ⟨rfl,rfl⟩)
   go_meet
   exact⟨congrArg Value.bool (by simp[beq_iff_eq,beq_eq_false_iff_ne] at hb0;simp[folderOk, *]),rfl⟩
 case rest=>
 obtain⟨rfl,rfl⟩:=hcut
 cases hfx:folderOk b
 all_goals
  go_step
  go_step
  go_cut [4] (λs4 wx=>s4=.bool (evRight ⟨3,a,b,n,s,t,u⟩)∧Frm Nix ((w.alloc (.cells #[.int .i64 3,.int .i64 a,.int .i64 b,.int .i64 n,.string s,.string t,.string u] 42)).alloc (.cells #[.int .i64 3,.int .i64 a,.int .i64 b,.int .i64 0,.string s,.string t,.string {data:=#[]}] 42)) wx)
  case first=>
   skip
   all_goals
    go_wp2_with (first
     | (go_at_call 127;refine(rId_any _ _).mono ?_;rintro e w' ⟨rfl,rfl⟩)
     | (go_at_call 129;refine(rLink_any _ _).mono ?_;rintro e w' ⟨rfl,hf'⟩;replace hcur:=hcur.trans hf';obtain⟨d0,d1,d2,d3,d4,d5,d6⟩:=blk7 (HC _ hcur).1;clear hf')
     | (go_at_call 130;refine(rTitle_any _ _).mono ?_;rintro e w' ⟨rfl,hf'⟩;replace hcur:=hcur.trans hf';obtain⟨d0,d1,d2,d3,d4,d5,d6⟩:=blk7 (HC _ hcur).1;clear hf')
     | fail)
    go_region
    go_wp2_with (first
     | (go_at_call 127;refine(rId_any _ _).mono ?_;rintro e w' ⟨rfl,rfl⟩)
     | (go_at_call 129;refine(rLink_any _ _).mono ?_;rintro e w' ⟨rfl,hf'⟩;replace hcur:=hcur.trans hf';obtain⟨d0,d1,d2,d3,d4,d5,d6⟩:=blk7 (HC _ hcur).1;clear hf')
     | (go_at_call 130;refine(rTitle_any _ _).mono ?_;rintro e w' ⟨rfl,hf'⟩;replace hcur:=hcur.trans hf';obtain⟨d0,d1,d2,d3,d4,d5,d6⟩:=blk7 (HC _ hcur).1;clear hf')
     | fail)
   all_goals
    go_meet
    exact⟨congrArg Value.bool (by simp[evRight,placeL, *]),hcur⟩
  case rest=>
  obtain⟨rfl,hcur⟩:=hcut;obtain⟨d0,d1,d2,d3,d4,d5,d6⟩:=blk7 (HC _ hcur).1;obtain⟨x0,x1,x2,x3,x4,x5,x6⟩:=blk7 (HC _ hcur).2
  cases hrt:evRight ⟨3,a,b,n,s,t,u⟩
  all_goals
   go_wp2_with fail
  all_goals
   go_ret;refine⟨ret_bool ?_,by first | exact HF.out.trans hcur | exact HF.out⟩;clear HC HF hcur;rw[evOk,evEqL,hrt];simp[evUsed,eS, *]
theorem rCheck4_any(a b n:Int)(s t u:ByteArray)(w:World):Calls Tryz.prog 71 #[evV ⟨4,a,b,n,s,t,u⟩] w λr w'=>r=.returned (.bool (evOk ⟨4,a,b,n,s,t,u⟩))∧Frm Nix w w':=by
 have hcur:=fR ((w.alloc (.cells #[.int .i64 4,.int .i64 a,.int .i64 b,.int .i64 n,.string s,.string t,.string u] 42)).alloc (.cells #[.int .i64 4,.int .i64 a,.int .i64 0,.int .i64 0,.string {data:=#[]},.string {data:=#[]},.string {data:=#[]}] 42));have HC:=λW (h:Frm Nix ((w.alloc (.cells #[.int .i64 4,.int .i64 a,.int .i64 b,.int .i64 n,.string s,.string t,.string u] 42)).alloc (.cells #[.int .i64 4,.int .i64 a,.int .i64 0,.int .i64 0,.string {data:=#[]},.string {data:=#[]},.string {data:=#[]}] 42)) W)=>ev_cells2 h
 have HF:Hid (Frm Nix w ((w.alloc (.cells #[.int .i64 4,.int .i64 a,.int .i64 b,.int .i64 n,.string s,.string t,.string u] 42)).alloc (.cells #[.int .i64 4,.int .i64 a,.int .i64 0,.int .i64 0,.string {data:=#[]},.string {data:=#[]},.string {data:=#[]}] 42))):=((fR w).alloc _).alloc _;have hg:Tryz.prog.eqGuardType Tryz.prog.depth 42=false:=by kernel_rfl
 unfold evV;go_enter Tryz.func71,Tryz.ntmps71
 go_upto_region 3 with ((go_at_call 127;refine(rId_any _ _).mono ?_;rintro e w' ⟨rfl,rfl⟩))
 go_cut [5] (λs5 wx=>s5=.bool (flagOk n)∧wx=((w.alloc (.cells #[.int .i64 4,.int .i64 a,.int .i64 b,.int .i64 n,.string s,.string t,.string u] 42)).alloc (.cells #[.int .i64 4,.int .i64 a,.int .i64 0,.int .i64 0,.string {data:=#[]},.string {data:=#[]},.string {data:=#[]}] 42)))
 case first=>
  cases hb0:(n==0)
  all_goals
   cases hb1:(n==1)
   all_goals
    go_wp2_with fail
    go_meet
    exact⟨congrArg Value.bool (by simp[flagOk,beq_iff_eq,beq_eq_false_iff_ne] at *;simp[flagOk, *]),rfl⟩
 case rest=>
 obtain⟨rfl,rfl⟩:=hcut
 go_upto_region 4 with fail
 go_cut [6] (λs6 wx=>s6=.bool (folderOk b)∧wx=((w.alloc (.cells #[.int .i64 4,.int .i64 a,.int .i64 b,.int .i64 n,.string s,.string t,.string u] 42)).alloc (.cells #[.int .i64 4,.int .i64 a,.int .i64 0,.int .i64 0,.string {data:=#[]},.string {data:=#[]},.string {data:=#[]}] 42)))
 case first=>
  cases hb0:(b==0)
  all_goals
   go_wp2_with (go_at_call 127;refine(rId_any _ _).mono ?_;rintro e w' ⟨rfl,rfl⟩)
   go_meet
   exact⟨congrArg Value.bool (by simp[beq_iff_eq,beq_eq_false_iff_ne] at hb0;simp[folderOk, *]),rfl⟩
 case rest=>
 obtain⟨rfl,rfl⟩:=hcut
 go_step
 go_step
 go_cut [4] (λs4 wx=>s4=.bool (evRight ⟨4,a,b,n,s,t,u⟩)∧Frm Nix ((w.alloc (.cells #[.int .i64 4,.int .i64 a,.int .i64 b,.int .i64 n,.string s,.string t,.string u] 42)).alloc (.cells #[.int .i64 4,.int .i64 a,.int .i64 0,.int .i64 0,.string {data:=#[]},.string {data:=#[]},.string {data:=#[]}] 42)) wx)
 case first=>
  skip
  all_goals
   go_wp2_with (first
    | (go_at_call 127;refine(rId_any _ _).mono ?_;rintro e w' ⟨rfl,rfl⟩)
    | fail)
  all_goals
   go_meet
   exact⟨congrArg Value.bool (by simp[evRight,placeL, *]),hcur⟩
 case rest=>
 obtain⟨rfl,hcur⟩:=hcut;obtain⟨d0,d1,d2,d3,d4,d5,d6⟩:=blk7 (HC _ hcur).1;obtain⟨x0,x1,x2,x3,x4,x5,x6⟩:=blk7 (HC _ hcur).2
 cases hrt:evRight ⟨4,a,b,n,s,t,u⟩
 all_goals
  go_wp2_with fail
 all_goals
  go_ret;refine⟨ret_bool ?_,by first | exact HF.out.trans hcur | exact HF.out⟩;clear HC HF hcur;rw[evOk,evEqL,hrt];simp[evUsed,eS, *]
end Go.Proofs.YtaecjmiobllhmaaGreat
