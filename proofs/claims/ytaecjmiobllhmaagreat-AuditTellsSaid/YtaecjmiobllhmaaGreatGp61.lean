/- Words. -/
import Derived.Test.YtaecjmiobllhmaaGreatGp60
import Derived.Deep.Cut
import Derived.Deep.CutRange
import Derived.Deep.DeepCutAuto
set_option linter.unusedVariables false
set_option linter.unusedSimpArgs false
set_option maxRecDepth 100000
set_option maxHeartbeats 16000000
namespace Go.Proofs.YtaecjmiobllhmaaGreat
open Go.RowKit Go.Lib
theorem rCheck5_any(a b n:Int)(s t u:ByteArray)(w:World):Calls Tryz.prog 71 #[evV ⟨5,a,b,n,s,t,u⟩] w λr w'=>r=.returned (.bool (evOk ⟨5,a,b,n,s,t,u⟩))∧Frm Nix w w':=by
 have hcur:=fR ((w.alloc (.cells #[.int .i64 5,.int .i64 a,.int .i64 b,.int .i64 n,.string s,.string t,.string u] 42)).alloc (.cells #[.int .i64 5,.int .i64 a,.int .i64 0,.int .i64 0,.string {data:=#[]},.string t,.string {data:=#[]}] 42));have HC:=λW (h:Frm Nix ((w.alloc (.cells #[.int .i64 5,.int .i64 a,.int .i64 b,.int .i64 n,.string s,.string t,.string u] 42)).alloc (.cells #[.int .i64 5,.int .i64 a,.int .i64 0,.int .i64 0,.string {data:=#[]},.string t,.string {data:=#[]}] 42)) W)=>ev_cells2 h
 have HF:Hid (Frm Nix w ((w.alloc (.cells #[.int .i64 5,.int .i64 a,.int .i64 b,.int .i64 n,.string s,.string t,.string u] 42)).alloc (.cells #[.int .i64 5,.int .i64 a,.int .i64 0,.int .i64 0,.string {data:=#[]},.string t,.string {data:=#[]}] 42))):=((fR w).alloc _).alloc _;have hg:Tryz.prog.eqGuardType Tryz.prog.depth 42=false:=by kernel_rfl
 unfold evV;go_enter Tryz.func71,Tryz.ntmps71
 go_upto_region 3 with ((go_at_call 127;refine(rId_any _ _).mono ?_;rintro e w' ⟨rfl,rfl⟩))
 go_cut [5] (λs5 wx=>s5=.bool (flagOk n)∧wx=((w.alloc (.cells #[.int .i64 5,.int .i64 a,.int .i64 b,.int .i64 n,.string s,.string t,.string u] 42)).alloc (.cells #[.int .i64 5,.int .i64 a,.int .i64 0,.int .i64 0,.string {data:=#[]},.string {data:=#[]},.string {data:=#[]}] 42)))
 case first=>
  cases hb0:(n==0)
  all_goals
   cases hb1:(n==1)
   all_goals
    go_wp2_with fail
    go_meet
    exact⟨congrArg Value.bool (by simp[flagOk,beq_iff_eq,beq_eq_false_iff_ne] at *;simp[flagOk, *]),rfl⟩
 case rest=>
 obtain⟨rfl,rfl⟩:=hcut
 go_upto_region 4 with fail
 go_cut [6] (λs6 wx=>s6=.bool (folderOk b)∧wx=((w.alloc (.cells #[.int .i64 5,.int .i64 a,.int .i64 b,.int .i64 n,.string s,.string t,.string u] 42)).alloc (.cells #[.int .i64 5,.int .i64 a,.int .i64 0,.int .i64 0,.string {data:=#[]},.string {data:=#[]},.string {data:=#[]}] 42)))
 case first=>
  cases hb0:(b==0)
  all_goals
   go_wp2_with (go_at_call 127;refine(rId_any _ _).mono ?_;rintro e w' ⟨rfl,rfl⟩)
   go_meet
   exact⟨congrArg Value.bool (by simp[beq_iff_eq,beq_eq_false_iff_ne] at hb0;simp[folderOk, *]),rfl⟩
 case rest=>
 obtain⟨rfl,rfl⟩:=hcut
 go_step
 go_step
 go_cut [4] (λs4 wx=>s4=.bool (evRight ⟨5,a,b,n,s,t,u⟩)∧Frm Nix ((w.alloc (.cells #[.int .i64 5,.int .i64 a,.int .i64 b,.int .i64 n,.string s,.string t,.string u] 42)).alloc (.cells #[.int .i64 5,.int .i64 a,.int .i64 0,.int .i64 0,.string {data:=#[]},.string t,.string {data:=#[]}] 42)) wx)
 case first=>
  skip
  all_goals
   go_wp2_with (first
    | (go_at_call 127;refine(rId_any _ _).mono ?_;rintro e w' ⟨rfl,rfl⟩)
    | (go_at_call 130;refine(rTitle_any _ _).mono ?_;rintro e w' ⟨rfl,hf'⟩;replace hcur:=hcur.trans hf';obtain⟨d0,d1,d2,d3,d4,d5,d6⟩:=blk7 (HC _ hcur).1;clear hf')
    | fail)
  all_goals
   go_meet
   exact⟨congrArg Value.bool (by simp[evRight,placeL, *]),hcur⟩
 case rest=>
 obtain⟨rfl,hcur⟩:=hcut;obtain⟨d0,d1,d2,d3,d4,d5,d6⟩:=blk7 (HC _ hcur).1;obtain⟨x0,x1,x2,x3,x4,x5,x6⟩:=blk7 (HC _ hcur).2
 cases hrt:evRight ⟨5,a,b,n,s,t,u⟩
 all_goals
  go_wp2_with fail
 all_goals
  go_ret;refine⟨ret_bool ?_,by first | exact HF.out.trans hcur | exact HF.out⟩;clear HC HF hcur;rw[evOk,evEqL,hrt];simp[evUsed,eS, *]
theorem rCheck6_any(a b n:Int)(s t u:ByteArray)(w:World):Calls Tryz.prog 71 #[evV ⟨6,a,b,n,s,t,u⟩] w λr w'=>r=.returned (.bool (evOk ⟨6,a,b,n,s,t,u⟩))∧Frm Nix w w':=by
 have hcur:=fR ((w.alloc (.cells #[.int .i64 6,.int .i64 a,.int .i64 b,.int .i64 n,.string s,.string t,.string u] 42)).alloc (.cells #[.int .i64 6,.int .i64 a,.int .i64 b,.int .i64 0,.string {data:=#[]},.string {data:=#[]},.string {data:=#[]}] 42));have HC:=λW (h:Frm Nix ((w.alloc (.cells #[.int .i64 6,.int .i64 a,.int .i64 b,.int .i64 n,.string s,.string t,.string u] 42)).alloc (.cells #[.int .i64 6,.int .i64 a,.int .i64 b,.int .i64 0,.string {data:=#[]},.string {data:=#[]},.string {data:=#[]}] 42)) W)=>ev_cells2 h
 have HF:Hid (Frm Nix w ((w.alloc (.cells #[.int .i64 6,.int .i64 a,.int .i64 b,.int .i64 n,.string s,.string t,.string u] 42)).alloc (.cells #[.int .i64 6,.int .i64 a,.int .i64 b,.int .i64 0,.string {data:=#[]},.string {data:=#[]},.string {data:=#[]}] 42))):=((fR w).alloc _).alloc _;have hg:Tryz.prog.eqGuardType Tryz.prog.depth 42=false:=by kernel_rfl
 unfold evV;go_enter Tryz.func71,Tryz.ntmps71
 go_upto_region 3 with ((go_at_call 127;refine(rId_any _ _).mono ?_;rintro e w' ⟨rfl,rfl⟩))
 go_cut [5] (λs5 wx=>s5=.bool (flagOk n)∧wx=((w.alloc (.cells #[.int .i64 6,.int .i64 a,.int .i64 b,.int .i64 n,.string s,.string t,.string u] 42)).alloc (.cells #[.int .i64 6,.int .i64 a,.int .i64 0,.int .i64 0,.string {data:=#[]},.string {data:=#[]},.string {data:=#[]}] 42)))
 case first=>
  cases hb0:(n==0)
  all_goals
   cases hb1:(n==1)
   all_goals
    go_wp2_with fail
    go_meet
    exact⟨congrArg Value.bool (by simp[flagOk,beq_iff_eq,beq_eq_false_iff_ne] at *;simp[flagOk, *]),rfl⟩
 case rest=>
 obtain⟨rfl,rfl⟩:=hcut
 go_upto_region 4 with fail
 go_cut [6] (λs6 wx=>s6=.bool (folderOk b)∧wx=((w.alloc (.cells #[.int .i64 6,.int .i64 a,.int .i64 b,.int .i64 n,.string s,.string t,.string u] 42)).alloc (.cells #[.int .i64 6,.int .i64 a,.int .i64 0,.int .i64 0,.string {data:=#[]},.string {data:=#[]},.string {data:=#[]}] 42)))
 case first=>
  cases hb0:(b==0)
  all_goals
   go_wp2_with (go_at_call 127;refine(rId_any _ _).mono ?_;rintro e w' ⟨rfl,rfl⟩)
   go_meet
   exact⟨congrArg Value.bool (by simp[beq_iff_eq,beq_eq_false_iff_ne] at hb0;simp[folderOk, *]),rfl⟩
 case rest=>
 obtain⟨rfl,rfl⟩:=hcut
 go_step
 go_step
 go_cut [4] (λs4 wx=>s4=.bool (evRight ⟨6,a,b,n,s,t,u⟩)∧Frm Nix ((w.alloc (.cells #[.int .i64 6,.int .i64 a,.int .i64 b,.int .i64 n,.string s,.string t,.string u] 42)).alloc (.cells #[.int .i64 6,.int .i64 a,.int .i64 b,.int .i64 0,.string {data:=#[]},.string {data:=#[]},.string {data:=#[]}] 42)) wx)
 case first=>
  skip
  all_goals
   go_wp2_with (first
    | (go_at_call 127;refine(rId_any _ _).mono ?_;rintro e w' ⟨rfl,rfl⟩)
    | fail)
  all_goals
   go_meet
   exact⟨congrArg Value.bool (by simp[evRight,placeL, *]),hcur⟩
 case rest=>
 obtain⟨rfl,hcur⟩:=hcut;obtain⟨d0,d1,d2,d3,d4,d5,d6⟩:=blk7 (HC _ hcur).1;obtain⟨x0,x1,x2,x3,x4,x5,x6⟩:=blk7 (HC _ hcur).2
 cases hrt:evRight ⟨6,a,b,n,s,t,u⟩
 all_goals
  go_wp2_with fail
 all_goals
  go_ret;refine⟨ret_bool ?_,by first | exact HF.out.trans hcur | exact HF.out⟩;clear HC HF hcur;rw[evOk,evEqL,hrt];simp[evUsed,eS, *]
theorem rCheck7_any(a b n:Int)(s t u:ByteArray)(w:World):Calls Tryz.prog 71 #[evV ⟨7,a,b,n,s,t,u⟩] w λr w'=>r=.returned (.bool (evOk ⟨7,a,b,n,s,t,u⟩))∧Frm Nix w w':=by
 have hcur:=fR ((w.alloc (.cells #[.int .i64 7,.int .i64 a,.int .i64 b,.int .i64 n,.string s,.string t,.string u] 42)).alloc (.cells #[.int .i64 7,.int .i64 a,.int .i64 b,.int .i64 n,.string s,.string t,.string u] 42));have HC:=λW (h:Frm Nix ((w.alloc (.cells #[.int .i64 7,.int .i64 a,.int .i64 b,.int .i64 n,.string s,.string t,.string u] 42)).alloc (.cells #[.int .i64 7,.int .i64 a,.int .i64 b,.int .i64 n,.string s,.string t,.string u] 42)) W)=>ev_cells2 h
 have HF:Hid (Frm Nix w ((w.alloc (.cells #[.int .i64 7,.int .i64 a,.int .i64 b,.int .i64 n,.string s,.string t,.string u] 42)).alloc (.cells #[.int .i64 7,.int .i64 a,.int .i64 b,.int .i64 n,.string s,.string t,.string u] 42))):=((fR w).alloc _).alloc _;have hg:Tryz.prog.eqGuardType Tryz.prog.depth 42=false:=by kernel_rfl
 unfold evV;go_enter Tryz.func71,Tryz.ntmps71
 go_upto_region 3 with ((go_at_call 127;refine(rId_any _ _).mono ?_;rintro e w' ⟨rfl,rfl⟩))
 go_cut [5] (λs5 wx=>s5=.bool (flagOk n)∧wx=((w.alloc (.cells #[.int .i64 7,.int .i64 a,.int .i64 b,.int .i64 n,.string s,.string t,.string u] 42)).alloc (.cells #[.int .i64 7,.int .i64 a,.int .i64 0,.int .i64 0,.string {data:=#[]},.string {data:=#[]},.string {data:=#[]}] 42)))
 case first=>
  cases hb0:(n==0)
  all_goals
   cases hb1:(n==1)
   all_goals
    go_wp2_with fail
    go_meet
    exact⟨congrArg Value.bool (by simp[flagOk,beq_iff_eq,beq_eq_false_iff_ne] at *;simp[flagOk, *]),rfl⟩
 case rest=>
 obtain⟨rfl,rfl⟩:=hcut
 go_upto_region 4 with fail
 go_cut [6] (λs6 wx=>s6=.bool (folderOk b)∧wx=((w.alloc (.cells #[.int .i64 7,.int .i64 a,.int .i64 b,.int .i64 n,.string s,.string t,.string u] 42)).alloc (.cells #[.int .i64 7,.int .i64 a,.int .i64 0,.int .i64 0,.string {data:=#[]},.string {data:=#[]},.string {data:=#[]}] 42)))
 case first=>
  cases hb0:(b==0)
  all_goals
   go_wp2_with (go_at_call 127;refine(rId_any _ _).mono ?_;rintro e w' ⟨rfl,rfl⟩)
   go_meet
   exact⟨congrArg Value.bool (by simp[beq_iff_eq,beq_eq_false_iff_ne] at hb0;simp[folderOk, *]),rfl⟩
 case rest=>
 obtain⟨rfl,rfl⟩:=hcut
 go_step
 go_step
 go_cut [4] (λs4 wx=>s4=.bool (evRight ⟨7,a,b,n,s,t,u⟩)∧Frm Nix ((w.alloc (.cells #[.int .i64 7,.int .i64 a,.int .i64 b,.int .i64 n,.string s,.string t,.string u] 42)).alloc (.cells #[.int .i64 7,.int .i64 a,.int .i64 b,.int .i64 n,.string s,.string t,.string u] 42)) wx)
 case first=>
  skip
  all_goals
   go_wp2_with (first
    | (go_at_call 127;refine(rId_any _ _).mono ?_;rintro e w' ⟨rfl,rfl⟩)
    | (go_at_call 107;refine(rMay_any _ _).mono ?_;rintro e w' ⟨rfl,hf'⟩;replace hcur:=hcur.trans hf';obtain⟨d0,d1,d2,d3,d4,d5,d6⟩:=blk7 (HC _ hcur).1;clear hf')
    | (go_at_call 129;refine(rLink_any _ _).mono ?_;rintro e w' ⟨rfl,hf'⟩;replace hcur:=hcur.trans hf';obtain⟨d0,d1,d2,d3,d4,d5,d6⟩:=blk7 (HC _ hcur).1;clear hf')
    | (go_at_call 130;refine(rTitle_any _ _).mono ?_;rintro e w' ⟨rfl,hf'⟩;replace hcur:=hcur.trans hf';obtain⟨d0,d1,d2,d3,d4,d5,d6⟩:=blk7 (HC _ hcur).1;clear hf')
    | fail)
  all_goals
   go_meet
   exact⟨congrArg Value.bool (by simp[evRight,placeL, *]),hcur⟩
 case rest=>
 obtain⟨rfl,hcur⟩:=hcut;obtain⟨d0,d1,d2,d3,d4,d5,d6⟩:=blk7 (HC _ hcur).1;obtain⟨x0,x1,x2,x3,x4,x5,x6⟩:=blk7 (HC _ hcur).2
 cases hrt:evRight ⟨7,a,b,n,s,t,u⟩
 all_goals
  go_wp2_with fail
 all_goals
  go_ret;refine⟨ret_bool ?_,by first | exact HF.out.trans hcur | exact HF.out⟩;clear HC HF hcur;rw[evOk,evEqL,hrt];simp[evUsed,eS, *]
theorem rCheck8_any(a b n:Int)(s t u:ByteArray)(w:World):Calls Tryz.prog 71 #[evV ⟨8,a,b,n,s,t,u⟩] w λr w'=>r=.returned (.bool (evOk ⟨8,a,b,n,s,t,u⟩))∧Frm Nix w w':=by
 have hcur:=fR ((w.alloc (.cells #[.int .i64 8,.int .i64 a,.int .i64 b,.int .i64 n,.string s,.string t,.string u] 42)).alloc (.cells #[.int .i64 8,.int .i64 a,.int .i64 0,.int .i64 n,.string {data:=#[]},.string {data:=#[]},.string {data:=#[]}] 42));have HC:=λW (h:Frm Nix ((w.alloc (.cells #[.int .i64 8,.int .i64 a,.int .i64 b,.int .i64 n,.string s,.string t,.string u] 42)).alloc (.cells #[.int .i64 8,.int .i64 a,.int .i64 0,.int .i64 n,.string {data:=#[]},.string {data:=#[]},.string {data:=#[]}] 42)) W)=>ev_cells2 h
 have HF:Hid (Frm Nix w ((w.alloc (.cells #[.int .i64 8,.int .i64 a,.int .i64 b,.int .i64 n,.string s,.string t,.string u] 42)).alloc (.cells #[.int .i64 8,.int .i64 a,.int .i64 0,.int .i64 n,.string {data:=#[]},.string {data:=#[]},.string {data:=#[]}] 42))):=((fR w).alloc _).alloc _;have hg:Tryz.prog.eqGuardType Tryz.prog.depth 42=false:=by kernel_rfl
 unfold evV;go_enter Tryz.func71,Tryz.ntmps71
 go_upto_region 3 with ((go_at_call 127;refine(rId_any _ _).mono ?_;rintro e w' ⟨rfl,rfl⟩))
 go_cut [5] (λs5 wx=>s5=.bool (flagOk n)∧wx=((w.alloc (.cells #[.int .i64 8,.int .i64 a,.int .i64 b,.int .i64 n,.string s,.string t,.string u] 42)).alloc (.cells #[.int .i64 8,.int .i64 a,.int .i64 0,.int .i64 0,.string {data:=#[]},.string {data:=#[]},.string {data:=#[]}] 42)))
 case first=>
  cases hb0:(n==0)
  all_goals
   cases hb1:(n==1)
   all_goals
    go_wp2_with fail
    go_meet
    exact⟨congrArg Value.bool (by simp[flagOk,beq_iff_eq,beq_eq_false_iff_ne] at *;simp[flagOk, *]),rfl⟩
 case rest=>
 obtain⟨rfl,rfl⟩:=hcut
 go_upto_region 4 with fail
 go_cut [6] (λs6 wx=>s6=.bool (folderOk b)∧wx=((w.alloc (.cells #[.int .i64 8,.int .i64 a,.int .i64 b,.int .i64 n,.string s,.string t,.string u] 42)).alloc (.cells #[.int .i64 8,.int .i64 a,.int .i64 0,.int .i64 0,.string {data:=#[]},.string {data:=#[]},.string {data:=#[]}] 42)))
 case first=>
  cases hb0:(b==0)
  all_goals
   go_wp2_with (go_at_call 127;refine(rId_any _ _).mono ?_;rintro e w' ⟨rfl,rfl⟩)
   go_meet
   exact⟨congrArg Value.bool (by simp[beq_iff_eq,beq_eq_false_iff_ne] at hb0;simp[folderOk, *]),rfl⟩
 case rest=>
 obtain⟨rfl,rfl⟩:=hcut
 go_step
 go_step
 go_cut [4] (λs4 wx=>s4=.bool (evRight ⟨8,a,b,n,s,t,u⟩)∧Frm Nix ((w.alloc (.cells #[.int .i64 8,.int .i64 a,.int .i64 b,.int .i64 n,.string s,.string t,.string u] 42)).alloc (.cells #[.int .i64 8,.int .i64 a,.int .i64 0,.int .i64 n,.string {data:=#[]},.string {data:=#[]},.string {data:=#[]}] 42)) wx)
 case first=>
  skip
  all_goals
   go_wp2_with (first
    | (go_at_call 127;refine(rId_any _ _).mono ?_;rintro e w' ⟨rfl,rfl⟩)
    | fail)
  all_goals
   go_meet
   exact⟨congrArg Value.bool (by simp[evRight,placeL, *]),hcur⟩
 case rest=>
 obtain⟨rfl,hcur⟩:=hcut;obtain⟨d0,d1,d2,d3,d4,d5,d6⟩:=blk7 (HC _ hcur).1;obtain⟨x0,x1,x2,x3,x4,x5,x6⟩:=blk7 (HC _ hcur).2
 cases hrt:evRight ⟨8,a,b,n,s,t,u⟩
 all_goals
  go_wp2_with fail
 all_goals
  go_ret;refine⟨ret_bool ?_,by first | exact HF.out.trans hcur | exact HF.out⟩;clear HC HF hcur;rw[evOk,evEqL,hrt];simp[evUsed,eS, *]
theorem rCheck9_any(a b n:Int)(s t u:ByteArray)(w:World):Calls Tryz.prog 71 #[evV ⟨9,a,b,n,s,t,u⟩] w λr w'=>r=.returned (.bool (evOk ⟨9,a,b,n,s,t,u⟩))∧Frm Nix w w':=by
 have hcur:=fR ((w.alloc (.cells #[.int .i64 9,.int .i64 a,.int .i64 b,.int .i64 n,.string s,.string t,.string u] 42)).alloc (.cells #[.int .i64 9,.int .i64 a,.int .i64 0,.int .i64 n,.string {data:=#[]},.string {data:=#[]},.string {data:=#[]}] 42));have HC:=λW (h:Frm Nix ((w.alloc (.cells #[.int .i64 9,.int .i64 a,.int .i64 b,.int .i64 n,.string s,.string t,.string u] 42)).alloc (.cells #[.int .i64 9,.int .i64 a,.int .i64 0,.int .i64 n,.string {data:=#[]},.string {data:=#[]},.string {data:=#[]}] 42)) W)=>ev_cells2 h
 have HF:Hid (Frm Nix w ((w.alloc (.cells #[.int .i64 9,.int .i64 a,.int .i64 b,.int .i64 n,.string s,.string t,.string u] 42)).alloc (.cells #[.int .i64 9,.int .i64 a,.int .i64 0,.int .i64 n,.string {data:=#[]},.string {data:=#[]},.string {data:=#[]}] 42))):=((fR w).alloc _).alloc _;have hg:Tryz.prog.eqGuardType Tryz.prog.depth 42=false:=by kernel_rfl
 unfold evV;go_enter Tryz.func71,Tryz.ntmps71
 go_upto_region 3 with ((go_at_call 127;refine(rId_any _ _).mono ?_;rintro e w' ⟨rfl,rfl⟩))
 go_cut [5] (λs5 wx=>s5=.bool (flagOk n)∧wx=((w.alloc (.cells #[.int .i64 9,.int .i64 a,.int .i64 b,.int .i64 n,.string s,.string t,.string u] 42)).alloc (.cells #[.int .i64 9,.int .i64 a,.int .i64 0,.int .i64 0,.string {data:=#[]},.string {data:=#[]},.string {data:=#[]}] 42)))
 case first=>
  cases hb0:(n==0)
  all_goals
   cases hb1:(n==1)
   all_goals
    go_wp2_with fail
    go_meet
    exact⟨congrArg Value.bool (by simp[flagOk,beq_iff_eq,beq_eq_false_iff_ne] at *;simp[flagOk, *]),rfl⟩
 case rest=>
 obtain⟨rfl,rfl⟩:=hcut
 go_upto_region 4 with fail
 go_cut [6] (λs6 wx=>s6=.bool (folderOk b)∧wx=((w.alloc (.cells #[.int .i64 9,.int .i64 a,.int .i64 b,.int .i64 n,.string s,.string t,.string u] 42)).alloc (.cells #[.int .i64 9,.int .i64 a,.int .i64 0,.int .i64 0,.string {data:=#[]},.string {data:=#[]},.string {data:=#[]}] 42)))
 case first=>
  cases hb0:(b==0)
  all_goals
   go_wp2_with (go_at_call 127;refine(rId_any _ _).mono ?_;rintro e w' ⟨rfl,rfl⟩)
   go_meet
   exact⟨congrArg Value.bool (by simp[beq_iff_eq,beq_eq_false_iff_ne] at hb0;simp[folderOk, *]),rfl⟩
 case rest=>
 obtain⟨rfl,rfl⟩:=hcut
 go_step
 go_step
 go_cut [4] (λs4 wx=>s4=.bool (evRight ⟨9,a,b,n,s,t,u⟩)∧Frm Nix ((w.alloc (.cells #[.int .i64 9,.int .i64 a,.int .i64 b,.int .i64 n,.string s,.string t,.string u] 42)).alloc (.cells #[.int .i64 9,.int .i64 a,.int .i64 0,.int .i64 n,.string {data:=#[]},.string {data:=#[]},.string {data:=#[]}] 42)) wx)
 case first=>
  skip
  all_goals
   go_wp2_with (first
    | (go_at_call 127;refine(rId_any _ _).mono ?_;rintro e w' ⟨rfl,rfl⟩)
    | fail)
  all_goals
   go_meet
   exact⟨congrArg Value.bool (by simp[evRight,placeL, *]),hcur⟩
 case rest=>
 obtain⟨rfl,hcur⟩:=hcut;obtain⟨d0,d1,d2,d3,d4,d5,d6⟩:=blk7 (HC _ hcur).1;obtain⟨x0,x1,x2,x3,x4,x5,x6⟩:=blk7 (HC _ hcur).2
 cases hrt:evRight ⟨9,a,b,n,s,t,u⟩
 all_goals
  go_wp2_with fail
 all_goals
  go_ret;refine⟨ret_bool ?_,by first | exact HF.out.trans hcur | exact HF.out⟩;clear HC HF hcur;rw[evOk,evEqL,hrt];simp[evUsed,eS, *]
theorem rCheck10_any(a b n:Int)(s t u:ByteArray)(w:World):Calls Tryz.prog 71 #[evV ⟨10,a,b,n,s,t,u⟩] w λr w'=>r=.returned (.bool (evOk ⟨10,a,b,n,s,t,u⟩))∧Frm Nix w w':=by
 have hcur0:=fR ((w.alloc (.cells #[.int .i64 10,.int .i64 a,.int .i64 b,.int .i64 n,.string s,.string t,.string u] 42)).alloc (.cells #[.int .i64 10,.int .i64 a,.int .i64 0,.int .i64 n,.string s,.string {data:=#[]},.string {data:=#[]}] 42));have hcur:=hcur0.drew;have HC:=λW (h:Frm Nix ((w.alloc (.cells #[.int .i64 10,.int .i64 a,.int .i64 b,.int .i64 n,.string s,.string t,.string u] 42)).alloc (.cells #[.int .i64 10,.int .i64 a,.int .i64 0,.int .i64 n,.string s,.string {data:=#[]},.string {data:=#[]}] 42)) W)=>ev_cells2 h
 have HF:Hid (Frm Nix w ((w.alloc (.cells #[.int .i64 10,.int .i64 a,.int .i64 b,.int .i64 n,.string s,.string t,.string u] 42)).alloc (.cells #[.int .i64 10,.int .i64 a,.int .i64 0,.int .i64 n,.string s,.string {data:=#[]},.string {data:=#[]}] 42))):=((fR w).alloc _).alloc _;have hg:Tryz.prog.eqGuardType Tryz.prog.depth 42=false:=by kernel_rfl
 unfold evV;go_enter Tryz.func71,Tryz.ntmps71
 go_upto_region 3 with ((go_at_call 127;refine(rId_any _ _).mono ?_;rintro e w' ⟨rfl,rfl⟩))
 go_cut [5] (λs5 wx=>s5=.bool (flagOk n)∧wx=((w.alloc (.cells #[.int .i64 10,.int .i64 a,.int .i64 b,.int .i64 n,.string s,.string t,.string u] 42)).alloc (.cells #[.int .i64 10,.int .i64 a,.int .i64 0,.int .i64 0,.string {data:=#[]},.string {data:=#[]},.string {data:=#[]}] 42)))
 case first=>
  cases hb0:(n==0)
  all_goals
   cases hb1:(n==1)
   all_goals
    go_wp2_with fail
    go_meet
    exact⟨congrArg Value.bool (by simp[flagOk,beq_iff_eq,beq_eq_false_iff_ne] at *;simp[flagOk, *]),rfl⟩
 case rest=>
 obtain⟨rfl,rfl⟩:=hcut
 go_upto_region 4 with fail
 go_cut [6] (λs6 wx=>s6=.bool (folderOk b)∧wx=((w.alloc (.cells #[.int .i64 10,.int .i64 a,.int .i64 b,.int .i64 n,.string s,.string t,.string u] 42)).alloc (.cells #[.int .i64 10,.int .i64 a,.int .i64 0,.int .i64 0,.string {data:=#[]},.string {data:=#[]},.string {data:=#[]}] 42)))
 case first=>
  cases hb0:(b==0)
  all_goals
   go_wp2_with (go_at_call 127;refine(rId_any _ _).mono ?_;rintro e w' ⟨rfl,rfl⟩)
   go_meet
   exact⟨congrArg Value.bool (by simp[beq_iff_eq,beq_eq_false_iff_ne] at hb0;simp[folderOk, *]),rfl⟩
 case rest=>
 obtain⟨rfl,rfl⟩:=hcut
 cases hfx:flagOk n
 all_goals
  go_step
  go_step
  go_cut [4] (λs4 wx=>s4=.bool (evRight ⟨10,a,b,n,s,t,u⟩)∧Frm Nix ((w.alloc (.cells #[.int .i64 10,.int .i64 a,.int .i64 b,.int .i64 n,.string s,.string t,.string u] 42)).alloc (.cells #[.int .i64 10,.int .i64 a,.int .i64 0,.int .i64 n,.string s,.string {data:=#[]},.string {data:=#[]}] 42)) wx)
  case first=>
   skip
   all_goals
    go_wp2_with (first
     | (go_at_call 127;refine(rId_any _ _).mono ?_;rintro e w' ⟨rfl,rfl⟩)
     | (go_at_call 131;refine(rTag_any _ _).mono ?_;rintro e w' ⟨rfl,hf'⟩;replace hcur:=hcur.trans hf';obtain⟨d0,d1,d2,d3,d4,d5,d6⟩:=blk7 (HC _ hcur).1;clear hf')
     | fail)
    go_region
    go_wp2_with (first
     | (go_at_call 127;refine(rId_any _ _).mono ?_;rintro e w' ⟨rfl,rfl⟩)
     | (go_at_call 131;refine(rTag_any _ _).mono ?_;rintro e w' ⟨rfl,hf'⟩;replace hcur:=hcur.trans hf';obtain⟨d0,d1,d2,d3,d4,d5,d6⟩:=blk7 (HC _ hcur).1;clear hf')
     | fail)
   all_goals
    go_meet
    exact⟨congrArg Value.bool (by simp[evRight,placeL, *]),hcur⟩
  case rest=>
  obtain⟨rfl,hcur⟩:=hcut;obtain⟨d0,d1,d2,d3,d4,d5,d6⟩:=blk7 (HC _ hcur).1;obtain⟨x0,x1,x2,x3,x4,x5,x6⟩:=blk7 (HC _ hcur).2
  cases hrt:evRight ⟨10,a,b,n,s,t,u⟩
  all_goals
   go_wp2_with fail
  all_goals
   go_ret;refine⟨ret_bool ?_,by first | exact HF.out.trans hcur | exact HF.out⟩;clear HC HF hcur;rw[evOk,evEqL,hrt];simp[evUsed,eS, *]
theorem rCheck11_any(a b n:Int)(s t u:ByteArray)(w:World):Calls Tryz.prog 71 #[evV ⟨11,a,b,n,s,t,u⟩] w λr w'=>r=.returned (.bool (evOk ⟨11,a,b,n,s,t,u⟩))∧Frm Nix w w':=by
 have hcur0:=fR ((w.alloc (.cells #[.int .i64 11,.int .i64 a,.int .i64 b,.int .i64 n,.string s,.string t,.string u] 42)).alloc (.cells #[.int .i64 11,.int .i64 a,.int .i64 0,.int .i64 0,.string s,.string t,.string {data:=#[]}] 42));have hcur:=hcur0.drew;have HC:=λW (h:Frm Nix ((w.alloc (.cells #[.int .i64 11,.int .i64 a,.int .i64 b,.int .i64 n,.string s,.string t,.string u] 42)).alloc (.cells #[.int .i64 11,.int .i64 a,.int .i64 0,.int .i64 0,.string s,.string t,.string {data:=#[]}] 42)) W)=>ev_cells2 h
 have HF:Hid (Frm Nix w ((w.alloc (.cells #[.int .i64 11,.int .i64 a,.int .i64 b,.int .i64 n,.string s,.string t,.string u] 42)).alloc (.cells #[.int .i64 11,.int .i64 a,.int .i64 0,.int .i64 0,.string s,.string t,.string {data:=#[]}] 42))):=((fR w).alloc _).alloc _;have hg:Tryz.prog.eqGuardType Tryz.prog.depth 42=false:=by kernel_rfl
 unfold evV;go_enter Tryz.func71,Tryz.ntmps71
 go_upto_region 3 with ((go_at_call 127;refine(rId_any _ _).mono ?_;rintro e w' ⟨rfl,rfl⟩))
 go_cut [5] (λs5 wx=>s5=.bool (flagOk n)∧wx=((w.alloc (.cells #[.int .i64 11,.int .i64 a,.int .i64 b,.int .i64 n,.string s,.string t,.string u] 42)).alloc (.cells #[.int .i64 11,.int .i64 a,.int .i64 0,.int .i64 0,.string {data:=#[]},.string {data:=#[]},.string {data:=#[]}] 42)))
 case first=>
  cases hb0:(n==0)
  all_goals
   cases hb1:(n==1)
   all_goals
    go_wp2_with fail
    go_meet
    exact⟨congrArg Value.bool (by simp[flagOk,beq_iff_eq,beq_eq_false_iff_ne] at *;simp[flagOk, *]),rfl⟩
 case rest=>
 obtain⟨rfl,rfl⟩:=hcut
 go_upto_region 4 with fail
 go_cut [6] (λs6 wx=>s6=.bool (folderOk b)∧wx=((w.alloc (.cells #[.int .i64 11,.int .i64 a,.int .i64 b,.int .i64 n,.string s,.string t,.string u] 42)).alloc (.cells #[.int .i64 11,.int .i64 a,.int .i64 0,.int .i64 0,.string {data:=#[]},.string {data:=#[]},.string {data:=#[]}] 42)))
 case first=>
  cases hb0:(b==0)
  all_goals
   go_wp2_with (go_at_call 127;refine(rId_any _ _).mono ?_;rintro e w' ⟨rfl,rfl⟩)
   go_meet
   exact⟨congrArg Value.bool (by simp[beq_iff_eq,beq_eq_false_iff_ne] at hb0;simp[folderOk, *]),rfl⟩
 case rest=>
 obtain⟨rfl,rfl⟩:=hcut
 go_step
 go_step
 go_cut [4] (λs4 wx=>s4=.bool (evRight ⟨11,a,b,n,s,t,u⟩)∧Frm Nix ((w.alloc (.cells #[.int .i64 11,.int .i64 a,.int .i64 b,.int .i64 n,.string s,.string t,.string u] 42)).alloc (.cells #[.int .i64 11,.int .i64 a,.int .i64 0,.int .i64 0,.string s,.string t,.string {data:=#[]}] 42)) wx)
 case first=>
  skip
  all_goals
   go_wp2_with (first
    | (go_at_call 127;refine(rId_any _ _).mono ?_;rintro e w' ⟨rfl,rfl⟩)
    | (go_at_call 128;refine(rLabel_any _ _).mono ?_;rintro e w' ⟨rfl,hf'⟩;replace hcur:=hcur.trans hf';obtain⟨d0,d1,d2,d3,d4,d5,d6⟩:=blk7 (HC _ hcur).1;clear hf')
    | (go_at_call 132;refine(rQuery_any _ _).mono ?_;rintro e w' ⟨rfl,hf'⟩;replace hcur:=hcur.trans hf';obtain⟨d0,d1,d2,d3,d4,d5,d6⟩:=blk7 (HC _ hcur).1;clear hf')
    | fail)
   go_region
   go_wp2_with (first
    | (go_at_call 127;refine(rId_any _ _).mono ?_;rintro e w' ⟨rfl,rfl⟩)
    | (go_at_call 128;refine(rLabel_any _ _).mono ?_;rintro e w' ⟨rfl,hf'⟩;replace hcur:=hcur.trans hf';obtain⟨d0,d1,d2,d3,d4,d5,d6⟩:=blk7 (HC _ hcur).1;clear hf')
    | (go_at_call 132;refine(rQuery_any _ _).mono ?_;rintro e w' ⟨rfl,hf'⟩;replace hcur:=hcur.trans hf';obtain⟨d0,d1,d2,d3,d4,d5,d6⟩:=blk7 (HC _ hcur).1;clear hf')
    | fail)
  all_goals
   go_meet
   exact⟨congrArg Value.bool (by simp[evRight,placeL, *]),hcur⟩
 case rest=>
 obtain⟨rfl,hcur⟩:=hcut;obtain⟨d0,d1,d2,d3,d4,d5,d6⟩:=blk7 (HC _ hcur).1;obtain⟨x0,x1,x2,x3,x4,x5,x6⟩:=blk7 (HC _ hcur).2
 cases hrt:evRight ⟨11,a,b,n,s,t,u⟩
 all_goals
  go_wp2_with fail
 all_goals
  go_ret;refine⟨ret_bool ?_,by first | exact HF.out.trans hcur | exact HF.out⟩;clear HC HF hcur;rw[evOk,evEqL,hrt];simp[evUsed,eS, *]
theorem rCheck12_any(a b n:Int)(s t u:ByteArray)(w:World):Calls Tryz.prog 71 #[evV ⟨12,a,b,n,s,t,u⟩] w λr w'=>r=.returned (.bool (evOk ⟨12,a,b,n,s,t,u⟩))∧Frm Nix w w':=by
 have hcur:=fR ((w.alloc (.cells #[.int .i64 12,.int .i64 a,.int .i64 b,.int .i64 n,.string s,.string t,.string u] 42)).alloc (.cells #[.int .i64 12,.int .i64 a,.int .i64 0,.int .i64 0,.string {data:=#[]},.string {data:=#[]},.string {data:=#[]}] 42));have HC:=λW (h:Frm Nix ((w.alloc (.cells #[.int .i64 12,.int .i64 a,.int .i64 b,.int .i64 n,.string s,.string t,.string u] 42)).alloc (.cells #[.int .i64 12,.int .i64 a,.int .i64 0,.int .i64 0,.string {data:=#[]},.string {data:=#[]},.string {data:=#[]}] 42)) W)=>ev_cells2 h
 have HF:Hid (Frm Nix w ((w.alloc (.cells #[.int .i64 12,.int .i64 a,.int .i64 b,.int .i64 n,.string s,.string t,.string u] 42)).alloc (.cells #[.int .i64 12,.int .i64 a,.int .i64 0,.int .i64 0,.string {data:=#[]},.string {data:=#[]},.string {data:=#[]}] 42))):=((fR w).alloc _).alloc _;have hg:Tryz.prog.eqGuardType Tryz.prog.depth 42=false:=by kernel_rfl
 unfold evV;go_enter Tryz.func71,Tryz.ntmps71
 go_upto_region 3 with ((go_at_call 127;refine(rId_any _ _).mono ?_;rintro e w' ⟨rfl,rfl⟩))
 go_cut [5] (λs5 wx=>s5=.bool (flagOk n)∧wx=((w.alloc (.cells #[.int .i64 12,.int .i64 a,.int .i64 b,.int .i64 n,.string s,.string t,.string u] 42)).alloc (.cells #[.int .i64 12,.int .i64 a,.int .i64 0,.int .i64 0,.string {data:=#[]},.string {data:=#[]},.string {data:=#[]}] 42)))
 case first=>
  cases hb0:(n==0)
  all_goals
   cases hb1:(n==1)
   all_goals
    go_wp2_with fail
    go_meet
    exact⟨congrArg Value.bool (by simp[flagOk,beq_iff_eq,beq_eq_false_iff_ne] at *;simp[flagOk, *]),rfl⟩
 case rest=>
 obtain⟨rfl,rfl⟩:=hcut
 go_upto_region 4 with fail
 go_cut [6] (λs6 wx=>s6=.bool (folderOk b)∧wx=((w.alloc (.cells #[.int .i64 12,.int .i64 a,.int .i64 b,.int .i64 n,.string s,.string t,.string u] 42)).alloc (.cells #[.int .i64 12,.int .i64 a,.int .i64 0,.int .i64 0,.string {data:=#[]},.string {data:=#[]},.string {data:=#[]}] 42)))
 case first=>
  cases hb0:(b==0)
  all_goals
   go_wp2_with (go_at_call 127;refine(rId_any _ _).mono ?_;rintro e w' ⟨rfl,rfl⟩)
   go_meet
   exact⟨congrArg Value.bool (by simp[beq_iff_eq,beq_eq_false_iff_ne] at hb0;simp[folderOk, *]),rfl⟩
 case rest=>
 obtain⟨rfl,rfl⟩:=hcut
 go_step
 go_step
 go_cut [4] (λs4 wx=>s4=.bool (evRight ⟨12,a,b,n,s,t,u⟩)∧Frm Nix ((w.alloc (.cells #[.int .i64 12,.int .i64 a,.int .i64 b,.int .i64 n,.string s,.string t,.string u] 42)).alloc (.cells #[.int .i64 12,.int .i64 a,.int .i64 0,.int .i64 0,.string {data:=#[]},.string {data:=#[]},.string {data:=#[]}] 42)) wx)
 case first=>
  skip
  all_goals
   go_wp2_with (first
    | (go_at_call 127;refine(rId_any _ _).mono ?_;rintro e w' ⟨rfl,rfl⟩)
    | fail)
  all_goals
   go_meet
   exact⟨congrArg Value.bool (by simp[evRight,placeL, *]),hcur⟩
 case rest=>
 obtain⟨rfl,hcur⟩:=hcut;obtain⟨d0,d1,d2,d3,d4,d5,d6⟩:=blk7 (HC _ hcur).1;obtain⟨x0,x1,x2,x3,x4,x5,x6⟩:=blk7 (HC _ hcur).2
 cases hrt:evRight ⟨12,a,b,n,s,t,u⟩
 all_goals
  go_wp2_with fail
 all_goals
  go_ret;refine⟨ret_bool ?_,by first | exact HF.out.trans hcur | exact HF.out⟩;clear HC HF hcur;rw[evOk,evEqL,hrt];simp[evUsed,eS, *]
theorem rCheck13_any(a b n:Int)(s t u:ByteArray)(w:World):Calls Tryz.prog 71 #[evV ⟨13,a,b,n,s,t,u⟩] w λr w'=>r=.returned (.bool (evOk ⟨13,a,b,n,s,t,u⟩))∧Frm Nix w w':=by
 have hcur0:=fR ((w.alloc (.cells #[.int .i64 13,.int .i64 a,.int .i64 b,.int .i64 n,.string s,.string t,.string u] 42)).alloc (.cells #[.int .i64 13,.int .i64 0,.int .i64 0,.int .i64 n,.string {data:=#[]},.string {data:=#[]},.string {data:=#[]}] 42));have hcur:=hcur0.drew;have HC:=λW (h:Frm Nix ((w.alloc (.cells #[.int .i64 13,.int .i64 a,.int .i64 b,.int .i64 n,.string s,.string t,.string u] 42)).alloc (.cells #[.int .i64 13,.int .i64 0,.int .i64 0,.int .i64 n,.string {data:=#[]},.string {data:=#[]},.string {data:=#[]}] 42)) W)=>ev_cells2 h
 have HF:Hid (Frm Nix w ((w.alloc (.cells #[.int .i64 13,.int .i64 a,.int .i64 b,.int .i64 n,.string s,.string t,.string u] 42)).alloc (.cells #[.int .i64 13,.int .i64 0,.int .i64 0,.int .i64 n,.string {data:=#[]},.string {data:=#[]},.string {data:=#[]}] 42))):=((fR w).alloc _).alloc _;have hg:Tryz.prog.eqGuardType Tryz.prog.depth 42=false:=by kernel_rfl
 unfold evV;go_enter Tryz.func71,Tryz.ntmps71
 go_upto_region 3 with ((go_at_call 127;refine(rId_any _ _).mono ?_;rintro e w' ⟨rfl,rfl⟩))
 go_cut [5] (λs5 wx=>s5=.bool (flagOk n)∧wx=((w.alloc (.cells #[.int .i64 13,.int .i64 a,.int .i64 b,.int .i64 n,.string s,.string t,.string u] 42)).alloc (.cells #[.int .i64 13,.int .i64 a,.int .i64 0,.int .i64 0,.string {data:=#[]},.string {data:=#[]},.string {data:=#[]}] 42)))
 case first=>
  cases hb0:(n==0)
  all_goals
   cases hb1:(n==1)
   all_goals
    go_wp2_with fail
    go_meet
    exact⟨congrArg Value.bool (by simp[flagOk,beq_iff_eq,beq_eq_false_iff_ne] at *;simp[flagOk, *]),rfl⟩
 case rest=>
 obtain⟨rfl,rfl⟩:=hcut
 go_upto_region 4 with fail
 go_cut [6] (λs6 wx=>s6=.bool (folderOk b)∧wx=((w.alloc (.cells #[.int .i64 13,.int .i64 a,.int .i64 b,.int .i64 n,.string s,.string t,.string u] 42)).alloc (.cells #[.int .i64 13,.int .i64 a,.int .i64 0,.int .i64 0,.string {data:=#[]},.string {data:=#[]},.string {data:=#[]}] 42)))
 case first=>
  cases hb0:(b==0)
  all_goals
   go_wp2_with (go_at_call 127;refine(rId_any _ _).mono ?_;rintro e w' ⟨rfl,rfl⟩)
   go_meet
   exact⟨congrArg Value.bool (by simp[beq_iff_eq,beq_eq_false_iff_ne] at hb0;simp[folderOk, *]),rfl⟩
 case rest=>
 obtain⟨rfl,rfl⟩:=hcut
 go_step
 go_step
 go_cut [4] (λs4 wx=>s4=.bool (evRight ⟨13,a,b,n,s,t,u⟩)∧Frm Nix ((w.alloc (.cells #[.int .i64 13,.int .i64 a,.int .i64 b,.int .i64 n,.string s,.string t,.string u] 42)).alloc (.cells #[.int .i64 13,.int .i64 0,.int .i64 0,.int .i64 n,.string {data:=#[]},.string {data:=#[]},.string {data:=#[]}] 42)) wx)
 case first=>
  skip
  all_goals
   go_wp2_with (first
    | (go_at_call 127;refine(rId_any _ _).mono ?_;rintro e w' ⟨rfl,rfl⟩)
    | (go_at_call 107;refine(rMay_any _ _).mono ?_;rintro e w' ⟨rfl,hf'⟩;replace hcur:=hcur.trans hf';obtain⟨d0,d1,d2,d3,d4,d5,d6⟩:=blk7 (HC _ hcur).1;clear hf')
    | fail)
   go_region
   go_wp2_with (first
    | (go_at_call 127;refine(rId_any _ _).mono ?_;rintro e w' ⟨rfl,rfl⟩)
    | (go_at_call 107;refine(rMay_any _ _).mono ?_;rintro e w' ⟨rfl,hf'⟩;replace hcur:=hcur.trans hf';obtain⟨d0,d1,d2,d3,d4,d5,d6⟩:=blk7 (HC _ hcur).1;clear hf')
    | fail)
  all_goals
   go_meet
   exact⟨congrArg Value.bool (by simp[evRight,placeL, *]),hcur⟩
 case rest=>
 obtain⟨rfl,hcur⟩:=hcut;obtain⟨d0,d1,d2,d3,d4,d5,d6⟩:=blk7 (HC _ hcur).1;obtain⟨x0,x1,x2,x3,x4,x5,x6⟩:=blk7 (HC _ hcur).2
 cases hrt:evRight ⟨13,a,b,n,s,t,u⟩
 all_goals
  go_wp2_with fail
 all_goals
  go_ret;refine⟨ret_bool ?_,by first | exact HF.out.trans hcur | exact HF.out⟩;clear HC HF hcur;rw[evOk,evEqL,hrt];simp[evUsed,eS, *]
theorem rCheck_any(e:Ev)(w:World):Calls Tryz.prog 71 #[evV e] w λr w'=>r=.returned (.bool (evOk e))∧Frm Nix w w':=by
 by_cases hk:1≤e.kind∧e.kind≤13
 ·obtain⟨k,a,b,n,s,t,u⟩:=e
  simp only at hk;rcases(by omega:k=1∨k=2∨k=3∨k=4∨k=5∨k=6∨k=7∨k=8∨k=9∨k=10∨k=11∨k=12∨k=13) with rfl | rfl | rfl | rfl | rfl | rfl | rfl | rfl | rfl | rfl | rfl | rfl | rfl
  ·exact rCheck1_any a b n s t u w
  ·exact rCheck2_any a b n s t u w
  ·exact rCheck3_any a b n s t u w
  ·exact rCheck4_any a b n s t u w
  ·exact rCheck5_any a b n s t u w
  ·exact rCheck6_any a b n s t u w
  ·exact rCheck7_any a b n s t u w
  ·exact rCheck8_any a b n s t u w
  ·exact rCheck9_any a b n s t u w
  ·exact rCheck10_any a b n s t u w
  ·exact rCheck11_any a b n s t u w
  ·exact rCheck12_any a b n s t u w
  ·exact rCheck13_any a b n s t u w
 ·have:evOk e=false:=by unfold evOk;rw[evRight_no hk];rfl
  rw[this];exact rCheck0_any e.kind e.a e.b e.n e.s e.t e.u w hk
end Go.Proofs.YtaecjmiobllhmaaGreat
