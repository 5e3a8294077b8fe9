/- Words. -/
import Derived.Test.YtaecjmiobllhmaaGreatGq60
set_option linter.unusedVariables false
set_option linter.unusedSimpArgs false
set_option maxRecDepth 100000
set_option maxHeartbeats 16000000
namespace Go.Proofs.YtaecjmiobllhmaaGreat
open Go.Value renaming int→I,string→V
open Go.IntKind renaming i64→J
open Tryz renaming prog→pQ
open Go.RowKit Go.Lib
theorem Ce(a b n:Int)(s t u:ByteArray)(w:World):Calls pQ 71 #[dt ⟨5,a,b,n,s,t,u⟩] w λr w'=>r=.returned (.bool (aQ ⟨5,a,b,n,s,t,u⟩))∧aa ac w w':=by
 have az:=fR ((w.alloc (.cells #[I J 5,I J a,I J b,I J n,V s,V t,V u] 42)).alloc (.cells #[I J 5,I J a,I J 0,I J 0,V {data:=#[]},V t,V {data:=#[]}] 42));have HC:=λW (h:aa ac ((w.alloc (.cells #[I J 5,I J a,I J b,I J n,V s,V t,V u] 42)).alloc (.cells #[I J 5,I J a,I J 0,I J 0,V {data:=#[]},V t,V {data:=#[]}] 42)) W)=>gh h
 have HF:Hid (aa ac w ((w.alloc (.cells #[I J 5,I J a,I J b,I J n,V s,V t,V u] 42)).alloc (.cells #[I J 5,I J a,I J 0,I J 0,V {data:=#[]},V t,V {data:=#[]}] 42))):=((fR w).alloc _).alloc _;have hg:pQ.eqGuardType pQ.depth 42=false:=by kernel_rfl
 unfold dt;go_enter Tryz.func71,Tryz.ntmps71
 go_upto_region 3 with ((go_at_call 127;refine(bi _ _).mono ?_;rintro e w' ⟨rfl,rfl⟩))
 go_cut [5] (λs5 wx=>s5=.bool (aZ n)∧wx=((w.alloc (.cells #[I J 5,I J a,I J b,I J n,V s,V t,V u] 42)).alloc (.cells #[I J 5,I J a,I J 0,I J 0,V {data:=#[]},V {data:=#[]},V {data:=#[]}] 42)))
 case first=>
  cases hb0:(n==0)
  all_goals
   cases hb1:(n==1)
   all_goals
    go_wp2_with fail
    go_meet
    exact⟨congrArg Value.bool (by simp[aZ,beq_iff_eq,beq_eq_false_iff_ne] at *;simp[aZ, *]),rfl⟩
 case rest=>
 obtain⟨rfl,rfl⟩:=hcut
 go_upto_region 4 with fail
 go_cut [6] (λs6 wx=>s6=.bool (aI b)∧wx=((w.alloc (.cells #[I J 5,I J a,I J b,I J n,V s,V t,V u] 42)).alloc (.cells #[I J 5,I J a,I J 0,I J 0,V {data:=#[]},V {data:=#[]},V {data:=#[]}] 42)))
 case first=>
  cases hb0:(b==0)
  all_goals
   go_wp2_with (go_at_call 127;refine(bi _ _).mono ?_;rintro e w' ⟨rfl,rfl⟩)
   go_meet
   exact⟨congrArg Value.bool (by simp[beq_iff_eq,beq_eq_false_iff_ne] at hb0;simp[aI, *]),rfl⟩
 case rest=>
 obtain⟨rfl,rfl⟩:=hcut
 go_step
 go_step
 go_cut [4] (λs4 wx=>s4=.bool (aA ⟨5,a,b,n,s,t,u⟩)∧aa ac ((w.alloc (.cells #[I J 5,I J a,I J b,I J n,V s,V t,V u] 42)).alloc (.cells #[I J 5,I J a,I J 0,I J 0,V {data:=#[]},V t,V {data:=#[]}] 42)) wx)
 case first=>
  skip
  all_goals
   go_wp2_with (first
    | (go_at_call 127;refine(bi _ _).mono ?_;rintro e w' ⟨rfl,rfl⟩)
    | (go_at_call 130;refine(p9 _ _).mono ?_;rintro e w' ⟨rfl,hf'⟩;replace az:=az.trans hf';obtain⟨d0,d1,d2,d3,d4,d5,d6⟩:=ap (HC _ az).1;clear hf')
    | fail)
  all_goals
   go_meet
   exact⟨congrArg Value.bool (by simp[aA,mF, *]),az⟩
 case rest=>
 obtain⟨rfl,az⟩:=hcut;obtain⟨d0,d1,d2,d3,d4,d5,d6⟩:=ap (HC _ az).1;obtain⟨x0,x1,x2,x3,x4,x5,x6⟩:=ap (HC _ az).2
 cases hrt:aA ⟨5,a,b,n,s,t,u⟩
 all_goals
  go_wp2_with fail
 all_goals
  go_ret;refine⟨af ?_,by first|exact HF.out.trans az|exact HF.out⟩;clear HC HF az;rw[aQ,pS,hrt];simp[aU,eS, *]
theorem Cf(a b n:Int)(s t u:ByteArray)(w:World):Calls pQ 71 #[dt ⟨6,a,b,n,s,t,u⟩] w λr w'=>r=.returned (.bool (aQ ⟨6,a,b,n,s,t,u⟩))∧aa ac w w':=by
 have az:=fR ((w.alloc (.cells #[I J 6,I J a,I J b,I J n,V s,V t,V u] 42)).alloc (.cells #[I J 6,I J a,I J b,I J 0,V {data:=#[]},V {data:=#[]},V {data:=#[]}] 42));have HC:=λW (h:aa ac ((w.alloc (.cells #[I J 6,I J a,I J b,I J n,V s,V t,V u] 42)).alloc (.cells #[I J 6,I J a,I J b,I J 0,V {data:=#[]},V {data:=#[]},V {data:=#[]}] 42)) W)=>gh h
 have HF:Hid (aa ac w ((w.alloc (.cells #[I J 6,I J a,I J b,I J n,V s,V t,V u] 42)).alloc (.cells #[I J 6,I J a,I J b,I J 0,V {data:=#[]},V {data:=#[]},V {data:=#[]}] 42))):=((fR w).alloc _).alloc _;have hg:pQ.eqGuardType pQ.depth 42=false:=by kernel_rfl
 unfold dt;go_enter Tryz.func71,Tryz.ntmps71
 go_upto_region 3 with ((go_at_call 127;refine(bi _ _).mono ?_;rintro e w' ⟨rfl,rfl⟩))
 go_cut [5] (λs5 wx=>s5=.bool (aZ n)∧wx=((w.alloc (.cells #[I J 6,I J a,I J b,I J n,V s,V t,V u] 42)).alloc (.cells #[I J 6,I J a,I J 0,I J 0,V {data:=#[]},V {data:=#[]},V {data:=#[]}] 42)))
 case first=>
  cases hb0:(n==0)
  all_goals
   cases hb1:(n==1)
   all_goals
    go_wp2_with fail
    go_meet
    exact⟨congrArg Value.bool (by simp[aZ,beq_iff_eq,beq_eq_false_iff_ne] at *;simp[aZ, *]),rfl⟩
 case rest=>
 obtain⟨rfl,rfl⟩:=hcut
 go_upto_region 4 with fail
 go_cut [6] (λs6 wx=>s6=.bool (aI b)∧wx=((w.alloc (.cells #[I J 6,I J a,I J b,I J n,V s,V t,V u] 42)).alloc (.cells #[I J 6,I J a,I J 0,I J 0,V {data:=#[]},V {data:=#[]},V {data:=#[]}] 42)))
 case first=>
  cases hb0:(b==0)
  all_goals
   go_wp2_with (go_at_call 127;refine(bi _ _).mono ?_;rintro e w' ⟨rfl,rfl⟩)
   go_meet
   exact⟨congrArg Value.bool (by simp[beq_iff_eq,beq_eq_false_iff_ne] at hb0;simp[aI, *]),rfl⟩
 case rest=>
 obtain⟨rfl,rfl⟩:=hcut
 go_step
 go_step
 go_cut [4] (λs4 wx=>s4=.bool (aA ⟨6,a,b,n,s,t,u⟩)∧aa ac ((w.alloc (.cells #[I J 6,I J a,I J b,I J n,V s,V t,V u] 42)).alloc (.cells #[I J 6,I J a,I J b,I J 0,V {data:=#[]},V {data:=#[]},V {data:=#[]}] 42)) wx)
 case first=>
  skip
  all_goals
   go_wp2_with (first
    | (go_at_call 127;refine(bi _ _).mono ?_;rintro e w' ⟨rfl,rfl⟩)
    | fail)
  all_goals
   go_meet
   exact⟨congrArg Value.bool (by simp[aA,mF, *]),az⟩
 case rest=>
 obtain⟨rfl,az⟩:=hcut;obtain⟨d0,d1,d2,d3,d4,d5,d6⟩:=ap (HC _ az).1;obtain⟨x0,x1,x2,x3,x4,x5,x6⟩:=ap (HC _ az).2
 cases hrt:aA ⟨6,a,b,n,s,t,u⟩
 all_goals
  go_wp2_with fail
 all_goals
  go_ret;refine⟨af ?_,by first|exact HF.out.trans az|exact HF.out⟩;clear HC HF az;rw[aQ,pS,hrt];simp[aU,eS, *]
theorem Cg(a b n:Int)(s t u:ByteArray)(w:World):Calls pQ 71 #[dt ⟨7,a,b,n,s,t,u⟩] w λr w'=>r=.returned (.bool (aQ ⟨7,a,b,n,s,t,u⟩))∧aa ac w w':=by
 have az:=fR ((w.alloc (.cells #[I J 7,I J a,I J b,I J n,V s,V t,V u] 42)).alloc (.cells #[I J 7,I J a,I J b,I J n,V s,V t,V u] 42));have HC:=λW (h:aa ac ((w.alloc (.cells #[I J 7,I J a,I J b,I J n,V s,V t,V u] 42)).alloc (.cells #[I J 7,I J a,I J b,I J n,V s,V t,V u] 42)) W)=>gh h
 have HF:Hid (aa ac w ((w.alloc (.cells #[I J 7,I J a,I J b,I J n,V s,V t,V u] 42)).alloc (.cells #[I J 7,I J a,I J b,I J n,V s,V t,V u] 42))):=((fR w).alloc _).alloc _;have hg:pQ.eqGuardType pQ.depth 42=false:=by kernel_rfl
 unfold dt;go_enter Tryz.func71,Tryz.ntmps71
 go_upto_region 3 with ((go_at_call 127;refine(bi _ _).mono ?_;rintro e w' ⟨rfl,rfl⟩))
 go_cut [5] (λs5 wx=>s5=.bool (aZ n)∧wx=((w.alloc (.cells #[I J 7,I J a,I J b,I J n,V s,V t,V u] 42)).alloc (.cells #[I J 7,I J a,I J 0,I J 0,V {data:=#[]},V {data:=#[]},V {data:=#[]}] 42)))
 case first=>
  cases hb0:(n==0)
  all_goals
   cases hb1:(n==1)
   all_goals
    go_wp2_with fail
    go_meet
    exact⟨congrArg Value.bool (by simp[aZ,beq_iff_eq,beq_eq_false_iff_ne] at *;simp[aZ, *]),rfl⟩
 case rest=>
 obtain⟨rfl,rfl⟩:=hcut
 go_upto_region 4 with fail
 go_cut [6] (λs6 wx=>s6=.bool (aI b)∧wx=((w.alloc (.cells #[I J 7,I J a,I J b,I J n,V s,V t,V u] 42)).alloc (.cells #[I J 7,I J a,I J 0,I J 0,V {data:=#[]},V {data:=#[]},V {data:=#[]}] 42)))
 case first=>
  cases hb0:(b==0)
  all_goals
   go_wp2_with (go_at_call 127;refine(bi _ _).mono ?_;rintro e w' ⟨rfl,rfl⟩)
   go_meet
   exact⟨congrArg Value.bool (by simp[beq_iff_eq,beq_eq_false_iff_ne] at hb0;simp[aI, *]),rfl⟩
 case rest=>
 obtain⟨rfl,rfl⟩:=hcut
 go_step
 go_step
 go_cut [4] (λs4 wx=>s4=.bool (aA ⟨7,a,b,n,s,t,u⟩)∧aa ac ((w.alloc (.cells #[I J 7,I J a,I J b,I J n,V s,V t,V u] 42)).alloc (.cells #[I J 7,I J a,I J b,I J n,V s,V t,V u] 42)) wx)
 case first=>
  skip
  all_goals
   go_wp2_with (first
    | (go_at_call 127;refine(bi _ _).mono ?_;rintro e w' ⟨rfl,rfl⟩)
    | (go_at_call 107;refine(sP _ _).mono ?_;rintro e w' ⟨rfl,hf'⟩;replace az:=az.trans hf';obtain⟨d0,d1,d2,d3,d4,d5,d6⟩:=ap (HC _ az).1;clear hf')
    | (go_at_call 129;refine(tY _ _).mono ?_;rintro e w' ⟨rfl,hf'⟩;replace az:=az.trans hf';obtain⟨d0,d1,d2,d3,d4,d5,d6⟩:=ap (HC _ az).1;clear hf')
    | (go_at_call 130;refine(p9 _ _).mono ?_;rintro e w' ⟨rfl,hf'⟩;replace az:=az.trans hf';obtain⟨d0,d1,d2,d3,d4,d5,d6⟩:=ap (HC _ az).1;clear hf')
    | fail)
  all_goals
   go_meet
   exact⟨congrArg Value.bool (by simp[aA,mF, *]),az⟩
 case rest=>
 obtain⟨rfl,az⟩:=hcut;obtain⟨d0,d1,d2,d3,d4,d5,d6⟩:=ap (HC _ az).1;obtain⟨x0,x1,x2,x3,x4,x5,x6⟩:=ap (HC _ az).2
 cases hrt:aA ⟨7,a,b,n,s,t,u⟩
 all_goals
  go_wp2_with fail
 all_goals
  go_ret;refine⟨af ?_,by first|exact HF.out.trans az|exact HF.out⟩;clear HC HF az;rw[aQ,pS,hrt];simp[aU,eS, *]
theorem Ch(a b n:Int)(s t u:ByteArray)(w:World):Calls pQ 71 #[dt ⟨8,a,b,n,s,t,u⟩] w λr w'=>r=.returned (.bool (aQ ⟨8,a,b,n,s,t,u⟩))∧aa ac w w':=by
 have az:=fR ((w.alloc (.cells #[I J 8,I J a,I J b,I J n,V s,V t,V u] 42)).alloc (.cells #[I J 8,I J a,I J 0,I J n,V {data:=#[]},V {data:=#[]},V {data:=#[]}] 42));have HC:=λW (h:aa ac ((w.alloc (.cells #[I J 8,I J a,I J b,I J n,V s,V t,V u] 42)).alloc (.cells #[I J 8,I J a,I J 0,I J n,V {data:=#[]},V {data:=#[]},V {data:=#[]}] 42)) W)=>gh h
 have HF:Hid (aa ac w ((w.alloc (.cells #[I J 8,I J a,I J b,I J n,V s,V t,V u] 42)).alloc (.cells #[I J 8,I J a,I J 0,I J n,V {data:=#[]},V {data:=#[]},V {data:=#[]}] 42))):=((fR w).alloc _).alloc _;have hg:pQ.eqGuardType pQ.depth 42=false:=by kernel_rfl
 unfold dt;go_enter Tryz.func71,Tryz.ntmps71
 go_upto_region 3 with ((go_at_call 127;refine(bi _ _).mono ?_;rintro e w' ⟨rfl,rfl⟩))
 go_cut [5] (λs5 wx=>s5=.bool (aZ n)∧wx=((w.alloc (.cells #[I J 8,I J a,I J b,I J n,V s,V t,V u] 42)).alloc (.cells #[I J 8,I J a,I J 0,I J 0,V {data:=#[]},V {data:=#[]},V {data:=#[]}] 42)))
 case first=>
  cases hb0:(n==0)
  all_goals
   cases hb1:(n==1)
   all_goals
    go_wp2_with fail
    go_meet
    exact⟨congrArg Value.bool (by simp[aZ,beq_iff_eq,beq_eq_false_iff_ne] at *;simp[aZ, *]),rfl⟩
 case rest=>
 obtain⟨rfl,rfl⟩:=hcut
 go_upto_region 4 with fail
 go_cut [6] (λs6 wx=>s6=.bool (aI b)∧wx=((w.alloc (.cells #[I J 8,I J a,I J b,I J n,V s,V t,V u] 42)).alloc (.cells #[I J 8,I J a,I J 0,I J 0,V {data:=#[]},V {data:=#[]},V {data:=#[]}] 42)))
 case first=>
  cases hb0:(b==0)
  all_goals
   go_wp2_with (go_at_call 127;refine(bi _ _).mono ?_;rintro e w' ⟨rfl,rfl⟩)
   go_meet
   exact⟨congrArg Value.bool (by simp[beq_iff_eq,beq_eq_false_iff_ne] at hb0;simp[aI, *]),rfl⟩
 case rest=>
 obtain⟨rfl,rfl⟩:=hcut
 go_step
 go_step
 go_cut [4] (λs4 wx=>s4=.bool (aA ⟨8,a,b,n,s,t,u⟩)∧aa ac ((w.alloc (.cells #[I J 8,I J a,I J b,I J n,V s,V t,V u] 42)).alloc (.cells #[I J 8,I J a,I J 0,I J n,V {data:=#[]},V {data:=#[]},V {data:=#[]}] 42)) wx)
 case first=>
  skip
  all_goals
   go_wp2_with (first
    | (go_at_call 127;refine(bi _ _).mono ?_;rintro e w' ⟨rfl,rfl⟩)
    | fail)
  all_goals
   go_meet
   exact⟨congrArg Value.bool (by simp[aA,mF, *]),az⟩
 case rest=>
 obtain⟨rfl,az⟩:=hcut;obtain⟨d0,d1,d2,d3,d4,d5,d6⟩:=ap (HC _ az).1;obtain⟨x0,x1,x2,x3,x4,x5,x6⟩:=ap (HC _ az).2
 cases hrt:aA ⟨8,a,b,n,s,t,u⟩
 all_goals
  go_wp2_with fail
 all_goals
  go_ret;refine⟨af ?_,by first|exact HF.out.trans az|exact HF.out⟩;clear HC HF az;rw[aQ,pS,hrt];simp[aU,eS, *]
theorem Ci(a b n:Int)(s t u:ByteArray)(w:World):Calls pQ 71 #[dt ⟨9,a,b,n,s,t,u⟩] w λr w'=>r=.returned (.bool (aQ ⟨9,a,b,n,s,t,u⟩))∧aa ac w w':=by
 have az:=fR ((w.alloc (.cells #[I J 9,I J a,I J b,I J n,V s,V t,V u] 42)).alloc (.cells #[I J 9,I J a,I J 0,I J n,V {data:=#[]},V {data:=#[]},V {data:=#[]}] 42));have HC:=λW (h:aa ac ((w.alloc (.cells #[I J 9,I J a,I J b,I J n,V s,V t,V u] 42)).alloc (.cells #[I J 9,I J a,I J 0,I J n,V {data:=#[]},V {data:=#[]},V {data:=#[]}] 42)) W)=>gh h
 have HF:Hid (aa ac w ((w.alloc (.cells #[I J 9,I J a,I J b,I J n,V s,V t,V u] 42)).alloc (.cells #[I J 9,I J a,I J 0,I J n,V {data:=#[]},V {data:=#[]},V {data:=#[]}] 42))):=((fR w).alloc _).alloc _;have hg:pQ.eqGuardType pQ.depth 42=false:=by kernel_rfl
 unfold dt;go_enter Tryz.func71,Tryz.ntmps71
 go_upto_region 3 with ((go_at_call 127;refine(bi _ _).mono ?_;rintro e w' ⟨rfl,rfl⟩))
 go_cut [5] (λs5 wx=>s5=.bool (aZ n)∧wx=((w.alloc (.cells #[I J 9,I J a,I J b,I J n,V s,V t,V u] 42)).alloc (.cells #[I J 9,I J a,I J 0,I J 0,V {data:=#[]},V {data:=#[]},V {data:=#[]}] 42)))
 case first=>
  cases hb0:(n==0)
  all_goals
   cases hb1:(n==1)
   all_goals
    go_wp2_with fail
    go_meet
    exact⟨congrArg Value.bool (by simp[aZ,beq_iff_eq,beq_eq_false_iff_ne] at *;simp[aZ, *]),rfl⟩
 case rest=>
 obtain⟨rfl,rfl⟩:=hcut
 go_upto_region 4 with fail
 go_cut [6] (λs6 wx=>s6=.bool (aI b)∧wx=((w.alloc (.cells #[I J 9,I J a,I J b,I J n,V s,V t,V u] 42)).alloc (.cells #[I J 9,I J a,I J 0,I J 0,V {data:=#[]},V {data:=#[]},V {data:=#[]}] 42)))
 case first=>
  cases hb0:(b==0)
  all_goals
   go_wp2_with (go_at_call 127;refine(bi _ _).mono ?_;rintro e w' ⟨rfl,rfl⟩)
   go_meet
   exact⟨congrArg Value.bool (by simp[beq_iff_eq,beq_eq_false_iff_ne] at hb0;simp[aI, *]),rfl⟩
 case rest=>
 obtain⟨rfl,rfl⟩:=hcut
 go_step
 go_step
 go_cut [4] (λs4 wx=>s4=.bool (aA ⟨9,a,b,n,s,t,u⟩)∧aa ac ((w.alloc (.cells #[I J 9,I J a,I J b,I J n,V s,V t,V u] 42)).alloc (.cells #[I J 9,I J a,I J 0,I J n,V {data:=#[]},V {data:=#[]},V {data:=#[]}] 42)) wx)
 case first=>
  skip
  all_goals
   go_wp2_with (first
    | (go_at_call 127;refine(bi _ _).mono ?_;rintro e w' ⟨rfl,rfl⟩)
    | fail)
  all_goals
   go_meet
   exact⟨congrArg Value.bool (by simp[aA,mF, *]),az⟩
 case rest=>
 obtain⟨rfl,az⟩:=hcut;obtain⟨d0,d1,d2,d3,d4,d5,d6⟩:=ap (HC _ az).1;obtain⟨x0,x1,x2,x3,x4,x5,x6⟩:=ap (HC _ az).2
 cases hrt:aA ⟨9,a,b,n,s,t,u⟩
 all_goals
  go_wp2_with fail
 all_goals
  go_ret;refine⟨af ?_,by first|exact HF.out.trans az|exact HF.out⟩;clear HC HF az;rw[aQ,pS,hrt];simp[aU,eS, *]
theorem zD(a b n:Int)(s t u:ByteArray)(w:World):Calls pQ 71 #[dt ⟨10,a,b,n,s,t,u⟩] w λr w'=>r=.returned (.bool (aQ ⟨10,a,b,n,s,t,u⟩))∧aa ac w w':=by
 have tq:=fR ((w.alloc (.cells #[I J 10,I J a,I J b,I J n,V s,V t,V u] 42)).alloc (.cells #[I J 10,I J a,I J 0,I J n,V s,V {data:=#[]},V {data:=#[]}] 42));have az:=tq.drew;have HC:=λW (h:aa ac ((w.alloc (.cells #[I J 10,I J a,I J b,I J n,V s,V t,V u] 42)).alloc (.cells #[I J 10,I J a,I J 0,I J n,V s,V {data:=#[]},V {data:=#[]}] 42)) W)=>gh h
 have HF:Hid (aa ac w ((w.alloc (.cells #[I J 10,I J a,I J b,I J n,V s,V t,V u] 42)).alloc (.cells #[I J 10,I J a,I J 0,I J n,V s,V {data:=#[]},V {data:=#[]}] 42))):=((fR w).alloc _).alloc _;have hg:pQ.eqGuardType pQ.depth 42=false:=by kernel_rfl
 unfold dt;go_enter Tryz.func71,Tryz.ntmps71
 go_upto_region 3 with ((go_at_call 127;refine(bi _ _).mono ?_;rintro e w' ⟨rfl,rfl⟩))
 go_cut [5] (λs5 wx=>s5=.bool (aZ n)∧wx=((w.alloc (.cells #[I J 10,I J a,I J b,I J n,V s,V t,V u] 42)).alloc (.cells #[I J 10,I J a,I J 0,I J 0,V {data:=#[]},V {data:=#[]},V {data:=#[]}] 42)))
 case first=>
  cases hb0:(n==0)
  all_goals
   cases hb1:(n==1)
   all_goals
    go_wp2_with fail
    go_meet
    exact⟨congrArg Value.bool (by simp[aZ,beq_iff_eq,beq_eq_false_iff_ne] at *;simp[aZ, *]),rfl⟩
 case rest=>
 obtain⟨rfl,rfl⟩:=hcut
 go_upto_region 4 with fail
 go_cut [6] (λs6 wx=>s6=.bool (aI b)∧wx=((w.alloc (.cells #[I J 10,I J a,I J b,I J n,V s,V t,V u] 42)).alloc (.cells #[I J 10,I J a,I J 0,I J 0,V {data:=#[]},V {data:=#[]},V {data:=#[]}] 42)))
 case first=>
  cases hb0:(b==0)
  all_goals
   go_wp2_with (go_at_call 127;refine(bi _ _).mono ?_;rintro e w' ⟨rfl,rfl⟩)
   go_meet
   exact⟨congrArg Value.bool (by simp[beq_iff_eq,beq_eq_false_iff_ne] at hb0;simp[aI, *]),rfl⟩
 case rest=>
 obtain⟨rfl,rfl⟩:=hcut
 cases Vt:aZ n
 all_goals
  go_step
  go_step
  go_cut [4] (λs4 wx=>s4=.bool (aA ⟨10,a,b,n,s,t,u⟩)∧aa ac ((w.alloc (.cells #[I J 10,I J a,I J b,I J n,V s,V t,V u] 42)).alloc (.cells #[I J 10,I J a,I J 0,I J n,V s,V {data:=#[]},V {data:=#[]}] 42)) wx)
  case first=>
   skip
   all_goals
    go_wp2_with (first
     | (go_at_call 127;refine(bi _ _).mono ?_;rintro e w' ⟨rfl,rfl⟩)
     | (go_at_call 131;refine(vT _ _).mono ?_;rintro e w' ⟨rfl,hf'⟩;replace az:=az.trans hf';obtain⟨d0,d1,d2,d3,d4,d5,d6⟩:=ap (HC _ az).1;clear hf')
     | fail)
    go_region
    go_wp2_with (first
     | (go_at_call 127;refine(bi _ _).mono ?_;rintro e w' ⟨rfl,rfl⟩)
     | (go_at_call 131;refine(vT _ _).mono ?_;rintro e w' ⟨rfl,hf'⟩;replace az:=az.trans hf';obtain⟨d0,d1,d2,d3,d4,d5,d6⟩:=ap (HC _ az).1;clear hf')
     | fail)
   all_goals
    go_meet
    exact⟨congrArg Value.bool (by simp[aA,mF, *]),az⟩
  case rest=>
  obtain⟨rfl,az⟩:=hcut;obtain⟨d0,d1,d2,d3,d4,d5,d6⟩:=ap (HC _ az).1;obtain⟨x0,x1,x2,x3,x4,x5,x6⟩:=ap (HC _ az).2
  cases hrt:aA ⟨10,a,b,n,s,t,u⟩
  all_goals
   go_wp2_with fail
  all_goals
   go_ret;refine⟨af ?_,by first|exact HF.out.trans az|exact HF.out⟩;clear HC HF az;rw[aQ,pS,hrt];simp[aU,eS, *]
theorem zE(a b n:Int)(s t u:ByteArray)(w:World):Calls pQ 71 #[dt ⟨11,a,b,n,s,t,u⟩] w λr w'=>r=.returned (.bool (aQ ⟨11,a,b,n,s,t,u⟩))∧aa ac w w':=by
 have tq:=fR ((w.alloc (.cells #[I J 11,I J a,I J b,I J n,V s,V t,V u] 42)).alloc (.cells #[I J 11,I J a,I J 0,I J 0,V s,V t,V {data:=#[]}] 42));have az:=tq.drew;have HC:=λW (h:aa ac ((w.alloc (.cells #[I J 11,I J a,I J b,I J n,V s,V t,V u] 42)).alloc (.cells #[I J 11,I J a,I J 0,I J 0,V s,V t,V {data:=#[]}] 42)) W)=>gh h
 have HF:Hid (aa ac w ((w.alloc (.cells #[I J 11,I J a,I J b,I J n,V s,V t,V u] 42)).alloc (.cells #[I J 11,I J a,I J 0,I J 0,V s,V t,V {data:=#[]}] 42))):=((fR w).alloc _).alloc _;have hg:pQ.eqGuardType pQ.depth 42=false:=by kernel_rfl
 unfold dt;go_enter Tryz.func71,Tryz.ntmps71
 go_upto_region 3 with ((go_at_call 127;refine(bi _ _).mono ?_;rintro e w' ⟨rfl,rfl⟩))
 go_cut [5] (λs5 wx=>s5=.bool (aZ n)∧wx=((w.alloc (.cells #[I J 11,I J a,I J b,I J n,V s,V t,V u] 42)).alloc (.cells #[I J 11,I J a,I J 0,I J 0,V {data:=#[]},V {data:=#[]},V {data:=#[]}] 42)))
 case first=>
  cases hb0:(n==0)
  all_goals
   cases hb1:(n==1)
   all_goals
    go_wp2_with fail
    go_meet
    exact⟨congrArg Value.bool (by simp[aZ,beq_iff_eq,beq_eq_false_iff_ne] at *;simp[aZ, *]),rfl⟩
 case rest=>
 obtain⟨rfl,rfl⟩:=hcut
 go_upto_region 4 with fail
 go_cut [6] (λs6 wx=>s6=.bool (aI b)∧wx=((w.alloc (.cells #[I J 11,I J a,I J b,I J n,V s,V t,V u] 42)).alloc (.cells #[I J 11,I J a,I J 0,I J 0,V {data:=#[]},V {data:=#[]},V {data:=#[]}] 42)))
 case first=>
  cases hb0:(b==0)
  all_goals
   go_wp2_with (go_at_call 127;refine(bi _ _).mono ?_;rintro e w' ⟨rfl,rfl⟩)
   go_meet
   exact⟨congrArg Value.bool (by simp[beq_iff_eq,beq_eq_false_iff_ne] at hb0;simp[aI, *]),rfl⟩
 case rest=>
 obtain⟨rfl,rfl⟩:=hcut
 go_step
 go_step
 go_cut [4] (λs4 wx=>s4=.bool (aA ⟨11,a,b,n,s,t,u⟩)∧aa ac ((w.alloc (.cells #[I J 11,I J a,I J b,I J n,V s,V t,V u] 42)).alloc (.cells #[I J 11,I J a,I J 0,I J 0,V s,V t,V {data:=#[]}] 42)) wx)
 case first=>
  skip
  all_goals
   go_wp2_with (first
    | (go_at_call 127;refine(bi _ _).mono ?_;rintro e w' ⟨rfl,rfl⟩)
    | (go_at_call 128;refine(nJ _ _).mono ?_;rintro e w' ⟨rfl,hf'⟩;replace az:=az.trans hf';obtain⟨d0,d1,d2,d3,d4,d5,d6⟩:=ap (HC _ az).1;clear hf')
    | (go_at_call 132;refine(vQ _ _).mono ?_;rintro e w' ⟨rfl,hf'⟩;replace az:=az.trans hf';obtain⟨d0,d1,d2,d3,d4,d5,d6⟩:=ap (HC _ az).1;clear hf')
    | fail)
   go_region
   go_wp2_with (first
    | (go_at_call 127;refine(bi _ _).mono ?_;rintro e w' ⟨rfl,rfl⟩)
    | (go_at_call 128;refine(nJ _ _).mono ?_;rintro e w' ⟨rfl,hf'⟩;replace az:=az.trans hf';obtain⟨d0,d1,d2,d3,d4,d5,d6⟩:=ap (HC _ az).1;clear hf')
    | (go_at_call 132;refine(vQ _ _).mono ?_;rintro e w' ⟨rfl,hf'⟩;replace az:=az.trans hf';obtain⟨d0,d1,d2,d3,d4,d5,d6⟩:=ap (HC _ az).1;clear hf')
    | fail)
  all_goals
   go_meet
   exact⟨congrArg Value.bool (by simp[aA,mF, *]),az⟩
 case rest=>
 obtain⟨rfl,az⟩:=hcut;obtain⟨d0,d1,d2,d3,d4,d5,d6⟩:=ap (HC _ az).1;obtain⟨x0,x1,x2,x3,x4,x5,x6⟩:=ap (HC _ az).2
 cases hrt:aA ⟨11,a,b,n,s,t,u⟩
 all_goals
  go_wp2_with fail
 all_goals
  go_ret;refine⟨af ?_,by first|exact HF.out.trans az|exact HF.out⟩;clear HC HF az;rw[aQ,pS,hrt];simp[aU,eS, *]
theorem zF(a b n:Int)(s t u:ByteArray)(w:World):Calls pQ 71 #[dt ⟨12,a,b,n,s,t,u⟩] w λr w'=>r=.returned (.bool (aQ ⟨12,a,b,n,s,t,u⟩))∧aa ac w w':=by
 have az:=fR ((w.alloc (.cells #[I J 12,I J a,I J b,I J n,V s,V t,V u] 42)).alloc (.cells #[I J 12,I J a,I J 0,I J 0,V {data:=#[]},V {data:=#[]},V {data:=#[]}] 42));have HC:=λW (h:aa ac ((w.alloc (.cells #[I J 12,I J a,I J b,I J n,V s,V t,V u] 42)).alloc (.cells #[I J 12,I J a,I J 0,I J 0,V {data:=#[]},V {data:=#[]},V {data:=#[]}] 42)) W)=>gh h
 have HF:Hid (aa ac w ((w.alloc (.cells #[I J 12,I J a,I J b,I J n,V s,V t,V u] 42)).alloc (.cells #[I J 12,I J a,I J 0,I J 0,V {data:=#[]},V {data:=#[]},V {data:=#[]}] 42))):=((fR w).alloc _).alloc _;have hg:pQ.eqGuardType pQ.depth 42=false:=by kernel_rfl
 unfold dt;go_enter Tryz.func71,Tryz.ntmps71
 go_upto_region 3 with ((go_at_call 127;refine(bi _ _).mono ?_;rintro e w' ⟨rfl,rfl⟩))
 go_cut [5] (λs5 wx=>s5=.bool (aZ n)∧wx=((w.alloc (.cells #[I J 12,I J a,I J b,I J n,V s,V t,V u] 42)).alloc (.cells #[I J 12,I J a,I J 0,I J 0,V {data:=#[]},V {data:=#[]},V {data:=#[]}] 42)))
 case first=>
  cases hb0:(n==0)
  all_goals
   cases hb1:(n==1)
   all_goals
    go_wp2_with fail
    go_meet
    exact⟨congrArg Value.bool (by simp[aZ,beq_iff_eq,beq_eq_false_iff_ne] at *;simp[aZ, *]),rfl⟩
 case rest=>
 obtain⟨rfl,rfl⟩:=hcut
 go_upto_region 4 with fail
 go_cut [6] (λs6 wx=>s6=.bool (aI b)∧wx=((w.alloc (.cells #[I J 12,I J a,I J b,I J n,V s,V t,V u] 42)).alloc (.cells #[I J 12,I J a,I J 0,I J 0,V {data:=#[]},V {data:=#[]},V {data:=#[]}] 42)))
 case first=>
  cases hb0:(b==0)
  all_goals
   go_wp2_with (go_at_call 127;refine(bi _ _).mono ?_;rintro e w' ⟨rfl,rfl⟩)
   go_meet
   exact⟨congrArg Value.bool (by simp[beq_iff_eq,beq_eq_false_iff_ne] at hb0;simp[aI, *]),rfl⟩
 case rest=>
 obtain⟨rfl,rfl⟩:=hcut
 go_step
 go_step
 go_cut [4] (λs4 wx=>s4=.bool (aA ⟨12,a,b,n,s,t,u⟩)∧aa ac ((w.alloc (.cells #[I J 12,I J a,I J b,I J n,V s,V t,V u] 42)).alloc (.cells #[I J 12,I J a,I J 0,I J 0,V {data:=#[]},V {data:=#[]},V {data:=#[]}] 42)) wx)
 case first=>
  skip
  all_goals
   go_wp2_with (first
    | (go_at_call 127;refine(bi _ _).mono ?_;rintro e w' ⟨rfl,rfl⟩)
    | fail)
  all_goals
   go_meet
   exact⟨congrArg Value.bool (by simp[aA,mF, *]),az⟩
 case rest=>
 obtain⟨rfl,az⟩:=hcut;obtain⟨d0,d1,d2,d3,d4,d5,d6⟩:=ap (HC _ az).1;obtain⟨x0,x1,x2,x3,x4,x5,x6⟩:=ap (HC _ az).2
 cases hrt:aA ⟨12,a,b,n,s,t,u⟩
 all_goals
  go_wp2_with fail
 all_goals
  go_ret;refine⟨af ?_,by first|exact HF.out.trans az|exact HF.out⟩;clear HC HF az;rw[aQ,pS,hrt];simp[aU,eS, *]
theorem zG(a b n:Int)(s t u:ByteArray)(w:World):Calls pQ 71 #[dt ⟨13,a,b,n,s,t,u⟩] w λr w'=>r=.returned (.bool (aQ ⟨13,a,b,n,s,t,u⟩))∧aa ac w w':=by
 have tq:=fR ((w.alloc (.cells #[I J 13,I J a,I J b,I J n,V s,V t,V u] 42)).alloc (.cells #[I J 13,I J 0,I J 0,I J n,V {data:=#[]},V {data:=#[]},V {data:=#[]}] 42));have az:=tq.drew;have HC:=λW (h:aa ac ((w.alloc (.cells #[I J 13,I J a,I J b,I J n,V s,V t,V u] 42)).alloc (.cells #[I J 13,I J 0,I J 0,I J n,V {data:=#[]},V {data:=#[]},V {data:=#[]}] 42)) W)=>gh h
 have HF:Hid (aa ac w ((w.alloc (.cells #[I J 13,I J a,I J b,I J n,V s,V t,V u] 42)).alloc (.cells #[I J 13,I J 0,I J 0,I J n,V {data:=#[]},V {data:=#[]},V {data:=#[]}] 42))):=((fR w).alloc _).alloc _;have hg:pQ.eqGuardType pQ.depth 42=false:=by kernel_rfl
 unfold dt;go_enter Tryz.func71,Tryz.ntmps71
 go_upto_region 3 with ((go_at_call 127;refine(bi _ _).mono ?_;rintro e w' ⟨rfl,rfl⟩))
 go_cut [5] (λs5 wx=>s5=.bool (aZ n)∧wx=((w.alloc (.cells #[I J 13,I J a,I J b,I J n,V s,V t,V u] 42)).alloc (.cells #[I J 13,I J a,I J 0,I J 0,V {data:=#[]},V {data:=#[]},V {data:=#[]}] 42)))
 case first=>
  cases hb0:(n==0)
  all_goals
   cases hb1:(n==1)
   all_goals
    go_wp2_with fail
    go_meet
    exact⟨congrArg Value.bool (by simp[aZ,beq_iff_eq,beq_eq_false_iff_ne] at *;simp[aZ, *]),rfl⟩
 case rest=>
 obtain⟨rfl,rfl⟩:=hcut
 go_upto_region 4 with fail
 go_cut [6] (λs6 wx=>s6=.bool (aI b)∧wx=((w.alloc (.cells #[I J 13,I J a,I J b,I J n,V s,V t,V u] 42)).alloc (.cells #[I J 13,I J a,I J 0,I J 0,V {data:=#[]},V {data:=#[]},V {data:=#[]}] 42)))
 case first=>
  cases hb0:(b==0)
  all_goals
   go_wp2_with (go_at_call 127;refine(bi _ _).mono ?_;rintro e w' ⟨rfl,rfl⟩)
   go_meet
   exact⟨congrArg Value.bool (by simp[beq_iff_eq,beq_eq_false_iff_ne] at hb0;simp[aI, *]),rfl⟩
 case rest=>
 obtain⟨rfl,rfl⟩:=hcut
 go_step
 go_step
 go_cut [4] (λs4 wx=>s4=.bool (aA ⟨13,a,b,n,s,t,u⟩)∧aa ac ((w.alloc (.cells #[I J 13,I J a,I J b,I J n,V s,V t,V u] 42)).alloc (.cells #[I J 13,I J 0,I J 0,I J n,V {data:=#[]},V {data:=#[]},V {data:=#[]}] 42)) wx)
 case first=>
  skip
  all_goals
   go_wp2_with (first
    | (go_at_call 127;refine(bi _ _).mono ?_;rintro e w' ⟨rfl,rfl⟩)
    | (go_at_call 107;refine(sP _ _).mono ?_;rintro e w' ⟨rfl,hf'⟩;replace az:=az.trans hf';obtain⟨d0,d1,d2,d3,d4,d5,d6⟩:=ap (HC _ az).1;clear hf')
    | fail)
   go_region
   go_wp2_with (first
    | (go_at_call 127;refine(bi _ _).mono ?_;rintro e w' ⟨rfl,rfl⟩)
    | (go_at_call 107;refine(sP _ _).mono ?_;rintro e w' ⟨rfl,hf'⟩;replace az:=az.trans hf';obtain⟨d0,d1,d2,d3,d4,d5,d6⟩:=ap (HC _ az).1;clear hf')
    | fail)
  all_goals
   go_meet
   exact⟨congrArg Value.bool (by simp[aA,mF, *]),az⟩
 case rest=>
 obtain⟨rfl,az⟩:=hcut;obtain⟨d0,d1,d2,d3,d4,d5,d6⟩:=ap (HC _ az).1;obtain⟨x0,x1,x2,x3,x4,x5,x6⟩:=ap (HC _ az).2
 cases hrt:aA ⟨13,a,b,n,s,t,u⟩
 all_goals
  go_wp2_with fail
 all_goals
  go_ret;refine⟨af ?_,by first|exact HF.out.trans az|exact HF.out⟩;clear HC HF az;rw[aQ,pS,hrt];simp[aU,eS, *]
theorem D9(e:Ev)(w:World):Calls pQ 71 #[dt e] w λr w'=>r=.returned (.bool (aQ e))∧aa ac w w':=by
 by_cases hk:1≤e.kind∧e.kind≤13
 ·obtain⟨k,a,b,n,s,t,u⟩:=e
  simp only at hk;rcases(by omega:k=1∨k=2∨k=3∨k=4∨k=5∨k=6∨k=7∨k=8∨k=9∨k=10∨k=11∨k=12∨k=13) with rfl|rfl|rfl|rfl|rfl|rfl|rfl|rfl|rfl|rfl|rfl|rfl|rfl
  ·exact B9 a b n s t u w
  ·exact Ca a b n s t u w
  ·exact Cb a b n s t u w
  ·exact Cc a b n s t u w
  ·exact Ce a b n s t u w
  ·exact Cf a b n s t u w
  ·exact Cg a b n s t u w
  ·exact Ch a b n s t u w
  ·exact Ci a b n s t u w
  ·exact zD a b n s t u w
  ·exact zE a b n s t u w
  ·exact zF a b n s t u w
  ·exact zG a b n s t u w
 ·have:aQ e=false:=by unfold aQ;rw[rW hk];rfl
  rw[this];exact B8 e.kind e.a e.b e.n e.s e.t e.u w hk
end Go.Proofs.YtaecjmiobllhmaaGreat
