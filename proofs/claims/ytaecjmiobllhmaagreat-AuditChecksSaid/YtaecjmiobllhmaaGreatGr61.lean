/- Words. -/
import Derived.Test.YtaecjmiobllhmaaGreatGr60
set_option linter.unusedVariables false
set_option linter.unusedSimpArgs false
set_option maxRecDepth 100000
set_option maxHeartbeats 16000000
namespace Go.Proofs.YtaecjmiobllhmaaGreat
open Go.Value renaming int→I,string→V
open Go.IntKind renaming i64→J
open Tryz renaming prog→pQ
open Go.RowKit Go.Lib
theorem BH(a b n:Int)(s t u:ByteArray)(w:World):Calls pQ 71 #[bQ ⟨5,a,b,n,s,t,u⟩] w λr w'=>r=.returned (.bool (aM ⟨5,a,b,n,s,t,u⟩))∧aa ag w w':=by
 have ar:=fR ((w.alloc (.cells #[I J 5,I J a,I J b,I J n,V s,V t,V u] 42)).alloc (.cells #[I J 5,I J a,I J 0,I J 0,V {data:=#[]},V t,V {data:=#[]}] 42));have HC:=λW (h:aa ag ((w.alloc (.cells #[I J 5,I J a,I J b,I J n,V s,V t,V u] 42)).alloc (.cells #[I J 5,I J a,I J 0,I J 0,V {data:=#[]},V t,V {data:=#[]}] 42)) W)=>ft h
 have HF:Hid (aa ag w ((w.alloc (.cells #[I J 5,I J a,I J b,I J n,V s,V t,V u] 42)).alloc (.cells #[I J 5,I J a,I J 0,I J 0,V {data:=#[]},V t,V {data:=#[]}] 42))):=((fR w).alloc _).alloc _;have hg:pQ.eqGuardType pQ.depth 42=false:=by kernel_rfl
 unfold bQ;go_enter Tryz.func71,Tryz.ntmps71
 go_upto_region 3 with ((go_at_call 127;refine(aV _ _).mono ?_;rintro e w' ⟨rfl,rfl⟩))
 go_cut [5] (λs5 wx=>s5=.bool (aW n)∧wx=((w.alloc (.cells #[I J 5,I J a,I J b,I J n,V s,V t,V u] 42)).alloc (.cells #[I J 5,I J a,I J 0,I J 0,V {data:=#[]},V {data:=#[]},V {data:=#[]}] 42)))
 case first=>
  cases hb0:(n==0)
  all_goals
   cases hb1:(n==1)
   all_goals
    go_wp2_with fail
    go_meet
    exact⟨congrArg Value.bool (by simp[aW,beq_iff_eq,beq_eq_false_iff_ne] at *;simp[aW, *]),rfl⟩
 case rest=>
 obtain⟨rfl,rfl⟩:=hcut
 go_upto_region 4 with fail
 go_cut [6] (λs6 wx=>s6=.bool (aK b)∧wx=((w.alloc (.cells #[I J 5,I J a,I J b,I J n,V s,V t,V u] 42)).alloc (.cells #[I J 5,I J a,I J 0,I J 0,V {data:=#[]},V {data:=#[]},V {data:=#[]}] 42)))
 case first=>
  cases hb0:(b==0)
  all_goals
   go_wp2_with (go_at_call 127;refine(aV _ _).mono ?_;rintro e w' ⟨rfl,rfl⟩)
   go_meet
   exact⟨congrArg Value.bool (by simp[beq_iff_eq,beq_eq_false_iff_ne] at hb0;simp[aK, *]),rfl⟩
 case rest=>
 obtain⟨rfl,rfl⟩:=hcut
 go_step
 go_step
 go_cut [4] (λs4 wx=>s4=.bool (aB ⟨5,a,b,n,s,t,u⟩)∧aa ag ((w.alloc (.cells #[I J 5,I J a,I J b,I J n,V s,V t,V u] 42)).alloc (.cells #[I J 5,I J a,I J 0,I J 0,V {data:=#[]},V t,V {data:=#[]}] 42)) wx)
 case first=>
  skip
  all_goals
   go_wp2_with (first
    | (go_at_call 127;refine(aV _ _).mono ?_;rintro e w' ⟨rfl,rfl⟩)
    | (go_at_call 130;refine(qi _ _).mono ?_;rintro e w' ⟨rfl,hf'⟩;replace ar:=ar.trans hf';obtain⟨d0,d1,d2,d3,d4,d5,d6⟩:=az (HC _ ar).1;clear hf')
    | fail)
  all_goals
   go_meet
   exact⟨congrArg Value.bool (by simp[aB,mr, *]),ar⟩
 case rest=>
 obtain⟨rfl,ar⟩:=hcut;obtain⟨d0,d1,d2,d3,d4,d5,d6⟩:=az (HC _ ar).1;obtain⟨x0,x1,x2,x3,x4,x5,x6⟩:=az (HC _ ar).2
 cases hrt:aB ⟨5,a,b,n,s,t,u⟩
 all_goals
  go_wp2_with fail
 all_goals
  go_ret;refine⟨af ?_,by first|exact HF.out.trans ar|exact HF.out⟩;clear HC HF ar;rw[aM,pV,hrt];simp[aS,eS, *]
theorem BI(a b n:Int)(s t u:ByteArray)(w:World):Calls pQ 71 #[bQ ⟨6,a,b,n,s,t,u⟩] w λr w'=>r=.returned (.bool (aM ⟨6,a,b,n,s,t,u⟩))∧aa ag w w':=by
 have ar:=fR ((w.alloc (.cells #[I J 6,I J a,I J b,I J n,V s,V t,V u] 42)).alloc (.cells #[I J 6,I J a,I J b,I J 0,V {data:=#[]},V {data:=#[]},V {data:=#[]}] 42));have HC:=λW (h:aa ag ((w.alloc (.cells #[I J 6,I J a,I J b,I J n,V s,V t,V u] 42)).alloc (.cells #[I J 6,I J a,I J b,I J 0,V {data:=#[]},V {data:=#[]},V {data:=#[]}] 42)) W)=>ft h
 have HF:Hid (aa ag w ((w.alloc (.cells #[I J 6,I J a,I J b,I J n,V s,V t,V u] 42)).alloc (.cells #[I J 6,I J a,I J b,I J 0,V {data:=#[]},V {data:=#[]},V {data:=#[]}] 42))):=((fR w).alloc _).alloc _;have hg:pQ.eqGuardType pQ.depth 42=false:=by kernel_rfl
 unfold bQ;go_enter Tryz.func71,Tryz.ntmps71
 go_upto_region 3 with ((go_at_call 127;refine(aV _ _).mono ?_;rintro e w' ⟨rfl,rfl⟩))
 go_cut [5] (λs5 wx=>s5=.bool (aW n)∧wx=((w.alloc (.cells #[I J 6,I J a,I J b,I J n,V s,V t,V u] 42)).alloc (.cells #[I J 6,I J a,I J 0,I J 0,V {data:=#[]},V {data:=#[]},V {data:=#[]}] 42)))
 case first=>
  cases hb0:(n==0)
  all_goals
   cases hb1:(n==1)
   all_goals
    go_wp2_with fail
    go_meet
    exact⟨congrArg Value.bool (by simp[aW,beq_iff_eq,beq_eq_false_iff_ne] at *;simp[aW, *]),rfl⟩
 case rest=>
 obtain⟨rfl,rfl⟩:=hcut
 go_upto_region 4 with fail
 go_cut [6] (λs6 wx=>s6=.bool (aK b)∧wx=((w.alloc (.cells #[I J 6,I J a,I J b,I J n,V s,V t,V u] 42)).alloc (.cells #[I J 6,I J a,I J 0,I J 0,V {data:=#[]},V {data:=#[]},V {data:=#[]}] 42)))
 case first=>
  cases hb0:(b==0)
  all_goals
   go_wp2_with (go_at_call 127;refine(aV _ _).mono ?_;rintro e w' ⟨rfl,rfl⟩)
   go_meet
   exact⟨congrArg Value.bool (by simp[beq_iff_eq,beq_eq_false_iff_ne] at hb0;simp[aK, *]),rfl⟩
 case rest=>
 obtain⟨rfl,rfl⟩:=hcut
 go_step
 go_step
 go_cut [4] (λs4 wx=>s4=.bool (aB ⟨6,a,b,n,s,t,u⟩)∧aa ag ((w.alloc (.cells #[I J 6,I J a,I J b,I J n,V s,V t,V u] 42)).alloc (.cells #[I J 6,I J a,I J b,I J 0,V {data:=#[]},V {data:=#[]},V {data:=#[]}] 42)) wx)
 case first=>
  skip
  all_goals
   go_wp2_with (first
    | (go_at_call 127;refine(aV _ _).mono ?_;rintro e w' ⟨rfl,rfl⟩)
    | fail)
  all_goals
   go_meet
   exact⟨congrArg Value.bool (by simp[aB,mr, *]),ar⟩
 case rest=>
 obtain⟨rfl,ar⟩:=hcut;obtain⟨d0,d1,d2,d3,d4,d5,d6⟩:=az (HC _ ar).1;obtain⟨x0,x1,x2,x3,x4,x5,x6⟩:=az (HC _ ar).2
 cases hrt:aB ⟨6,a,b,n,s,t,u⟩
 all_goals
  go_wp2_with fail
 all_goals
  go_ret;refine⟨af ?_,by first|exact HF.out.trans ar|exact HF.out⟩;clear HC HF ar;rw[aM,pV,hrt];simp[aS,eS, *]
theorem BJ(a b n:Int)(s t u:ByteArray)(w:World):Calls pQ 71 #[bQ ⟨7,a,b,n,s,t,u⟩] w λr w'=>r=.returned (.bool (aM ⟨7,a,b,n,s,t,u⟩))∧aa ag w w':=by
 have ar:=fR ((w.alloc (.cells #[I J 7,I J a,I J b,I J n,V s,V t,V u] 42)).alloc (.cells #[I J 7,I J a,I J b,I J n,V s,V t,V u] 42));have HC:=λW (h:aa ag ((w.alloc (.cells #[I J 7,I J a,I J b,I J n,V s,V t,V u] 42)).alloc (.cells #[I J 7,I J a,I J b,I J n,V s,V t,V u] 42)) W)=>ft h
 have HF:Hid (aa ag w ((w.alloc (.cells #[I J 7,I J a,I J b,I J n,V s,V t,V u] 42)).alloc (.cells #[I J 7,I J a,I J b,I J n,V s,V t,V u] 42))):=((fR w).alloc _).alloc _;have hg:pQ.eqGuardType pQ.depth 42=false:=by kernel_rfl
 unfold bQ;go_enter Tryz.func71,Tryz.ntmps71
 go_upto_region 3 with ((go_at_call 127;refine(aV _ _).mono ?_;rintro e w' ⟨rfl,rfl⟩))
 go_cut [5] (λs5 wx=>s5=.bool (aW n)∧wx=((w.alloc (.cells #[I J 7,I J a,I J b,I J n,V s,V t,V u] 42)).alloc (.cells #[I J 7,I J a,I J 0,I J 0,V {data:=#[]},V {data:=#[]},V {data:=#[]}] 42)))
 case first=>
  cases hb0:(n==0)
  all_goals
   cases hb1:(n==1)
   all_goals
    go_wp2_with fail
    go_meet
    exact⟨congrArg Value.bool (by simp[aW,beq_iff_eq,beq_eq_false_iff_ne] at *;simp[aW, *]),rfl⟩
 case rest=>
 obtain⟨rfl,rfl⟩:=hcut
 go_upto_region 4 with fail
 go_cut [6] (λs6 wx=>s6=.bool (aK b)∧wx=((w.alloc (.cells #[I J 7,I J a,I J b,I J n,V s,V t,V u] 42)).alloc (.cells #[I J 7,I J a,I J 0,I J 0,V {data:=#[]},V {data:=#[]},V {data:=#[]}] 42)))
 case first=>
  cases hb0:(b==0)
  all_goals
   go_wp2_with (go_at_call 127;refine(aV _ _).mono ?_;rintro e w' ⟨rfl,rfl⟩)
   go_meet
   exact⟨congrArg Value.bool (by simp[beq_iff_eq,beq_eq_false_iff_ne] at hb0;simp[aK, *]),rfl⟩
 case rest=>
 obtain⟨rfl,rfl⟩:=hcut
 go_step
 go_step
 go_cut [4] (λs4 wx=>s4=.bool (aB ⟨7,a,b,n,s,t,u⟩)∧aa ag ((w.alloc (.cells #[I J 7,I J a,I J b,I J n,V s,V t,V u] 42)).alloc (.cells #[I J 7,I J a,I J b,I J n,V s,V t,V u] 42)) wx)
 case first=>
  skip
  all_goals
   go_wp2_with (first
    | (go_at_call 127;refine(aV _ _).mono ?_;rintro e w' ⟨rfl,rfl⟩)
    | (go_at_call 107;refine(vR _ _).mono ?_;rintro e w' ⟨rfl,hf'⟩;replace ar:=ar.trans hf';obtain⟨d0,d1,d2,d3,d4,d5,d6⟩:=az (HC _ ar).1;clear hf')
    | (go_at_call 129;refine(ub _ _).mono ?_;rintro e w' ⟨rfl,hf'⟩;replace ar:=ar.trans hf';obtain⟨d0,d1,d2,d3,d4,d5,d6⟩:=az (HC _ ar).1;clear hf')
    | (go_at_call 130;refine(qi _ _).mono ?_;rintro e w' ⟨rfl,hf'⟩;replace ar:=ar.trans hf';obtain⟨d0,d1,d2,d3,d4,d5,d6⟩:=az (HC _ ar).1;clear hf')
    | fail)
  all_goals
   go_meet
   exact⟨congrArg Value.bool (by simp[aB,mr, *]),ar⟩
 case rest=>
 obtain⟨rfl,ar⟩:=hcut;obtain⟨d0,d1,d2,d3,d4,d5,d6⟩:=az (HC _ ar).1;obtain⟨x0,x1,x2,x3,x4,x5,x6⟩:=az (HC _ ar).2
 cases hrt:aB ⟨7,a,b,n,s,t,u⟩
 all_goals
  go_wp2_with fail
 all_goals
  go_ret;refine⟨af ?_,by first|exact HF.out.trans ar|exact HF.out⟩;clear HC HF ar;rw[aM,pV,hrt];simp[aS,eS, *]
theorem BK(a b n:Int)(s t u:ByteArray)(w:World):Calls pQ 71 #[bQ ⟨8,a,b,n,s,t,u⟩] w λr w'=>r=.returned (.bool (aM ⟨8,a,b,n,s,t,u⟩))∧aa ag w w':=by
 have ar:=fR ((w.alloc (.cells #[I J 8,I J a,I J b,I J n,V s,V t,V u] 42)).alloc (.cells #[I J 8,I J a,I J 0,I J n,V {data:=#[]},V {data:=#[]},V {data:=#[]}] 42));have HC:=λW (h:aa ag ((w.alloc (.cells #[I J 8,I J a,I J b,I J n,V s,V t,V u] 42)).alloc (.cells #[I J 8,I J a,I J 0,I J n,V {data:=#[]},V {data:=#[]},V {data:=#[]}] 42)) W)=>ft h
 have HF:Hid (aa ag w ((w.alloc (.cells #[I J 8,I J a,I J b,I J n,V s,V t,V u] 42)).alloc (.cells #[I J 8,I J a,I J 0,I J n,V {data:=#[]},V {data:=#[]},V {data:=#[]}] 42))):=((fR w).alloc _).alloc _;have hg:pQ.eqGuardType pQ.depth 42=false:=by kernel_rfl
 unfold bQ;go_enter Tryz.func71,Tryz.ntmps71
 go_upto_region 3 with ((go_at_call 127;refine(aV _ _).mono ?_;rintro e w' ⟨rfl,rfl⟩))
 go_cut [5] (λs5 wx=>s5=.bool (aW n)∧wx=((w.alloc (.cells #[I J 8,I J a,I J b,I J n,V s,V t,V u] 42)).alloc (.cells #[I J 8,I J a,I J 0,I J 0,V {data:=#[]},V {data:=#[]},V {data:=#[]}] 42)))
 case first=>
  cases hb0:(n==0)
  all_goals
   cases hb1:(n==1)
   all_goals
    go_wp2_with fail
    go_meet
    exact⟨congrArg Value.bool (by simp[aW,beq_iff_eq,beq_eq_false_iff_ne] at *;simp[aW, *]),rfl⟩
 case rest=>
 obtain⟨rfl,rfl⟩:=hcut
 go_upto_region 4 with fail
 go_cut [6] (λs6 wx=>s6=.bool (aK b)∧wx=((w.alloc (.cells #[I J 8,I J a,I J b,I J n,V s,V t,V u] 42)).alloc (.cells #[I J 8,I J a,I J 0,I J 0,V {data:=#[]},V {data:=#[]},V {data:=#[]}] 42)))
 case first=>
  cases hb0:(b==0)
  all_goals
   go_wp2_with (go_at_call 127;refine(aV _ _).mono ?_;rintro e w' ⟨rfl,rfl⟩)
   go_meet
   exact⟨congrArg Value.bool (by simp[beq_iff_eq,beq_eq_false_iff_ne] at hb0;simp[aK, *]),rfl⟩
 case rest=>
 obtain⟨rfl,rfl⟩:=hcut
 go_step
 go_step
 go_cut [4] (λs4 wx=>s4=.bool (aB ⟨8,a,b,n,s,t,u⟩)∧aa ag ((w.alloc (.cells #[I J 8,I J a,I J b,I J n,V s,V t,V u] 42)).alloc (.cells #[I J 8,I J a,I J 0,I J n,V {data:=#[]},V {data:=#[]},V {data:=#[]}] 42)) wx)
 case first=>
  skip
  all_goals
   go_wp2_with (first
    | (go_at_call 127;refine(aV _ _).mono ?_;rintro e w' ⟨rfl,rfl⟩)
    | fail)
  all_goals
   go_meet
   exact⟨congrArg Value.bool (by simp[aB,mr, *]),ar⟩
 case rest=>
 obtain⟨rfl,ar⟩:=hcut;obtain⟨d0,d1,d2,d3,d4,d5,d6⟩:=az (HC _ ar).1;obtain⟨x0,x1,x2,x3,x4,x5,x6⟩:=az (HC _ ar).2
 cases hrt:aB ⟨8,a,b,n,s,t,u⟩
 all_goals
  go_wp2_with fail
 all_goals
  go_ret;refine⟨af ?_,by first|exact HF.out.trans ar|exact HF.out⟩;clear HC HF ar;rw[aM,pV,hrt];simp[aS,eS, *]
theorem BL(a b n:Int)(s t u:ByteArray)(w:World):Calls pQ 71 #[bQ ⟨9,a,b,n,s,t,u⟩] w λr w'=>r=.returned (.bool (aM ⟨9,a,b,n,s,t,u⟩))∧aa ag w w':=by
 have ar:=fR ((w.alloc (.cells #[I J 9,I J a,I J b,I J n,V s,V t,V u] 42)).alloc (.cells #[I J 9,I J a,I J 0,I J n,V {data:=#[]},V {data:=#[]},V {data:=#[]}] 42));have HC:=λW (h:aa ag ((w.alloc (.cells #[I J 9,I J a,I J b,I J n,V s,V t,V u] 42)).alloc (.cells #[I J 9,I J a,I J 0,I J n,V {data:=#[]},V {data:=#[]},V {data:=#[]}] 42)) W)=>ft h
 have HF:Hid (aa ag w ((w.alloc (.cells #[I J 9,I J a,I J b,I J n,V s,V t,V u] 42)).alloc (.cells #[I J 9,I J a,I J 0,I J n,V {data:=#[]},V {data:=#[]},V {data:=#[]}] 42))):=((fR w).alloc _).alloc _;have hg:pQ.eqGuardType pQ.depth 42=false:=by kernel_rfl
 unfold bQ;go_enter Tryz.func71,Tryz.ntmps71
 go_upto_region 3 with ((go_at_call 127;refine(aV _ _).mono ?_;rintro e w' ⟨rfl,rfl⟩))
 go_cut [5] (λs5 wx=>s5=.bool (aW n)∧wx=((w.alloc (.cells #[I J 9,I J a,I J b,I J n,V s,V t,V u] 42)).alloc (.cells #[I J 9,I J a,I J 0,I J 0,V {data:=#[]},V {data:=#[]},V {data:=#[]}] 42)))
 case first=>
  cases hb0:(n==0)
  all_goals
   cases hb1:(n==1)
   all_goals
    go_wp2_with fail
    go_meet
    exact⟨congrArg Value.bool (by simp[aW,beq_iff_eq,beq_eq_false_iff_ne] at *;simp[aW, *]),rfl⟩
 case rest=>
 obtain⟨rfl,rfl⟩:=hcut
 go_upto_region 4 with fail
 go_cut [6] (λs6 wx=>s6=.bool (aK b)∧wx=((w.alloc (.cells #[I J 9,I J a,I J b,I J n,V s,V t,V u] 42)).alloc (.cells #[I J 9,I J a,I J 0,I J 0,V {data:=#[]},V {data:=#[]},V {data:=#[]}] 42)))
 case first=>
  cases hb0:(b==0)
  all_goals
   go_wp2_with (go_at_call 127;refine(aV _ _).mono ?_;rintro e w' ⟨rfl,rfl⟩)
   go_meet
   exact⟨congrArg Value.bool (by simp[beq_iff_eq,beq_eq_false_iff_ne] at hb0;simp[aK, *]),rfl⟩
 case rest=>
 obtain⟨rfl,rfl⟩:=hcut
 go_step
 go_step
 go_cut [4] (λs4 wx=>s4=.bool (aB ⟨9,a,b,n,s,t,u⟩)∧aa ag ((w.alloc (.cells #[I J 9,I J a,I J b,I J n,V s,V t,V u] 42)).alloc (.cells #[I J 9,I J a,I J 0,I J n,V {data:=#[]},V {data:=#[]},V {data:=#[]}] 42)) wx)
 case first=>
  skip
  all_goals
   go_wp2_with (first
    | (go_at_call 127;refine(aV _ _).mono ?_;rintro e w' ⟨rfl,rfl⟩)
    | fail)
  all_goals
   go_meet
   exact⟨congrArg Value.bool (by simp[aB,mr, *]),ar⟩
 case rest=>
 obtain⟨rfl,ar⟩:=hcut;obtain⟨d0,d1,d2,d3,d4,d5,d6⟩:=az (HC _ ar).1;obtain⟨x0,x1,x2,x3,x4,x5,x6⟩:=az (HC _ ar).2
 cases hrt:aB ⟨9,a,b,n,s,t,u⟩
 all_goals
  go_wp2_with fail
 all_goals
  go_ret;refine⟨af ?_,by first|exact HF.out.trans ar|exact HF.out⟩;clear HC HF ar;rw[aM,pV,hrt];simp[aS,eS, *]
theorem zo(a b n:Int)(s t u:ByteArray)(w:World):Calls pQ 71 #[bQ ⟨10,a,b,n,s,t,u⟩] w λr w'=>r=.returned (.bool (aM ⟨10,a,b,n,s,t,u⟩))∧aa ag w w':=by
 have tC:=fR ((w.alloc (.cells #[I J 10,I J a,I J b,I J n,V s,V t,V u] 42)).alloc (.cells #[I J 10,I J a,I J 0,I J n,V s,V {data:=#[]},V {data:=#[]}] 42));have ar:=tC.drew;have HC:=λW (h:aa ag ((w.alloc (.cells #[I J 10,I J a,I J b,I J n,V s,V t,V u] 42)).alloc (.cells #[I J 10,I J a,I J 0,I J n,V s,V {data:=#[]},V {data:=#[]}] 42)) W)=>ft h
 have HF:Hid (aa ag w ((w.alloc (.cells #[I J 10,I J a,I J b,I J n,V s,V t,V u] 42)).alloc (.cells #[I J 10,I J a,I J 0,I J n,V s,V {data:=#[]},V {data:=#[]}] 42))):=((fR w).alloc _).alloc _;have hg:pQ.eqGuardType pQ.depth 42=false:=by kernel_rfl
 unfold bQ;go_enter Tryz.func71,Tryz.ntmps71
 go_upto_region 3 with ((go_at_call 127;refine(aV _ _).mono ?_;rintro e w' ⟨rfl,rfl⟩))
 go_cut [5] (λs5 wx=>s5=.bool (aW n)∧wx=((w.alloc (.cells #[I J 10,I J a,I J b,I J n,V s,V t,V u] 42)).alloc (.cells #[I J 10,I J a,I J 0,I J 0,V {data:=#[]},V {data:=#[]},V {data:=#[]}] 42)))
 case first=>
  cases hb0:(n==0)
  all_goals
   cases hb1:(n==1)
   all_goals
    go_wp2_with fail
    go_meet
    exact⟨congrArg Value.bool (by simp[aW,beq_iff_eq,beq_eq_false_iff_ne] at *;simp[aW, *]),rfl⟩
 case rest=>
 obtain⟨rfl,rfl⟩:=hcut
 go_upto_region 4 with fail
 go_cut [6] (λs6 wx=>s6=.bool (aK b)∧wx=((w.alloc (.cells #[I J 10,I J a,I J b,I J n,V s,V t,V u] 42)).alloc (.cells #[I J 10,I J a,I J 0,I J 0,V {data:=#[]},V {data:=#[]},V {data:=#[]}] 42)))
 case first=>
  cases hb0:(b==0)
  all_goals
   go_wp2_with (go_at_call 127;refine(aV _ _).mono ?_;rintro e w' ⟨rfl,rfl⟩)
   go_meet
   exact⟨congrArg Value.bool (by simp[beq_iff_eq,beq_eq_false_iff_ne] at hb0;simp[aK, *]),rfl⟩
 case rest=>
 obtain⟨rfl,rfl⟩:=hcut
 cases Rf:aW n
 all_goals
  go_step
  go_step
  go_cut [4] (λs4 wx=>s4=.bool (aB ⟨10,a,b,n,s,t,u⟩)∧aa ag ((w.alloc (.cells #[I J 10,I J a,I J b,I J n,V s,V t,V u] 42)).alloc (.cells #[I J 10,I J a,I J 0,I J n,V s,V {data:=#[]},V {data:=#[]}] 42)) wx)
  case first=>
   skip
   all_goals
    go_wp2_with (first
     | (go_at_call 127;refine(aV _ _).mono ?_;rintro e w' ⟨rfl,rfl⟩)
     | (go_at_call 131;refine(AE _ _).mono ?_;rintro e w' ⟨rfl,hf'⟩;replace ar:=ar.trans hf';obtain⟨d0,d1,d2,d3,d4,d5,d6⟩:=az (HC _ ar).1;clear hf')
     | fail)
    go_region
    go_wp2_with (first
     | (go_at_call 127;refine(aV _ _).mono ?_;rintro e w' ⟨rfl,rfl⟩)
     | (go_at_call 131;refine(AE _ _).mono ?_;rintro e w' ⟨rfl,hf'⟩;replace ar:=ar.trans hf';obtain⟨d0,d1,d2,d3,d4,d5,d6⟩:=az (HC _ ar).1;clear hf')
     | fail)
   all_goals
    go_meet
    exact⟨congrArg Value.bool (by simp[aB,mr, *]),ar⟩
  case rest=>
  obtain⟨rfl,ar⟩:=hcut;obtain⟨d0,d1,d2,d3,d4,d5,d6⟩:=az (HC _ ar).1;obtain⟨x0,x1,x2,x3,x4,x5,x6⟩:=az (HC _ ar).2
  cases hrt:aB ⟨10,a,b,n,s,t,u⟩
  all_goals
   go_wp2_with fail
  all_goals
   go_ret;refine⟨af ?_,by first|exact HF.out.trans ar|exact HF.out⟩;clear HC HF ar;rw[aM,pV,hrt];simp[aS,eS, *]
theorem zr(a b n:Int)(s t u:ByteArray)(w:World):Calls pQ 71 #[bQ ⟨11,a,b,n,s,t,u⟩] w λr w'=>r=.returned (.bool (aM ⟨11,a,b,n,s,t,u⟩))∧aa ag w w':=by
 have tC:=fR ((w.alloc (.cells #[I J 11,I J a,I J b,I J n,V s,V t,V u] 42)).alloc (.cells #[I J 11,I J a,I J 0,I J 0,V s,V t,V {data:=#[]}] 42));have ar:=tC.drew;have HC:=λW (h:aa ag ((w.alloc (.cells #[I J 11,I J a,I J b,I J n,V s,V t,V u] 42)).alloc (.cells #[I J 11,I J a,I J 0,I J 0,V s,V t,V {data:=#[]}] 42)) W)=>ft h
 have HF:Hid (aa ag w ((w.alloc (.cells #[I J 11,I J a,I J b,I J n,V s,V t,V u] 42)).alloc (.cells #[I J 11,I J a,I J 0,I J 0,V s,V t,V {data:=#[]}] 42))):=((fR w).alloc _).alloc _;have hg:pQ.eqGuardType pQ.depth 42=false:=by kernel_rfl
 unfold bQ;go_enter Tryz.func71,Tryz.ntmps71
 go_upto_region 3 with ((go_at_call 127;refine(aV _ _).mono ?_;rintro e w' ⟨rfl,rfl⟩))
 go_cut [5] (λs5 wx=>s5=.bool (aW n)∧wx=((w.alloc (.cells #[I J 11,I J a,I J b,I J n,V s,V t,V u] 42)).alloc (.cells #[I J 11,I J a,I J 0,I J 0,V {data:=#[]},V {data:=#[]},V {data:=#[]}] 42)))
 case first=>
  cases hb0:(n==0)
  all_goals
   cases hb1:(n==1)
   all_goals
    go_wp2_with fail
    go_meet
    exact⟨congrArg Value.bool (by simp[aW,beq_iff_eq,beq_eq_false_iff_ne] at *;simp[aW, *]),rfl⟩
 case rest=>
 obtain⟨rfl,rfl⟩:=hcut
 go_upto_region 4 with fail
 go_cut [6] (λs6 wx=>s6=.bool (aK b)∧wx=((w.alloc (.cells #[I J 11,I J a,I J b,I J n,V s,V t,V u] 42)).alloc (.cells #[I J 11,I J a,I J 0,I J 0,V {data:=#[]},V {data:=#[]},V {data:=#[]}] 42)))
 case first=>
  cases hb0:(b==0)
  all_goals
   go_wp2_with (go_at_call 127;refine(aV _ _).mono ?_;rintro e w' ⟨rfl,rfl⟩)
   go_meet
   exact⟨congrArg Value.bool (by simp[beq_iff_eq,beq_eq_false_iff_ne] at hb0;simp[aK, *]),rfl⟩
 case rest=>
 obtain⟨rfl,rfl⟩:=hcut
 go_step
 go_step
 go_cut [4] (λs4 wx=>s4=.bool (aB ⟨11,a,b,n,s,t,u⟩)∧aa ag ((w.alloc (.cells #[I J 11,I J a,I J b,I J n,V s,V t,V u] 42)).alloc (.cells #[I J 11,I J a,I J 0,I J 0,V s,V t,V {data:=#[]}] 42)) wx)
 case first=>
  skip
  all_goals
   go_wp2_with (first
    | (go_at_call 127;refine(aV _ _).mono ?_;rintro e w' ⟨rfl,rfl⟩)
    | (go_at_call 128;refine(nJ _ _).mono ?_;rintro e w' ⟨rfl,hf'⟩;replace ar:=ar.trans hf';obtain⟨d0,d1,d2,d3,d4,d5,d6⟩:=az (HC _ ar).1;clear hf')
    | (go_at_call 132;refine(vT _ _).mono ?_;rintro e w' ⟨rfl,hf'⟩;replace ar:=ar.trans hf';obtain⟨d0,d1,d2,d3,d4,d5,d6⟩:=az (HC _ ar).1;clear hf')
    | fail)
   go_region
   go_wp2_with (first
    | (go_at_call 127;refine(aV _ _).mono ?_;rintro e w' ⟨rfl,rfl⟩)
    | (go_at_call 128;refine(nJ _ _).mono ?_;rintro e w' ⟨rfl,hf'⟩;replace ar:=ar.trans hf';obtain⟨d0,d1,d2,d3,d4,d5,d6⟩:=az (HC _ ar).1;clear hf')
    | (go_at_call 132;refine(vT _ _).mono ?_;rintro e w' ⟨rfl,hf'⟩;replace ar:=ar.trans hf';obtain⟨d0,d1,d2,d3,d4,d5,d6⟩:=az (HC _ ar).1;clear hf')
    | fail)
  all_goals
   go_meet
   exact⟨congrArg Value.bool (by simp[aB,mr, *]),ar⟩
 case rest=>
 obtain⟨rfl,ar⟩:=hcut;obtain⟨d0,d1,d2,d3,d4,d5,d6⟩:=az (HC _ ar).1;obtain⟨x0,x1,x2,x3,x4,x5,x6⟩:=az (HC _ ar).2
 cases hrt:aB ⟨11,a,b,n,s,t,u⟩
 all_goals
  go_wp2_with fail
 all_goals
  go_ret;refine⟨af ?_,by first|exact HF.out.trans ar|exact HF.out⟩;clear HC HF ar;rw[aM,pV,hrt];simp[aS,eS, *]
theorem zu(a b n:Int)(s t u:ByteArray)(w:World):Calls pQ 71 #[bQ ⟨12,a,b,n,s,t,u⟩] w λr w'=>r=.returned (.bool (aM ⟨12,a,b,n,s,t,u⟩))∧aa ag w w':=by
 have ar:=fR ((w.alloc (.cells #[I J 12,I J a,I J b,I J n,V s,V t,V u] 42)).alloc (.cells #[I J 12,I J a,I J 0,I J 0,V {data:=#[]},V {data:=#[]},V {data:=#[]}] 42));have HC:=λW (h:aa ag ((w.alloc (.cells #[I J 12,I J a,I J b,I J n,V s,V t,V u] 42)).alloc (.cells #[I J 12,I J a,I J 0,I J 0,V {data:=#[]},V {data:=#[]},V {data:=#[]}] 42)) W)=>ft h
 have HF:Hid (aa ag w ((w.alloc (.cells #[I J 12,I J a,I J b,I J n,V s,V t,V u] 42)).alloc (.cells #[I J 12,I J a,I J 0,I J 0,V {data:=#[]},V {data:=#[]},V {data:=#[]}] 42))):=((fR w).alloc _).alloc _;have hg:pQ.eqGuardType pQ.depth 42=false:=by kernel_rfl
 unfold bQ;go_enter Tryz.func71,Tryz.ntmps71
 go_upto_region 3 with ((go_at_call 127;refine(aV _ _).mono ?_;rintro e w' ⟨rfl,rfl⟩))
 go_cut [5] (λs5 wx=>s5=.bool (aW n)∧wx=((w.alloc (.cells #[I J 12,I J a,I J b,I J n,V s,V t,V u] 42)).alloc (.cells #[I J 12,I J a,I J 0,I J 0,V {data:=#[]},V {data:=#[]},V {data:=#[]}] 42)))
 case first=>
  cases hb0:(n==0)
  all_goals
   cases hb1:(n==1)
   all_goals
    go_wp2_with fail
    go_meet
    exact⟨congrArg Value.bool (by simp[aW,beq_iff_eq,beq_eq_false_iff_ne] at *;simp[aW, *]),rfl⟩
 case rest=>
 obtain⟨rfl,rfl⟩:=hcut
 go_upto_region 4 with fail
 go_cut [6] (λs6 wx=>s6=.bool (aK b)∧wx=((w.alloc (.cells #[I J 12,I J a,I J b,I J n,V s,V t,V u] 42)).alloc (.cells #[I J 12,I J a,I J 0,I J 0,V {data:=#[]},V {data:=#[]},V {data:=#[]}] 42)))
 case first=>
  cases hb0:(b==0)
  all_goals
   go_wp2_with (go_at_call 127;refine(aV _ _).mono ?_;rintro e w' ⟨rfl,rfl⟩)
   go_meet
   exact⟨congrArg Value.bool (by simp[beq_iff_eq,beq_eq_false_iff_ne] at hb0;simp[aK, *]),rfl⟩
 case rest=>
 obtain⟨rfl,rfl⟩:=hcut
 go_step
 go_step
 go_cut [4] (λs4 wx=>s4=.bool (aB ⟨12,a,b,n,s,t,u⟩)∧aa ag ((w.alloc (.cells #[I J 12,I J a,I J b,I J n,V s,V t,V u] 42)).alloc (.cells #[I J 12,I J a,I J 0,I J 0,V {data:=#[]},V {data:=#[]},V {data:=#[]}] 42)) wx)
 case first=>
  skip
  all_goals
   go_wp2_with (first
    | (go_at_call 127;refine(aV _ _).mono ?_;rintro e w' ⟨rfl,rfl⟩)
    | fail)
  all_goals
   go_meet
   exact⟨congrArg Value.bool (by simp[aB,mr, *]),ar⟩
 case rest=>
 obtain⟨rfl,ar⟩:=hcut;obtain⟨d0,d1,d2,d3,d4,d5,d6⟩:=az (HC _ ar).1;obtain⟨x0,x1,x2,x3,x4,x5,x6⟩:=az (HC _ ar).2
 cases hrt:aB ⟨12,a,b,n,s,t,u⟩
 all_goals
  go_wp2_with fail
 all_goals
  go_ret;refine⟨af ?_,by first|exact HF.out.trans ar|exact HF.out⟩;clear HC HF ar;rw[aM,pV,hrt];simp[aS,eS, *]
theorem zv(a b n:Int)(s t u:ByteArray)(w:World):Calls pQ 71 #[bQ ⟨13,a,b,n,s,t,u⟩] w λr w'=>r=.returned (.bool (aM ⟨13,a,b,n,s,t,u⟩))∧aa ag w w':=by
 have tC:=fR ((w.alloc (.cells #[I J 13,I J a,I J b,I J n,V s,V t,V u] 42)).alloc (.cells #[I J 13,I J 0,I J 0,I J n,V {data:=#[]},V {data:=#[]},V {data:=#[]}] 42));have ar:=tC.drew;have HC:=λW (h:aa ag ((w.alloc (.cells #[I J 13,I J a,I J b,I J n,V s,V t,V u] 42)).alloc (.cells #[I J 13,I J 0,I J 0,I J n,V {data:=#[]},V {data:=#[]},V {data:=#[]}] 42)) W)=>ft h
 have HF:Hid (aa ag w ((w.alloc (.cells #[I J 13,I J a,I J b,I J n,V s,V t,V u] 42)).alloc (.cells #[I J 13,I J 0,I J 0,I J n,V {data:=#[]},V {data:=#[]},V {data:=#[]}] 42))):=((fR w).alloc _).alloc _;have hg:pQ.eqGuardType pQ.depth 42=false:=by kernel_rfl
 unfold bQ;go_enter Tryz.func71,Tryz.ntmps71
 go_upto_region 3 with ((go_at_call 127;refine(aV _ _).mono ?_;rintro e w' ⟨rfl,rfl⟩))
 go_cut [5] (λs5 wx=>s5=.bool (aW n)∧wx=((w.alloc (.cells #[I J 13,I J a,I J b,I J n,V s,V t,V u] 42)).alloc (.cells #[I J 13,I J a,I J 0,I J 0,V {data:=#[]},V {data:=#[]},V {data:=#[]}] 42)))
 case first=>
  cases hb0:(n==0)
  all_goals
   cases hb1:(n==1)
   all_goals
    go_wp2_with fail
    go_meet
    exact⟨congrArg Value.bool (by simp[aW,beq_iff_eq,beq_eq_false_iff_ne] at *;simp[aW, *]),rfl⟩
 case rest=>
 obtain⟨rfl,rfl⟩:=hcut
 go_upto_region 4 with fail
 go_cut [6] (λs6 wx=>s6=.bool (aK b)∧wx=((w.alloc (.cells #[I J 13,I J a,I J b,I J n,V s,V t,V u] 42)).alloc (.cells #[I J 13,I J a,I J 0,I J 0,V {data:=#[]},V {data:=#[]},V {data:=#[]}] 42)))
 case first=>
  cases hb0:(b==0)
  all_goals
   go_wp2_with (go_at_call 127;refine(aV _ _).mono ?_;rintro e w' ⟨rfl,rfl⟩)
   go_meet
   exact⟨congrArg Value.bool (by simp[beq_iff_eq,beq_eq_false_iff_ne] at hb0;simp[aK, *]),rfl⟩
 case rest=>
 obtain⟨rfl,rfl⟩:=hcut
 go_step
 go_step
 go_cut [4] (λs4 wx=>s4=.bool (aB ⟨13,a,b,n,s,t,u⟩)∧aa ag ((w.alloc (.cells #[I J 13,I J a,I J b,I J n,V s,V t,V u] 42)).alloc (.cells #[I J 13,I J 0,I J 0,I J n,V {data:=#[]},V {data:=#[]},V {data:=#[]}] 42)) wx)
 case first=>
  skip
  all_goals
   go_wp2_with (first
    | (go_at_call 127;refine(aV _ _).mono ?_;rintro e w' ⟨rfl,rfl⟩)
    | (go_at_call 107;refine(vR _ _).mono ?_;rintro e w' ⟨rfl,hf'⟩;replace ar:=ar.trans hf';obtain⟨d0,d1,d2,d3,d4,d5,d6⟩:=az (HC _ ar).1;clear hf')
    | fail)
   go_region
   go_wp2_with (first
    | (go_at_call 127;refine(aV _ _).mono ?_;rintro e w' ⟨rfl,rfl⟩)
    | (go_at_call 107;refine(vR _ _).mono ?_;rintro e w' ⟨rfl,hf'⟩;replace ar:=ar.trans hf';obtain⟨d0,d1,d2,d3,d4,d5,d6⟩:=az (HC _ ar).1;clear hf')
    | fail)
  all_goals
   go_meet
   exact⟨congrArg Value.bool (by simp[aB,mr, *]),ar⟩
 case rest=>
 obtain⟨rfl,ar⟩:=hcut;obtain⟨d0,d1,d2,d3,d4,d5,d6⟩:=az (HC _ ar).1;obtain⟨x0,x1,x2,x3,x4,x5,x6⟩:=az (HC _ ar).2
 cases hrt:aB ⟨13,a,b,n,s,t,u⟩
 all_goals
  go_wp2_with fail
 all_goals
  go_ret;refine⟨af ?_,by first|exact HF.out.trans ar|exact HF.out⟩;clear HC HF ar;rw[aM,pV,hrt];simp[aS,eS, *]
theorem wP(e:Ev)(w:World):Calls pQ 71 #[bQ e] w λr w'=>r=.returned (.bool (aM e))∧aa ag w w':=by
 by_cases hk:1≤e.kind∧e.kind≤13
 ·obtain⟨k,a,b,n,s,t,u⟩:=e
  simp only at hk;rcases(by omega:k=1∨k=2∨k=3∨k=4∨k=5∨k=6∨k=7∨k=8∨k=9∨k=10∨k=11∨k=12∨k=13) with rfl|rfl|rfl|rfl|rfl|rfl|rfl|rfl|rfl|rfl|rfl|rfl|rfl
  ·exact BC a b n s t u w
  ·exact BD a b n s t u w
  ·exact BF a b n s t u w
  ·exact BG a b n s t u w
  ·exact BH a b n s t u w
  ·exact BI a b n s t u w
  ·exact BJ a b n s t u w
  ·exact BK a b n s t u w
  ·exact BL a b n s t u w
  ·exact zo a b n s t u w
  ·exact zr a b n s t u w
  ·exact zu a b n s t u w
  ·exact zv a b n s t u w
 ·have:aM e=false:=by unfold aM;rw[sr hk];rfl
  rw[this];exact BB e.kind e.a e.b e.n e.s e.t e.u w hk
end Go.Proofs.YtaecjmiobllhmaaGreat
