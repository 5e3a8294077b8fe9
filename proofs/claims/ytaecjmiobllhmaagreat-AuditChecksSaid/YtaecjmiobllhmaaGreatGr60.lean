/- Words. -/
import Derived.Test.YtaecjmiobllhmaaGreatGr11
import Derived.Deep.Cut
import Derived.Deep.CutRange
import Derived.Deep.DeepCutAuto
set_option linter.unusedVariables false
set_option linter.unusedSimpArgs false
set_option maxRecDepth 100000
set_option maxHeartbeats 16000000
namespace Go.Proofs.YtaecjmiobllhmaaGreat
open Go.Value renaming int→I,string→V
open Go.IntKind renaming i64→J
open Tryz renaming prog→pQ
open Go.RowKit Go.Lib
theorem pV(e e':Ev):decide (e=e')=(decide (e.kind=e'.kind)&&(decide (e.a=e'.a)&&(decide (e.b=e'.b)&&(decide (e.n=e'.n)&&(decide (e.s.toList=e'.s.toList)&&(decide (e.t.toList=e'.t.toList)&&decide (e.u.toList=e'.u.toList))))))):=by
 rw[A6];simp only[dW]
theorem mr(s:ByteArray):kF s=(!s.toList.isEmpty&&pD s):=by
 unfold kF
 by_cases h:s=eS
 ·subst h
  simp[yE]
 ·have:=mt fx.1 h
  simp[h,this]
theorem ft{w W:World}{k a b n k' a' b' n':Int}{s t u s' t' u':ByteArray}(h:aa ag ((w.alloc (.cells #[I J k,I J a,I J b,I J n,V s,V t,V u] 42)).alloc (.cells #[I J k',I J a',I J b',I J n',V s',V t',V u'] 42)) W):
  aj W w.heap.size 42 #[I J k,I J a,I J b,I J n,V s,V t,V u]∧aj W (w.heap.size+1) 42 #[I J k',I J a',I J b',I J n',V s',V t',V u']:=by
 have hb1:=((aj.new w 42 #[I J k,I J a,I J b,I J n,V s,V t,V u]).alloc (.cells #[I J k',I J a',I J b',I J n',V s',V t',V u'] 42)).frm h id;have hb2:=(aj.new (w.alloc (.cells #[I J k,I J a,I J b,I J n,V s,V t,V u] 42)) 42 #[I J k',I J a',I J b',I J n',V s',V t',V u']).frm h id;simp at hb2;exact⟨hb1,hb2⟩
theorem BB(k a b n:Int)(s t u:ByteArray)(w:World)(hk:¬(1≤k∧k≤13)):Calls pQ 71 #[bQ ⟨k,a,b,n,s,t,u⟩] w λr w'=>r=.returned (.bool false)∧aa ag w w':=by
 have HF:Hid (aa ag w ((w.alloc (.cells #[I J k,I J a,I J b,I J n,V s,V t,V u] 42)).alloc (.cells #[I J k,I J a,I J 0,I J 0,V {data:=#[]},V {data:=#[]},V {data:=#[]}] 42))):=((fR w).alloc _).alloc _;have b1:(k==1)=false:=by simp;omega
 have b2:(k==2)=false:=by simp;omega
 have b3:(k==3)=false:=by simp;omega
 have b4:(k==4)=false:=by simp;omega
 have b5:(k==5)=false:=by simp;omega
 have b6:(k==6)=false:=by simp;omega
 have b7:(k==7)=false:=by simp;omega
 have b8:(k==8)=false:=by simp;omega
 have b9:(k==9)=false:=by simp;omega
 have Tb:(k==10)=false:=by simp;omega
 have Tc:(k==11)=false:=by simp;omega
 have Td:(k==12)=false:=by simp;omega
 have Te:(k==13)=false:=by simp;omega
 clear hk;unfold bQ;go_enter Tryz.func71,Tryz.ntmps71;go_wp2_with (go_at_call 127;refine(aV _ _).mono ?_;rintro e w' ⟨rfl,rfl⟩)
 all_goals
  subst_vars
  go_ret;exact⟨rfl,HF.out⟩
theorem BC(a b n:Int)(s t u:ByteArray)(w:World):Calls pQ 71 #[bQ ⟨1,a,b,n,s,t,u⟩] w λr w'=>r=.returned (.bool (aM ⟨1,a,b,n,s,t,u⟩))∧aa ag w w':=by
 have tC:=fR ((w.alloc (.cells #[I J 1,I J a,I J b,I J n,V s,V t,V u] 42)).alloc (.cells #[I J 1,I J a,I J b,I J 0,V s,V {data:=#[]},V {data:=#[]}] 42));have ar:=tC.drew;have HC:=λW (h:aa ag ((w.alloc (.cells #[I J 1,I J a,I J b,I J n,V s,V t,V u] 42)).alloc (.cells #[I J 1,I J a,I J b,I J 0,V s,V {data:=#[]},V {data:=#[]}] 42)) W)=>ft h
 have HF:Hid (aa ag w ((w.alloc (.cells #[I J 1,I J a,I J b,I J n,V s,V t,V u] 42)).alloc (.cells #[I J 1,I J a,I J b,I J 0,V s,V {data:=#[]},V {data:=#[]}] 42))):=((fR w).alloc _).alloc _;have hg:pQ.eqGuardType pQ.depth 42=false:=by kernel_rfl
 unfold bQ;go_enter Tryz.func71,Tryz.ntmps71
 go_upto_region 3 with ((go_at_call 127;refine(aV _ _).mono ?_;rintro e w' ⟨rfl,rfl⟩))
 go_cut [5] (λs5 wx=>s5=.bool (aW n)∧wx=((w.alloc (.cells #[I J 1,I J a,I J b,I J n,V s,V t,V u] 42)).alloc (.cells #[I J 1,I J a,I J 0,I J 0,V {data:=#[]},V {data:=#[]},V {data:=#[]}] 42)))
 case first=>
  cases hb0:(n==0)
  all_goals
   cases hb1:(n==1)
   all_goals
    go_wp2_with fail
    go_meet
    exact⟨congrArg Value.bool (by simp[aW,beq_iff_eq,beq_eq_false_iff_ne] at *;simp[aW, *]),rfl⟩
 case rest=>
 obtain⟨rfl,rfl⟩:=hcut
 go_upto_region 4 with fail
 go_cut [6] (λs6 wx=>s6=.bool (aK b)∧wx=((w.alloc (.cells #[I J 1,I J a,I J b,I J n,V s,V t,V u] 42)).alloc (.cells #[I J 1,I J a,I J 0,I J 0,V {data:=#[]},V {data:=#[]},V {data:=#[]}] 42)))
 case first=>
  cases hb0:(b==0)
  all_goals
   go_wp2_with (go_at_call 127;refine(aV _ _).mono ?_;rintro e w' ⟨rfl,rfl⟩)
   go_meet
   exact⟨congrArg Value.bool (by simp[beq_iff_eq,beq_eq_false_iff_ne] at hb0;simp[aK, *]),rfl⟩
 case rest=>
 obtain⟨rfl,rfl⟩:=hcut
 cases Rf:aK b
 all_goals
  go_step
  go_step
  go_cut [4] (λs4 wx=>s4=.bool (aB ⟨1,a,b,n,s,t,u⟩)∧aa ag ((w.alloc (.cells #[I J 1,I J a,I J b,I J n,V s,V t,V u] 42)).alloc (.cells #[I J 1,I J a,I J b,I J 0,V s,V {data:=#[]},V {data:=#[]}] 42)) wx)
  case first=>
   skip
   all_goals
    go_wp2_with (first
     | (go_at_call 127;refine(aV _ _).mono ?_;rintro e w' ⟨rfl,rfl⟩)
     | (go_at_call 128;refine(nJ _ _).mono ?_;rintro e w' ⟨rfl,hf'⟩;replace ar:=ar.trans hf';obtain⟨d0,d1,d2,d3,d4,d5,d6⟩:=az (HC _ ar).1;clear hf')
     | fail)
    go_region
    go_wp2_with (first
     | (go_at_call 127;refine(aV _ _).mono ?_;rintro e w' ⟨rfl,rfl⟩)
     | (go_at_call 128;refine(nJ _ _).mono ?_;rintro e w' ⟨rfl,hf'⟩;replace ar:=ar.trans hf';obtain⟨d0,d1,d2,d3,d4,d5,d6⟩:=az (HC _ ar).1;clear hf')
     | fail)
   all_goals
    go_meet
    exact⟨congrArg Value.bool (by simp[aB,mr, *]),ar⟩
  case rest=>
  obtain⟨rfl,ar⟩:=hcut;obtain⟨d0,d1,d2,d3,d4,d5,d6⟩:=az (HC _ ar).1;obtain⟨x0,x1,x2,x3,x4,x5,x6⟩:=az (HC _ ar).2
  cases hrt:aB ⟨1,a,b,n,s,t,u⟩
  all_goals
   go_wp2_with fail
  all_goals
   go_ret;refine⟨af ?_,by first|exact HF.out.trans ar|exact HF.out⟩;clear HC HF ar;rw[aM,pV,hrt];simp[aS,eS, *]
theorem BD(a b n:Int)(s t u:ByteArray)(w:World):Calls pQ 71 #[bQ ⟨2,a,b,n,s,t,u⟩] w λr w'=>r=.returned (.bool (aM ⟨2,a,b,n,s,t,u⟩))∧aa ag w w':=by
 have ar:=fR ((w.alloc (.cells #[I J 2,I J a,I J b,I J n,V s,V t,V u] 42)).alloc (.cells #[I J 2,I J a,I J 0,I J 0,V {data:=#[]},V {data:=#[]},V {data:=#[]}] 42));have HC:=λW (h:aa ag ((w.alloc (.cells #[I J 2,I J a,I J b,I J n,V s,V t,V u] 42)).alloc (.cells #[I J 2,I J a,I J 0,I J 0,V {data:=#[]},V {data:=#[]},V {data:=#[]}] 42)) W)=>ft h
 have HF:Hid (aa ag w ((w.alloc (.cells #[I J 2,I J a,I J b,I J n,V s,V t,V u] 42)).alloc (.cells #[I J 2,I J a,I J 0,I J 0,V {data:=#[]},V {data:=#[]},V {data:=#[]}] 42))):=((fR w).alloc _).alloc _;have hg:pQ.eqGuardType pQ.depth 42=false:=by kernel_rfl
 unfold bQ;go_enter Tryz.func71,Tryz.ntmps71
 go_upto_region 3 with ((go_at_call 127;refine(aV _ _).mono ?_;rintro e w' ⟨rfl,rfl⟩))
 go_cut [5] (λs5 wx=>s5=.bool (aW n)∧wx=((w.alloc (.cells #[I J 2,I J a,I J b,I J n,V s,V t,V u] 42)).alloc (.cells #[I J 2,I J a,I J 0,I J 0,V {data:=#[]},V {data:=#[]},V {data:=#[]}] 42)))
 case first=>
  cases hb0:(n==0)
  all_goals
   cases hb1:(n==1)
   all_goals
    go_wp2_with fail
    go_meet
    exact⟨congrArg Value.bool (by simp[aW,beq_iff_eq,beq_eq_false_iff_ne] at *;simp[aW, *]),rfl⟩
 case rest=>
 obtain⟨rfl,rfl⟩:=hcut
 go_upto_region 4 with fail
 go_cut [6] (λs6 wx=>s6=.bool (aK b)∧wx=((w.alloc (.cells #[I J 2,I J a,I J b,I J n,V s,V t,V u] 42)).alloc (.cells #[I J 2,I J a,I J 0,I J 0,V {data:=#[]},V {data:=#[]},V {data:=#[]}] 42)))
 case first=>
  cases hb0:(b==0)
  all_goals
   go_wp2_with (go_at_call 127;refine(aV _ _).mono ?_;rintro e w' ⟨rfl,rfl⟩)
   go_meet
   exact⟨congrArg Value.bool (by simp[beq_iff_eq,beq_eq_false_iff_ne] at hb0;simp[aK, *]),rfl⟩
 case rest=>
 obtain⟨rfl,rfl⟩:=hcut
 go_step
 go_step
 go_cut [4] (λs4 wx=>s4=.bool (aB ⟨2,a,b,n,s,t,u⟩)∧aa ag ((w.alloc (.cells #[I J 2,I J a,I J b,I J n,V s,V t,V u] 42)).alloc (.cells #[I J 2,I J a,I J 0,I J 0,V {data:=#[]},V {data:=#[]},V {data:=#[]}] 42)) wx)
 case first=>
  skip
  all_goals
   go_wp2_with (first
    | (go_at_call 127;refine(aV _ _).mono ?_;rintro e w' ⟨rfl,rfl⟩)
    | fail)
  all_goals
   go_meet
   exact⟨congrArg Value.bool (by simp[aB,mr, *]),ar⟩
 case rest=>
 obtain⟨rfl,ar⟩:=hcut;obtain⟨d0,d1,d2,d3,d4,d5,d6⟩:=az (HC _ ar).1;obtain⟨x0,x1,x2,x3,x4,x5,x6⟩:=az (HC _ ar).2
 cases hrt:aB ⟨2,a,b,n,s,t,u⟩
 all_goals
  go_wp2_with fail
 all_goals
  go_ret;refine⟨af ?_,by first|exact HF.out.trans ar|exact HF.out⟩;clear HC HF ar;rw[aM,pV,hrt];simp[aS,eS, *]
theorem BF(a b n:Int)(s t u:ByteArray)(w:World):Calls pQ 71 #[bQ ⟨3,a,b,n,s,t,u⟩] w λr w'=>r=.returned (.bool (aM ⟨3,a,b,n,s,t,u⟩))∧aa ag w w':=by
 have tC:=fR ((w.alloc (.cells #[I J 3,I J a,I J b,I J n,V s,V t,V u] 42)).alloc (.cells #[I J 3,I J a,I J b,I J 0,V s,V t,V {data:=#[]}] 42));have ar:=tC.drew;have HC:=λW (h:aa ag ((w.alloc (.cells #[I J 3,I J a,I J b,I J n,V s,V t,V u] 42)).alloc (.cells #[I J 3,I J a,I J b,I J 0,V s,V t,V {data:=#[]}] 42)) W)=>ft h
 have HF:Hid (aa ag w ((w.alloc (.cells #[I J 3,I J a,I J b,I J n,V s,V t,V u] 42)).alloc (.cells #[I J 3,I J a,I J b,I J 0,V s,V t,V {data:=#[]}] 42))):=((fR w).alloc _).alloc _;have hg:pQ.eqGuardType pQ.depth 42=false:=by kernel_rfl
 unfold bQ;go_enter Tryz.func71,Tryz.ntmps71
 go_upto_region 3 with ((go_at_call 127;refine(aV _ _).mono ?_;rintro e w' ⟨rfl,rfl⟩))
 go_cut [5] (λs5 wx=>s5=.bool (aW n)∧wx=((w.alloc (.cells #[I J 3,I J a,I J b,I J n,V s,V t,V u] 42)).alloc (.cells #[I J 3,I J a,I J 0,I J 0,V {data:=#[]},V {data:=#[]},V {data:=#[]}] 42)))
 case first=>
  cases hb0:(n==0)
  all_goals
   cases hb1:(n==1)
   all_goals
    go_wp2_with fail
    go_meet
    exact⟨congrArg Value.bool (by simp[aW,beq_iff_eq,beq_eq_false_iff_ne] at *;simp[aW, *]),rfl⟩
 case rest=>
 obtain⟨rfl,rfl⟩:=hcut
 go_upto_region 4 with fail
 go_cut [6] (λs6 wx=>s6=.bool (aK b)∧wx=((w.alloc (.cells #[I J 3,I J a,I J b,I J n,V s,V t,V u] 42)).alloc (.cells #[I J 3,I J a,I J 0,I J 0,V {data:=#[]},V {data:=#[]},V {data:=#[]}] 42)))
 case first=>
  cases hb0:(b==0)
  all_goals
   go_wp2_with (go_at_call 127;refine(aV _ _).mono ?_;rintro e w' ⟨rfl,rfl⟩)
   go_meet
   exact⟨congrArg Value.bool (by simp[beq_iff_eq,beq_eq_false_iff_ne] at hb0;simp[aK, *]),rfl⟩
 case rest=>
 obtain⟨rfl,rfl⟩:=hcut
 cases Rf:aK b
 all_goals
  go_step
  go_step
  go_cut [4] (λs4 wx=>s4=.bool (aB ⟨3,a,b,n,s,t,u⟩)∧aa ag ((w.alloc (.cells #[I J 3,I J a,I J b,I J n,V s,V t,V u] 42)).alloc (.cells #[I J 3,I J a,I J b,I J 0,V s,V t,V {data:=#[]}] 42)) wx)
  case first=>
   skip
   all_goals
    go_wp2_with (first
     | (go_at_call 127;refine(aV _ _).mono ?_;rintro e w' ⟨rfl,rfl⟩)
     | (go_at_call 129;refine(ub _ _).mono ?_;rintro e w' ⟨rfl,hf'⟩;replace ar:=ar.trans hf';obtain⟨d0,d1,d2,d3,d4,d5,d6⟩:=az (HC _ ar).1;clear hf')
     | (go_at_call 130;refine(qi _ _).mono ?_;rintro e w' ⟨rfl,hf'⟩;replace ar:=ar.trans hf';obtain⟨d0,d1,d2,d3,d4,d5,d6⟩:=az (HC _ ar).1;clear hf')
     | fail)
    go_region
    go_wp2_with (first
     | (go_at_call 127;refine(aV _ _).mono ?_;rintro e w' ⟨rfl,rfl⟩)
     | (go_at_call 129;refine(ub _ _).mono ?_;rintro e w' ⟨rfl,hf'⟩;replace ar:=ar.trans hf';obtain⟨d0,d1,d2,d3,d4,d5,d6⟩:=az (HC _ ar).1;clear hf')
     | (go_at_call 130;refine(qi _ _).mono ?_;rintro e w' ⟨rfl,hf'⟩;replace ar:=ar.trans hf';obtain⟨d0,d1,d2,d3,d4,d5,d6⟩:=az (HC _ ar).1;clear hf')
     | fail)
   all_goals
    go_meet
    exact⟨congrArg Value.bool (by simp[aB,mr, *]),ar⟩
  case rest=>
  obtain⟨rfl,ar⟩:=hcut;obtain⟨d0,d1,d2,d3,d4,d5,d6⟩:=az (HC _ ar).1;obtain⟨x0,x1,x2,x3,x4,x5,x6⟩:=az (HC _ ar).2
  cases hrt:aB ⟨3,a,b,n,s,t,u⟩
  all_goals
   go_wp2_with fail
  all_goals
   go_ret;refine⟨af ?_,by first|exact HF.out.trans ar|exact HF.out⟩;clear HC HF ar;rw[aM,pV,hrt];simp[aS,eS, *]
theorem BG(a b n:Int)(s t u:ByteArray)(w:World):Calls pQ 71 #[bQ ⟨4,a,b,n,s,t,u⟩] w λr w'=>r=.returned (.bool (aM ⟨4,a,b,n,s,t,u⟩))∧aa ag w w':=by
 have ar:=fR ((w.alloc (.cells #[I J 4,I J a,I J b,I J n,V s,V t,V u] 42)).alloc (.cells #[I J 4,I J a,I J 0,I J 0,V {data:=#[]},V {data:=#[]},V {data:=#[]}] 42));have HC:=λW (h:aa ag ((w.alloc (.cells #[I J 4,I J a,I J b,I J n,V s,V t,V u] 42)).alloc (.cells #[I J 4,I J a,I J 0,I J 0,V {data:=#[]},V {data:=#[]},V {data:=#[]}] 42)) W)=>ft h
 have HF:Hid (aa ag w ((w.alloc (.cells #[I J 4,I J a,I J b,I J n,V s,V t,V u] 42)).alloc (.cells #[I J 4,I J a,I J 0,I J 0,V {data:=#[]},V {data:=#[]},V {data:=#[]}] 42))):=((fR w).alloc _).alloc _;have hg:pQ.eqGuardType pQ.depth 42=false:=by kernel_rfl
 unfold bQ;go_enter Tryz.func71,Tryz.ntmps71
 go_upto_region 3 with ((go_at_call 127;refine(aV _ _).mono ?_;rintro e w' ⟨rfl,rfl⟩))
 go_cut [5] (λs5 wx=>s5=.bool (aW n)∧wx=((w.alloc (.cells #[I J 4,I J a,I J b,I J n,V s,V t,V u] 42)).alloc (.cells #[I J 4,I J a,I J 0,I J 0,V {data:=#[]},V {data:=#[]},V {data:=#[]}] 42)))
 case first=>
  cases hb0:(n==0)
  all_goals
   cases hb1:(n==1)
   all_goals
    go_wp2_with fail
    go_meet
    exact⟨congrArg Value.bool (by simp[aW,beq_iff_eq,beq_eq_false_iff_ne] at *;simp[aW, *]),rfl⟩
 case rest=>
 obtain⟨rfl,rfl⟩:=hcut
 go_upto_region 4 with fail
 go_cut [6] (λs6 wx=>s6=.bool (aK b)∧wx=((w.alloc (.cells #[I J 4,I J a,I J b,I J n,V s,V t,V u] 42)).alloc (.cells #[I J 4,I J a,I J 0,I J 0,V {data:=#[]},V {data:=#[]},V {data:=#[]}] 42)))
 case first=>
  cases hb0:(b==0)
  all_goals
   go_wp2_with (go_at_call 127;refine(aV _ _).mono ?_;rintro e w' ⟨rfl,rfl⟩)
   go_meet
   exact⟨congrArg Value.bool (by simp[beq_iff_eq,beq_eq_false_iff_ne] at hb0;simp[aK, *]),rfl⟩
 case rest=>
 obtain⟨rfl,rfl⟩:=hcut
 go_step
 go_step
 go_cut [4] (λs4 wx=>s4=.bool (aB ⟨4,a,b,n,s,t,u⟩)∧aa ag ((w.alloc (.cells #[I J 4,I J a,I J b,I J n,V s,V t,V u] 42)).alloc (.cells #[I J 4,I J a,I J 0,I J 0,V {data:=#[]},V {data:=#[]},V {data:=#[]}] 42)) wx)
 case first=>
  skip
  all_goals
   go_wp2_with (first
    | (go_at_call 127;refine(aV _ _).mono ?_;rintro e w' ⟨rfl,rfl⟩)
    | fail)
  all_goals
   go_meet
   exact⟨congrArg Value.bool (by simp[aB,mr, *]),ar⟩
 case rest=>
 obtain⟨rfl,ar⟩:=hcut;obtain⟨d0,d1,d2,d3,d4,d5,d6⟩:=az (HC _ ar).1;obtain⟨x0,x1,x2,x3,x4,x5,x6⟩:=az (HC _ ar).2
 cases hrt:aB ⟨4,a,b,n,s,t,u⟩
 all_goals
  go_wp2_with fail
 all_goals
  go_ret;refine⟨af ?_,by first|exact HF.out.trans ar|exact HF.out⟩;clear HC HF ar;rw[aM,pV,hrt];simp[aS,eS, *]
end Go.Proofs.YtaecjmiobllhmaaGreat
