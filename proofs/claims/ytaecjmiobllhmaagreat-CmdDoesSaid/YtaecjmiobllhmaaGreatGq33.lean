/- Words. -/
import Derived.Test.YtaecjmiobllhmaaGreatGq32
set_option linter.unusedVariables false
set_option linter.unusedSimpArgs false
set_option maxRecDepth 100000
set_option maxHeartbeats 16000000
namespace Go.Proofs.YtaecjmiobllhmaaGreat
open Go.Value renaming int→I,string→V,slice→U,pointer→O
open Go.IntKind renaming i64→J
open Tryz renaming prog→pQ
open Go.RowKit Go.Lib
variable {x:St}{w:World}{g:Nat}{M:Ms}
theorem N3{e:Ev}(h:aQ e=true):bj e.a∧bj e.b:=by
 obtain⟨k,a,b,n,s,t,u⟩:=e;simp only[aQ,aA,aU,Bool.and_eq_true,decide_eq_true_eq] at h;unfold bj
 repeat' split at h
 all_goals
  try simp only[li,aI,Bool.and_eq_true,Bool.or_eq_true,decide_eq_true_eq,Ev.mk.injEq,Bool.false_eq_true,false_and,true_and] at h
  try (revert h;simp only[and_imp];intros;omega)
theorem yt:∀{l:List Ev} {x:St},rJ x l→∀e∈l,bj e.a∧bj e.b
 | [],_,_,_,h=>by cases h
 | a::l,x,h,e,he=>by
   rcases List.mem_cons.1 he with rfl|he
   ·exact N3 (dx h.1)
   ·exact yt h.2.2 e he
theorem Jp(e:Ev)(b:Bool):(nr e b).1.length≤1024:=by unfold nr;split<;>simp
theorem DU(x:St)(e:Ev)(b:Bool):(lI x e b).1.length≤1024:=by
 unfold lI
 repeat' split
 all_goals simp
theorem GK(h:di x)(l:List Int):(jo x l).length≤1024:=by
 unfold jo;rw[List.length_map];have:=List.length_filter_le (λt:aJ=>!t.read&&l.any λi=>decide (i=t.feed)) x.itms;have:=h.iL;omega
theorem Qj{α:Type}{c:Prop} [Decidable c] {a b:α}(P:α→Prop)(ha:P a)(hb:P b):P (if c then a else b):=by split<;>assumption
theorem wO(h:di x)(c:Cm):(aB ah aC x c).1.length≤1024:=by
 unfold aB
 repeat' first
  | exact DU _ _ _
  | exact Jp _ _
  | exact GK h _
  | exact Nat.zero_le _
  | exact(show 1≤1024 by decide)
  | refine Qj (λr:List Ev×Int=>r.1.length≤1024) ?_ ?_
  | split
theorem GL(h:di x)(i:Int):(dF x i).length≤1000:=by
 unfold dF;split
 ·rw[List.length_map]
  have:=List.length_filter_le (λf:aP=>bD x f.inn i) x.fees;have:=h.eL;omega
 ·simp
theorem GM(h:aw w g M x)(a b n:Int)(s t:ByteArray)(hc:mE ⟨1,a,b,n,s,t⟩):
  Calls pQ 20 #[O (some ⟨g,0,none⟩),.agg #[I J 1,I J a,I J b,I J n,V s,V t]] w (bm w (aB ah aC x ⟨1,a,b,n,s,t⟩)):=by
 have K:Hid (∀W,aa ac w W→Calls pQ 44 #[O (some ⟨g,0,none⟩),.agg #[I J 1,I J a,I J b,I J n,V s,V t]] W (bm W (aB ah aC x ⟨1,a,b,n,s,t⟩))):=λW hW=>xH (h.nix hW) _ _ _ _ _ hc
 have dw:Hid (∀W,aa ac (w.alloc (.cells #[I J 1,I J a,I J b,I J n,V s,V t] 49)) W→ai W w.heap.size 49 #[I J 1,I J a,I J b,I J n,V s,V t]):=λW hW=>(ai.new w 49 #[I J 1,I J a,I J b,I J n,V s,V t]).frm hW id
 have eu:Hid (aa ac w (w.alloc (.cells #[I J 1,I J a,I J b,I J n,V s,V t] 49))):=(fR w).alloc _;clear h hc;generalize aB ah aC x ⟨1,a,b,n,s,t⟩=r at *;go_enter Tryz.func20,Tryz.ntmps20;go_wp2_with (first|(go_at_call 44;refine(K.out _ eu.out).mono ?_;rintro e w4 ⟨v,rfl,dL,hf⟩;have Z4:Hid (aa ac w w4):=eu.out.trans hf;have kL:=h_ (dL.mono (G':=λk=>w.heap.size≤k) λk hk=>by(have h2:=eu.out.size;have hk2:=hk;(try simp at hk2 h2);omega));clear dL hf)|fail)
 go_ret2
 exact⟨v,rfl,kL.out,Z4.out⟩
theorem GN(h:aw w g M x)(a b n:Int)(s t:ByteArray)(hc:mE ⟨2,a,b,n,s,t⟩):
  Calls pQ 20 #[O (some ⟨g,0,none⟩),.agg #[I J 2,I J a,I J b,I J n,V s,V t]] w (bm w (aB ah aC x ⟨2,a,b,n,s,t⟩)):=by
 have K:Hid (∀W,aa ac w W→Calls pQ 44 #[O (some ⟨g,0,none⟩),.agg #[I J 2,I J a,I J b,I J n,V s,V t]] W (bm W (aB ah aC x ⟨2,a,b,n,s,t⟩))):=λW hW=>xI (h.nix hW) _ _ _ _ _ hc
 have dw:Hid (∀W,aa ac (w.alloc (.cells #[I J 2,I J a,I J b,I J n,V s,V t] 49)) W→ai W w.heap.size 49 #[I J 2,I J a,I J b,I J n,V s,V t]):=λW hW=>(ai.new w 49 #[I J 2,I J a,I J b,I J n,V s,V t]).frm hW id
 have eu:Hid (aa ac w (w.alloc (.cells #[I J 2,I J a,I J b,I J n,V s,V t] 49))):=(fR w).alloc _;clear h hc;generalize aB ah aC x ⟨2,a,b,n,s,t⟩=r at *;go_enter Tryz.func20,Tryz.ntmps20;go_wp2_with (first|(go_at_call 44;refine(K.out _ eu.out).mono ?_;rintro e w4 ⟨v,rfl,dL,hf⟩;have Z4:Hid (aa ac w w4):=eu.out.trans hf;have kL:=h_ (dL.mono (G':=λk=>w.heap.size≤k) λk hk=>by(have h2:=eu.out.size;have hk2:=hk;(try simp at hk2 h2);omega));clear dL hf)|fail)
 go_ret2
 exact⟨v,rfl,kL.out,Z4.out⟩
theorem GP(h:aw w g M x)(a b n:Int)(s t:ByteArray)(hc:mE ⟨3,a,b,n,s,t⟩):
  Calls pQ 20 #[O (some ⟨g,0,none⟩),.agg #[I J 3,I J a,I J b,I J n,V s,V t]] w (bm w (aB ah aC x ⟨3,a,b,n,s,t⟩)):=by
 have K:Hid (∀W,aa ac w W→Calls pQ 45 #[O (some ⟨g,0,none⟩),.agg #[I J 3,I J a,I J b,I J n,V s,V t]] W (bm W (aB ah aC x ⟨3,a,b,n,s,t⟩))):=λW hW=>BV (h.nix hW) _ _ _ _ _ hc
 have dw:Hid (∀W,aa ac (w.alloc (.cells #[I J 3,I J a,I J b,I J n,V s,V t] 49)) W→ai W w.heap.size 49 #[I J 3,I J a,I J b,I J n,V s,V t]):=λW hW=>(ai.new w 49 #[I J 3,I J a,I J b,I J n,V s,V t]).frm hW id
 have eu:Hid (aa ac w (w.alloc (.cells #[I J 3,I J a,I J b,I J n,V s,V t] 49))):=(fR w).alloc _;clear h hc;generalize aB ah aC x ⟨3,a,b,n,s,t⟩=r at *;go_enter Tryz.func20,Tryz.ntmps20;go_wp2_with (first|(go_at_call 45;refine(K.out _ eu.out).mono ?_;rintro e w4 ⟨v,rfl,dL,hf⟩;have Z4:Hid (aa ac w w4):=eu.out.trans hf;have kL:=h_ (dL.mono (G':=λk=>w.heap.size≤k) λk hk=>by(have h2:=eu.out.size;have hk2:=hk;(try simp at hk2 h2);omega));clear dL hf)|fail)
 go_ret2
 exact⟨v,rfl,kL.out,Z4.out⟩
theorem GQ(h:aw w g M x)(a b n:Int)(s t:ByteArray)(hc:mE ⟨4,a,b,n,s,t⟩):
  Calls pQ 20 #[O (some ⟨g,0,none⟩),.agg #[I J 4,I J a,I J b,I J n,V s,V t]] w (bm w (aB ah aC x ⟨4,a,b,n,s,t⟩)):=by
 have K:Hid (∀W,aa ac w W→Calls pQ 45 #[O (some ⟨g,0,none⟩),.agg #[I J 4,I J a,I J b,I J n,V s,V t]] W (bm W (aB ah aC x ⟨4,a,b,n,s,t⟩))):=λW hW=>pD (h.nix hW) _ _ _ _ _ _ hc (.inl rfl)
 have dw:Hid (∀W,aa ac (w.alloc (.cells #[I J 4,I J a,I J b,I J n,V s,V t] 49)) W→ai W w.heap.size 49 #[I J 4,I J a,I J b,I J n,V s,V t]):=λW hW=>(ai.new w 49 #[I J 4,I J a,I J b,I J n,V s,V t]).frm hW id
 have eu:Hid (aa ac w (w.alloc (.cells #[I J 4,I J a,I J b,I J n,V s,V t] 49))):=(fR w).alloc _;clear h hc;generalize aB ah aC x ⟨4,a,b,n,s,t⟩=r at *;go_enter Tryz.func20,Tryz.ntmps20;go_wp2_with (first|(go_at_call 45;refine(K.out _ eu.out).mono ?_;rintro e w4 ⟨v,rfl,dL,hf⟩;have Z4:Hid (aa ac w w4):=eu.out.trans hf;have kL:=h_ (dL.mono (G':=λk=>w.heap.size≤k) λk hk=>by(have h2:=eu.out.size;have hk2:=hk;(try simp at hk2 h2);omega));clear dL hf)|fail)
 go_ret2
 exact⟨v,rfl,kL.out,Z4.out⟩
theorem GR(h:aw w g M x)(a b n:Int)(s t:ByteArray)(hc:mE ⟨5,a,b,n,s,t⟩):
  Calls pQ 20 #[O (some ⟨g,0,none⟩),.agg #[I J 5,I J a,I J b,I J n,V s,V t]] w (bm w (aB ah aC x ⟨5,a,b,n,s,t⟩)):=by
 have K:Hid (∀W,aa ac w W→Calls pQ 45 #[O (some ⟨g,0,none⟩),.agg #[I J 5,I J a,I J b,I J n,V s,V t]] W (bm W (aB ah aC x ⟨5,a,b,n,s,t⟩))):=λW hW=>pD (h.nix hW) _ _ _ _ _ _ hc (.inr (.inl rfl))
 have dw:Hid (∀W,aa ac (w.alloc (.cells #[I J 5,I J a,I J b,I J n,V s,V t] 49)) W→ai W w.heap.size 49 #[I J 5,I J a,I J b,I J n,V s,V t]):=λW hW=>(ai.new w 49 #[I J 5,I J a,I J b,I J n,V s,V t]).frm hW id
 have eu:Hid (aa ac w (w.alloc (.cells #[I J 5,I J a,I J b,I J n,V s,V t] 49))):=(fR w).alloc _;clear h hc;generalize aB ah aC x ⟨5,a,b,n,s,t⟩=r at *;go_enter Tryz.func20,Tryz.ntmps20;go_wp2_with (first|(go_at_call 45;refine(K.out _ eu.out).mono ?_;rintro e w4 ⟨v,rfl,dL,hf⟩;have Z4:Hid (aa ac w w4):=eu.out.trans hf;have kL:=h_ (dL.mono (G':=λk=>w.heap.size≤k) λk hk=>by(have h2:=eu.out.size;have hk2:=hk;(try simp at hk2 h2);omega));clear dL hf)|fail)
 go_ret2
 exact⟨v,rfl,kL.out,Z4.out⟩
theorem GS(h:aw w g M x)(a b n:Int)(s t:ByteArray)(hc:mE ⟨6,a,b,n,s,t⟩):
  Calls pQ 20 #[O (some ⟨g,0,none⟩),.agg #[I J 6,I J a,I J b,I J n,V s,V t]] w (bm w (aB ah aC x ⟨6,a,b,n,s,t⟩)):=by
 have K:Hid (∀W,aa ac w W→Calls pQ 45 #[O (some ⟨g,0,none⟩),.agg #[I J 6,I J a,I J b,I J n,V s,V t]] W (bm W (aB ah aC x ⟨6,a,b,n,s,t⟩))):=λW hW=>pD (h.nix hW) _ _ _ _ _ _ hc (.inr (.inr rfl))
 have dw:Hid (∀W,aa ac (w.alloc (.cells #[I J 6,I J a,I J b,I J n,V s,V t] 49)) W→ai W w.heap.size 49 #[I J 6,I J a,I J b,I J n,V s,V t]):=λW hW=>(ai.new w 49 #[I J 6,I J a,I J b,I J n,V s,V t]).frm hW id
 have eu:Hid (aa ac w (w.alloc (.cells #[I J 6,I J a,I J b,I J n,V s,V t] 49))):=(fR w).alloc _;clear h hc;generalize aB ah aC x ⟨6,a,b,n,s,t⟩=r at *;go_enter Tryz.func20,Tryz.ntmps20;go_wp2_with (first|(go_at_call 45;refine(K.out _ eu.out).mono ?_;rintro e w4 ⟨v,rfl,dL,hf⟩;have Z4:Hid (aa ac w w4):=eu.out.trans hf;have kL:=h_ (dL.mono (G':=λk=>w.heap.size≤k) λk hk=>by(have h2:=eu.out.size;have hk2:=hk;(try simp at hk2 h2);omega));clear dL hf)|fail)
 go_ret2
 exact⟨v,rfl,kL.out,Z4.out⟩
theorem GU(h:aw w g M x)(a b n:Int)(s t:ByteArray)(hc:mE ⟨7,a,b,n,s,t⟩):
  Calls pQ 20 #[O (some ⟨g,0,none⟩),.agg #[I J 7,I J a,I J b,I J n,V s,V t]] w (bm w (aB ah aC x ⟨7,a,b,n,s,t⟩)):=by
 have K:Hid (∀W,aa ac w W→Calls pQ 46 #[O (some ⟨g,0,none⟩),.agg #[I J 7,I J a,I J b,I J n,V s,V t]] W (bm W (aB ah aC x ⟨7,a,b,n,s,t⟩))):=λW hW=>si (h.nix hW) _ _ _ _ _ _ hc (.inl rfl)
 have dw:Hid (∀W,aa ac (w.alloc (.cells #[I J 7,I J a,I J b,I J n,V s,V t] 49)) W→ai W w.heap.size 49 #[I J 7,I J a,I J b,I J n,V s,V t]):=λW hW=>(ai.new w 49 #[I J 7,I J a,I J b,I J n,V s,V t]).frm hW id
 have eu:Hid (aa ac w (w.alloc (.cells #[I J 7,I J a,I J b,I J n,V s,V t] 49))):=(fR w).alloc _;clear h hc;generalize aB ah aC x ⟨7,a,b,n,s,t⟩=r at *;go_enter Tryz.func20,Tryz.ntmps20;go_wp2_with (first|(go_at_call 46;refine(K.out _ eu.out).mono ?_;rintro e w4 ⟨v,rfl,dL,hf⟩;have Z4:Hid (aa ac w w4):=eu.out.trans hf;have kL:=h_ (dL.mono (G':=λk=>w.heap.size≤k) λk hk=>by(have h2:=eu.out.size;have hk2:=hk;(try simp at hk2 h2);omega));clear dL hf)|fail)
 go_ret2
 exact⟨v,rfl,kL.out,Z4.out⟩
theorem GV(h:aw w g M x)(a b n:Int)(s t:ByteArray)(hc:mE ⟨8,a,b,n,s,t⟩):
  Calls pQ 20 #[O (some ⟨g,0,none⟩),.agg #[I J 8,I J a,I J b,I J n,V s,V t]] w (bm w (aB ah aC x ⟨8,a,b,n,s,t⟩)):=by
 have K:Hid (∀W,aa ac w W→Calls pQ 46 #[O (some ⟨g,0,none⟩),.agg #[I J 8,I J a,I J b,I J n,V s,V t]] W (bm W (aB ah aC x ⟨8,a,b,n,s,t⟩))):=λW hW=>si (h.nix hW) _ _ _ _ _ _ hc (.inr (.inl rfl))
 have dw:Hid (∀W,aa ac (w.alloc (.cells #[I J 8,I J a,I J b,I J n,V s,V t] 49)) W→ai W w.heap.size 49 #[I J 8,I J a,I J b,I J n,V s,V t]):=λW hW=>(ai.new w 49 #[I J 8,I J a,I J b,I J n,V s,V t]).frm hW id
 have eu:Hid (aa ac w (w.alloc (.cells #[I J 8,I J a,I J b,I J n,V s,V t] 49))):=(fR w).alloc _;clear h hc;generalize aB ah aC x ⟨8,a,b,n,s,t⟩=r at *;go_enter Tryz.func20,Tryz.ntmps20;go_wp2_with (first|(go_at_call 46;refine(K.out _ eu.out).mono ?_;rintro e w4 ⟨v,rfl,dL,hf⟩;have Z4:Hid (aa ac w w4):=eu.out.trans hf;have kL:=h_ (dL.mono (G':=λk=>w.heap.size≤k) λk hk=>by(have h2:=eu.out.size;have hk2:=hk;(try simp at hk2 h2);omega));clear dL hf)|fail)
 go_ret2
 exact⟨v,rfl,kL.out,Z4.out⟩
theorem GW(h:aw w g M x)(a b n:Int)(s t:ByteArray)(hc:mE ⟨9,a,b,n,s,t⟩):
  Calls pQ 20 #[O (some ⟨g,0,none⟩),.agg #[I J 9,I J a,I J b,I J n,V s,V t]] w (bm w (aB ah aC x ⟨9,a,b,n,s,t⟩)):=by
 have K:Hid (∀W,aa ac w W→Calls pQ 46 #[O (some ⟨g,0,none⟩),.agg #[I J 9,I J a,I J b,I J n,V s,V t]] W (bm W (aB ah aC x ⟨9,a,b,n,s,t⟩))):=λW hW=>si (h.nix hW) _ _ _ _ _ _ hc (.inr (.inr rfl))
 have dw:Hid (∀W,aa ac (w.alloc (.cells #[I J 9,I J a,I J b,I J n,V s,V t] 49)) W→ai W w.heap.size 49 #[I J 9,I J a,I J b,I J n,V s,V t]):=λW hW=>(ai.new w 49 #[I J 9,I J a,I J b,I J n,V s,V t]).frm hW id
 have eu:Hid (aa ac w (w.alloc (.cells #[I J 9,I J a,I J b,I J n,V s,V t] 49))):=(fR w).alloc _;clear h hc;generalize aB ah aC x ⟨9,a,b,n,s,t⟩=r at *;go_enter Tryz.func20,Tryz.ntmps20;go_wp2_with (first|(go_at_call 46;refine(K.out _ eu.out).mono ?_;rintro e w4 ⟨v,rfl,dL,hf⟩;have Z4:Hid (aa ac w w4):=eu.out.trans hf;have kL:=h_ (dL.mono (G':=λk=>w.heap.size≤k) λk hk=>by(have h2:=eu.out.size;have hk2:=hk;(try simp at hk2 h2);omega));clear dL hf)|fail)
 go_ret2
 exact⟨v,rfl,kL.out,Z4.out⟩
theorem DV(h:aw w g M x)(a b n:Int)(s t:ByteArray)(hc:mE ⟨12,a,b,n,s,t⟩):
  Calls pQ 20 #[O (some ⟨g,0,none⟩),.agg #[I J 12,I J a,I J b,I J n,V s,V t]] w (bm w (aB ah aC x ⟨12,a,b,n,s,t⟩)):=by
 have K:Hid (∀W,aa ac w W→Calls pQ 47 #[O (some ⟨g,0,none⟩),.agg #[I J 12,I J a,I J b,I J n,V s,V t]] W (bm W (aB ah aC x ⟨12,a,b,n,s,t⟩))):=λW hW=>wL (h.nix hW) _ _ _ _ _ hc
 have dw:Hid (∀W,aa ac (w.alloc (.cells #[I J 12,I J a,I J b,I J n,V s,V t] 49)) W→ai W w.heap.size 49 #[I J 12,I J a,I J b,I J n,V s,V t]):=λW hW=>(ai.new w 49 #[I J 12,I J a,I J b,I J n,V s,V t]).frm hW id
 have eu:Hid (aa ac w (w.alloc (.cells #[I J 12,I J a,I J b,I J n,V s,V t] 49))):=(fR w).alloc _;clear h hc;generalize aB ah aC x ⟨12,a,b,n,s,t⟩=r at *;go_enter Tryz.func20,Tryz.ntmps20;go_wp2_with (first|(go_at_call 47;refine(K.out _ eu.out).mono ?_;rintro e w4 ⟨v,rfl,dL,hf⟩;have Z4:Hid (aa ac w w4):=eu.out.trans hf;have kL:=h_ (dL.mono (G':=λk=>w.heap.size≤k) λk hk=>by(have h2:=eu.out.size;have hk2:=hk;(try simp at hk2 h2);omega));clear dL hf)|fail)
 go_ret2
 exact⟨v,rfl,kL.out,Z4.out⟩
theorem DW(h:aw w g M x)(a b n:Int)(s t:ByteArray)(hc:mE ⟨13,a,b,n,s,t⟩):
  Calls pQ 20 #[O (some ⟨g,0,none⟩),.agg #[I J 13,I J a,I J b,I J n,V s,V t]] w (bm w (aB ah aC x ⟨13,a,b,n,s,t⟩)):=by
 have K:Hid (∀W,aa ac w W→Calls pQ 47 #[O (some ⟨g,0,none⟩),.agg #[I J 13,I J a,I J b,I J n,V s,V t]] W (bm W (aB ah aC x ⟨13,a,b,n,s,t⟩))):=λW hW=>wM (h.nix hW) _ _ _ _ _ hc
 have dw:Hid (∀W,aa ac (w.alloc (.cells #[I J 13,I J a,I J b,I J n,V s,V t] 49)) W→ai W w.heap.size 49 #[I J 13,I J a,I J b,I J n,V s,V t]):=λW hW=>(ai.new w 49 #[I J 13,I J a,I J b,I J n,V s,V t]).frm hW id
 have eu:Hid (aa ac w (w.alloc (.cells #[I J 13,I J a,I J b,I J n,V s,V t] 49))):=(fR w).alloc _;clear h hc;generalize aB ah aC x ⟨13,a,b,n,s,t⟩=r at *;go_enter Tryz.func20,Tryz.ntmps20;go_wp2_with (first|(go_at_call 47;refine(K.out _ eu.out).mono ?_;rintro e w4 ⟨v,rfl,dL,hf⟩;have Z4:Hid (aa ac w w4):=eu.out.trans hf;have kL:=h_ (dL.mono (G':=λk=>w.heap.size≤k) λk hk=>by(have h2:=eu.out.size;have hk2:=hk;(try simp at hk2 h2);omega));clear dL hf)|fail)
 go_ret2
 exact⟨v,rfl,kL.out,Z4.out⟩
theorem DX(h:aw w g M x)(a b n:Int)(s t:ByteArray)(hc:mE ⟨10,a,b,n,s,t⟩):
  Calls pQ 20 #[O (some ⟨g,0,none⟩),.agg #[I J 10,I J a,I J b,I J n,V s,V t]] w (bm w (aB ah aC x ⟨10,a,b,n,s,t⟩)):=by
 have HR:Hid (aB ah aC x ⟨10,a,b,n,s,t⟩=if aS aP.id a x.fees=false then ([],4) else (jo x [a],0)):=rfl;rw[HR.out];have KF:Hid (∀W,aa ac w W→Calls pQ 48 #[O (some ⟨g,0,none⟩),I J a] W λe w'=>e=.returned (.tuple #[.agg #[I J (ar x a).id,I J (ar x a).inn,V (ar x a).url,V (ar x a).title],.bool (aS aP.id a x.fees)])∧aa ac W w'):=λW hW=>uf (h.nix hW) hc.a
 have KR:Hid (∀W G A c,aa ac w W→aN W G 1 (A,c) 1 [kI a]→Calls pQ 49 #[O (some ⟨g,0,none⟩),U A 1 c] W λe w'=>∃v:Sl,e=.returned (U v.1 (jo x [a]).length v.2)∧aN w' (λk=>W.heap.size≤k) 7 v (jo x [a]).length ((jo x [a]).flatMap Ev.cells)∧aa ac W w'):=λW G A c hW hv=>BW (l:=[a]) (h.nix hW) hv (by simp)
 have dw:Hid (∀W,aa ac (w.alloc (.cells #[I J 10,I J a,I J b,I J n,V s,V t] 49)) W→ai W w.heap.size 49 #[I J 10,I J a,I J b,I J n,V s,V t]):=λW hW=>(ai.new w 49 #[I J 10,I J a,I J b,I J n,V s,V t]).frm hW id
 have eu:Hid (aa ac w (w.alloc (.cells #[I J 10,I J a,I J b,I J n,V s,V t] 49))):=(fR w).alloc _;clear h hc HR;generalize jo x [a]=r at *;generalize ar x a=q at *;generalize aS aP.id a x.fees=i1 at *
 cases i1 with
 | false=>
   rw[if_pos rfl];go_enter Tryz.func20,Tryz.ntmps20;go_wp2_with (first|(go_at_call 43;refine(aW _ _).mono ?_;rintro e w9 ⟨rfl,rfl⟩)|(go_at_call 48;refine(KF.out _ eu.out).mono ?_;rintro e w2 ⟨rfl,hf⟩;have Y2:Hid (aa ac _ w2):=hf;have Z2:Hid (aa ac w w2):=eu.out.trans Y2.out;have eA:=dw.out _ Y2.out;obtain⟨y0,y1,y2,y3,y4,y5⟩:=bn eA;have yl:=eA.lt;clear eA;clear hf)|fail)
   go_ret2
   exact bm.none_ (Z2.out.alloc (.cells #[I J q.id,I J q.inn,V q.url,V q.title] 64))
 | true=>
   rw[if_neg (by decide)]
   have ji:Hid (∀w2:World,aN ((w2.alloc (.cells #[I J q.id,I J q.inn,V q.url,V q.title] 64)).alloc (.cells #[I J a] 3)) (λk=>w2.heap.size≤k) 1 (some ⟨w2.heap.size+1,0,none⟩,1) 1 [kI a]):=λw2=>by
    have q2:=(aO.lit (s:=1) 3 ((fR w2).alloc (.cells #[I J q.id,I J q.inn,V q.url,V q.title] 64)) 1 [kI a] rfl (by unfold maxLen;omega)).sl;rw[show (w2.alloc (.cells #[I J q.id,I J q.inn,V q.url,V q.title] 64)).heap.size=w2.heap.size+1 by simp] at q2;exact q2
   go_enter Tryz.func20,Tryz.ntmps20;go_wp2_with (first|(go_at_call 49;refine(KR.out _ _ _ _ ((Z2.out.alloc _).alloc _) (ji.out w2)).mono ?_;rintro e w4 ⟨v,rfl,dL,hf⟩;have Z4:Hid (aa ac w w4):=((Z2.out.alloc _).alloc _).trans hf;have kL:=h_ (dL.mono (G':=λk=>w.heap.size≤k) λk hk=>by(have h2:=Z2.out.size;have hk2:=hk;(try simp at hk2 h2);omega));clear dL hf)|(go_at_call 48;refine(KF.out _ eu.out).mono ?_;rintro e w2 ⟨rfl,hf⟩;have Y2:Hid (aa ac _ w2):=hf;have Z2:Hid (aa ac w w2):=eu.out.trans Y2.out;have eA:=dw.out _ Y2.out;obtain⟨y0,y1,y2,y3,y4,y5⟩:=bn eA;have yl:=eA.lt;clear eA;clear hf)|fail)
   go_ret2
   exact⟨v,rfl,kL.out,Z4.out⟩
theorem DY(h:aw w g M x)(a b n:Int)(s t:ByteArray)(hc:mE ⟨11,a,b,n,s,t⟩):
  Calls pQ 20 #[O (some ⟨g,0,none⟩),.agg #[I J 11,I J a,I J b,I J n,V s,V t]] w (bm w (aB ah aC x ⟨11,a,b,n,s,t⟩)):=by
 have HR:Hid (aB ah aC x ⟨11,a,b,n,s,t⟩=if eQ x a=false then ([],4) else (jo x (dF x a),0)):=rfl;rw[HR.out];have KO:Hid (∀W,aa ac w W→Calls pQ 50 #[O (some ⟨g,0,none⟩),I J a] W λe w'=>e=.returned (.bool (eQ x a))∧aa ac W w'):=λW hW=>po (h.nix hW) hc.a
 have XP:=GL h.ok a;have KU:Hid (∀W,aa ac w W→Calls pQ 40 #[O (some ⟨g,0,none⟩),I J a] W λe w'=>∃A c,e=.returned (U A (dF x a).length c)∧aN w' (λk=>W.heap.size≤k) 1 (A,c) (dF x a).length ((dF x a).map kI)∧aa ac W w'):=λW hW=>yq (h.nix hW) hc.a
 have KR:Hid (∀W G A c,aa ac w W→aN W G 1 (A,c) (dF x a).length ((dF x a).map kI)→Calls pQ 49 #[O (some ⟨g,0,none⟩),U A (dF x a).length c] W λe w'=>∃v:Sl,e=.returned (U v.1 (jo x (dF x a)).length v.2)∧aN w' (λk=>W.heap.size≤k) 7 v (jo x (dF x a)).length ((jo x (dF x a)).flatMap Ev.cells)∧aa ac W w'):=λW G A c hW hv=>BW (h.nix hW) hv (by omega)
 have dw:Hid (∀W,aa ac (w.alloc (.cells #[I J 11,I J a,I J b,I J n,V s,V t] 49)) W→ai W w.heap.size 49 #[I J 11,I J a,I J b,I J n,V s,V t]):=λW hW=>(ai.new w 49 #[I J 11,I J a,I J b,I J n,V s,V t]).frm hW id
 have eu:Hid (aa ac w (w.alloc (.cells #[I J 11,I J a,I J b,I J n,V s,V t] 49))):=(fR w).alloc _;clear h hc HR XP;generalize jo x (dF x a)=r at *;generalize dF x a=l at *;generalize eQ x a=i1 at *
 cases i1 with
 | false=>
   rw[if_pos rfl];go_enter Tryz.func20,Tryz.ntmps20;go_wp2_with (first|(go_at_call 43;refine(aW _ _).mono ?_;rintro e w9 ⟨rfl,rfl⟩)|(go_at_call 50;refine(KO.out _ eu.out).mono ?_;rintro e w2 ⟨rfl,hf⟩;have Y2:Hid (aa ac _ w2):=hf;have Z2:Hid (aa ac w w2):=eu.out.trans Y2.out;have eA:=dw.out _ Y2.out;obtain⟨y0,y1,y2,y3,y4,y5⟩:=bn eA;have yl:=eA.lt;clear eA;clear hf)|fail)
   go_ret2
   exact bm.none_ Z2.out
 | true=>
   rw[if_neg (by decide)];go_enter Tryz.func20,Tryz.ntmps20;go_wp2_with (first|(go_at_call 49;have _q:=Z3;refine(KR.out _ _ _ _ Z3.out HV.out).mono ?_;rintro e w4 ⟨v,rfl,dL,hf⟩;have Z4:Hid (aa ac w w4):=Z3.out.trans hf;have kL:=h_ (dL.mono (G':=λk=>w.heap.size≤k) λk hk=>by(have h2:=Z3.out.size;omega));clear dL hf)|(go_at_call 40;have _q:=Z2;refine(KU.out _ Z2.out).mono ?_;rintro e w3 ⟨Au,cu,rfl,hv,hf⟩;have HV:=h_ hv;have Z3:Hid (aa ac w w3):=Z2.out.trans hf;clear hv hf)|(go_at_call 50;refine(KO.out _ eu.out).mono ?_;rintro e w2 ⟨rfl,hf⟩;have Y2:Hid (aa ac _ w2):=hf;have Z2:Hid (aa ac w w2):=eu.out.trans Y2.out;have eA:=dw.out _ Y2.out;obtain⟨y0,y1,y2,y3,y4,y5⟩:=bn eA;have yl:=eA.lt;clear eA;clear hf)|fail)
   go_ret2
   exact⟨v,rfl,kL.out,Z4.out⟩
theorem DZ(h:aw w g M x)(a b n:Int)(s t:ByteArray)(hc:mE ⟨14,a,b,n,s,t⟩):
  Calls pQ 20 #[O (some ⟨g,0,none⟩),.agg #[I J 14,I J a,I J b,I J n,V s,V t]] w (bm w (aB ah aC x ⟨14,a,b,n,s,t⟩)):=by
 have HR:Hid (aB ah aC x ⟨14,a,b,n,s,t⟩=if av x ⟨13,0,0,n,⟨#[]⟩,⟨#[]⟩,⟨#[]⟩⟩=false then ([],1) else nr ⟨13,0,0,n,⟨#[]⟩,⟨#[]⟩,⟨#[]⟩⟩ (!decide (n=x.clock))):=rfl;rw[HR.out];have pp:Hid (∀W,aa ac w W→Calls pQ 51 #[O (some ⟨g,0,none⟩),.agg #[I J 13,I J 0,I J 0,I J n,V ⟨#[]⟩,V ⟨#[]⟩,V ⟨#[]⟩]] W λr w'=>r=.returned (.bool (av x ⟨13,0,0,n,⟨#[]⟩,⟨#[]⟩,⟨#[]⟩⟩))∧aa ac W w'):=λW hW=>Fe (h.nix hW) _ _ _ _ _ _ _ wE wE
 have KC:Hid (∀W,aa ac w W→Calls pQ 53 #[O (some ⟨g,0,none⟩)] W λe w'=>e=.returned (I J x.clock)∧W=w'):=λW hW=>Gw (h.nix hW)
 have LH:Hid (aa ac w ((w.alloc (.cells #[I J 14,I J a,I J b,I J n,V s,V t] 49)).alloc (.cells #[I J 13,I J 0,I J 0,I J n,V ⟨#[]⟩,V ⟨#[]⟩,V ⟨#[]⟩] 42))):=((fR w).alloc _).alloc _
 have kh:Hid (∀W,aa ac ((w.alloc (.cells #[I J 14,I J a,I J b,I J n,V s,V t] 49)).alloc (.cells #[I J 13,I J 0,I J 0,I J n,V ⟨#[]⟩,V ⟨#[]⟩,V ⟨#[]⟩] 42)) W→(W.cell? ⟨w.heap.size+1,0,none⟩=some (I J 13)∧W.cell? ⟨w.heap.size+1,1,none⟩=some (I J 0)∧W.cell? ⟨w.heap.size+1,2,none⟩=some (I J 0)∧W.cell? ⟨w.heap.size+1,3,none⟩=some (I J n)∧W.cell? ⟨w.heap.size+1,4,none⟩=some (V ⟨#[]⟩)∧W.cell? ⟨w.heap.size+1,5,none⟩=some (V ⟨#[]⟩)∧W.cell? ⟨w.heap.size+1,6,none⟩=some (V ⟨#[]⟩))∧W.cell? ⟨w.heap.size,3,none⟩=some (I J n)):=λW hW=>by
  have q1:=(((ai.new w 49 #[I J 14,I J a,I J b,I J n,V s,V t]).alloc (.cells #[I J 13,I J 0,I J 0,I J n,V ⟨#[]⟩,V ⟨#[]⟩,V ⟨#[]⟩] 42)).frm hW id).cell 3;have q2:=(ai.new (w.alloc (.cells #[I J 14,I J a,I J b,I J n,V s,V t] 49)) 42 #[I J 13,I J 0,I J 0,I J n,V ⟨#[]⟩,V ⟨#[]⟩,V ⟨#[]⟩]).frm hW id;rw[show (w.alloc (.cells #[I J 14,I J a,I J b,I J n,V s,V t] 49)).heap.size=w.heap.size+1 by simp] at q2;exact⟨ap q2,q1⟩
 clear h hc HR;generalize x.clock=ck at *;generalize av x ⟨13,0,0,n,⟨#[]⟩,⟨#[]⟩,⟨#[]⟩⟩=i1 at *
 cases i1 with
 | false=>
   rw[if_pos rfl];go_enter Tryz.func20,Tryz.ntmps20;go_wp2_with (first|(go_at_call 43;refine(aW _ _).mono ?_;rintro e w9 ⟨rfl,rfl⟩)|(go_at_call 51;refine(pp.out _ LH.out).mono ?_;rintro e w3 ⟨rfl,hf⟩;have Y3:=h_ hf;have Z3:Hid (aa ac w w3):=LH.out.trans hf;clear hf)|fail)
   go_ret2
   exact bm.none_ Z3.out
 | true=>
   rw[if_neg (by decide)];have Jn:Hid ((n !=ck)=(!decide (n=ck))):=rfl;go_enter Tryz.func20,Tryz.ntmps20;go_wp2_with (first|(go_at_call 51;refine(pp.out _ LH.out).mono ?_;rintro e w3 ⟨rfl,hf⟩;have Y3:=h_ hf;have Z3:Hid (aa ac w w3):=LH.out.trans hf;clear hf)|fail);have TB:Hid (∀W,aa ac w3 W→(W.cell? ⟨w.heap.size+1,0,none⟩=some (I J 13)∧W.cell? ⟨w.heap.size+1,1,none⟩=some (I J 0)∧W.cell? ⟨w.heap.size+1,2,none⟩=some (I J 0)∧W.cell? ⟨w.heap.size+1,3,none⟩=some (I J n)∧W.cell? ⟨w.heap.size+1,4,none⟩=some (V ⟨#[]⟩)∧W.cell? ⟨w.heap.size+1,5,none⟩=some (V ⟨#[]⟩)∧W.cell? ⟨w.heap.size+1,6,none⟩=some (V ⟨#[]⟩))∧W.cell? ⟨w.heap.size,3,none⟩=some (I J n)):=λW hW=>kh.out W (Y3.out.trans hW)
   go_region_held3 (λW=>(W.cell? ⟨w.heap.size+1,0,none⟩=some (I J 13)∧W.cell? ⟨w.heap.size+1,1,none⟩=some (I J 0)∧W.cell? ⟨w.heap.size+1,2,none⟩=some (I J 0)∧W.cell? ⟨w.heap.size+1,3,none⟩=some (I J n)∧W.cell? ⟨w.heap.size+1,4,none⟩=some (V ⟨#[]⟩)∧W.cell? ⟨w.heap.size+1,5,none⟩=some (V ⟨#[]⟩)∧W.cell? ⟨w.heap.size+1,6,none⟩=some (V ⟨#[]⟩))∧W.cell? ⟨w.heap.size,3,none⟩=some (I J n)) ((refine TB.out _ ?_;repeat' (first|with_reducible exact aa.refl _ _|with_reducible exact Y7.out|with_reducible apply aa.drew)))
    (first
     | (go_at_call 52;refine(uW _ _ _ _ _ _ _ _ _).mono ?_;rintro e w7 ⟨v7,rfl,dL,hf⟩;have Y7:Hid (aa ac w3 w7):=(fR _).drew.trans hf;have kL:=h_ (dL.mono (G':=λk=>w.heap.size≤k) λk hk=>by(have h2:=Z3.out.size;have hk2:w3.heap.size≤k:=hk;omega));clear dL hf)
     | (go_at_call 53;refine(KC.out _ (Z3.out.trans (fR _).drew)).mono ?_;rintro e w6 ⟨rfl,rfl⟩))
   all_goals
    go_wp2
    go_ret2
    rw[←Jn.out];exact⟨v7,rfl,kL.out,Z3.out.trans Y7.out⟩
theorem GX(h:aw w g M x)(k a b n:Int)(s t:ByteArray)(hk:¬(1≤k∧k≤14)):
  Calls pQ 20 #[O (some ⟨g,0,none⟩),.agg #[I J k,I J a,I J b,I J n,V s,V t]] w (bm w (aB ah aC x ⟨k,a,b,n,s,t⟩)):=by
 have HR:Hid (aB ah aC x ⟨k,a,b,n,s,t⟩=([],1)):=by
  unfold Hid aB;rw[if_neg (show ¬(k=1) by omega)];rw[if_neg (show ¬(k=2) by omega)];rw[if_neg (show ¬(k=3) by omega)];rw[if_neg (show ¬(k=4∨k=5∨k=6) by omega)];rw[if_neg (show ¬(k=7∨k=8∨k=9) by omega)];rw[if_neg (show ¬(k=10) by omega)];rw[if_neg (show ¬(k=11) by omega)];rw[if_neg (show ¬(k=12) by omega)];rw[if_neg (show ¬(k=13) by omega)];rw[if_neg (show ¬(k=14) by omega)]
 have n1:(k==1)=false:=beq_eq_false_iff_ne.2 (by omega);have n2:(k==2)=false:=beq_eq_false_iff_ne.2 (by omega);have n3:(k==3)=false:=beq_eq_false_iff_ne.2 (by omega);have n4:(k==4)=false:=beq_eq_false_iff_ne.2 (by omega);have n5:(k==5)=false:=beq_eq_false_iff_ne.2 (by omega);have n6:(k==6)=false:=beq_eq_false_iff_ne.2 (by omega);have n7:(k==7)=false:=beq_eq_false_iff_ne.2 (by omega);have n8:(k==8)=false:=beq_eq_false_iff_ne.2 (by omega);have n9:(k==9)=false:=beq_eq_false_iff_ne.2 (by omega);have Zc:(k==12)=false:=beq_eq_false_iff_ne.2 (by omega);have Zd:(k==13)=false:=beq_eq_false_iff_ne.2 (by omega);have n10:(k==10)=false:=beq_eq_false_iff_ne.2 (by omega);have n11:(k==11)=false:=beq_eq_false_iff_ne.2 (by omega);have Ze:(k==14)=false:=beq_eq_false_iff_ne.2 (by omega);rw[HR.out];clear h hk HR;go_enter Tryz.func20,Tryz.ntmps20;go_wp2_with (first|(go_at_call 43;refine(aW _ _).mono ?_;rintro e w9 ⟨rfl,rfl⟩)|fail)
 go_ret2
 exact bm.none_ ((fR w).alloc _)
theorem mQ(h:aw w g M x)(k a b n:Int)(s t:ByteArray)(hc:mE ⟨k,a,b,n,s,t⟩):
  Calls pQ 20 #[O (some ⟨g,0,none⟩),.agg #[I J k,I J a,I J b,I J n,V s,V t]] w (bm w (aB ah aC x ⟨k,a,b,n,s,t⟩)):=by
 by_cases hk:1≤k∧k≤14
 ·rcases(by omega:k=1∨k=2∨k=3∨k=4∨k=5∨k=6∨k=7∨k=8∨k=9∨k=10∨k=11∨k=12∨k=13∨k=14) with rfl|rfl|rfl|rfl|rfl|rfl|rfl|rfl|rfl|rfl|rfl|rfl|rfl|rfl
  ·exact GM h a b n s t hc
  ·exact GN h a b n s t hc
  ·exact GP h a b n s t hc
  ·exact GQ h a b n s t hc
  ·exact GR h a b n s t hc
  ·exact GS h a b n s t hc
  ·exact GU h a b n s t hc
  ·exact GV h a b n s t hc
  ·exact GW h a b n s t hc
  ·exact DX h a b n s t hc
  ·exact DY h a b n s t hc
  ·exact DV h a b n s t hc
  ·exact DW h a b n s t hc
  ·exact DZ h a b n s t hc
 ·exact GX h k a b n s t hk
theorem D6(h:aw w g M x)(k a b n:Int)(s t:ByteArray)(hc:mE ⟨k,a,b,n,s,t⟩):
  Calls pQ 24 #[O (some ⟨g,0,none⟩),.agg #[I J k,I J a,I J b,I J n,V s,V t]] w λe w'=>∃v:Sl,e=.returned (.tuple #[U v.1 (aB ah aC x ⟨k,a,b,n,s,t⟩).1.length v.2,I J (aB ah aC x ⟨k,a,b,n,s,t⟩).2])∧aN w' (λk=>w.heap.size≤k) 7 v (aB ah aC x ⟨k,a,b,n,s,t⟩).1.length ((aB ah aC x ⟨k,a,b,n,s,t⟩).1.flatMap Ev.cells)∧aw w' g M (Hm ah aC x ⟨k,a,b,n,s,t⟩)∧aa (SF g M) w w':=by
 have KP:Hid (∀W,aa ac w W→Calls pQ 20 #[O (some ⟨g,0,none⟩),.agg #[I J k,I J a,I J b,I J n,V s,V t]] W (bm W (aB ah aC x ⟨k,a,b,n,s,t⟩))):=λW hW=>mQ (h.nix hW) _ _ _ _ _ _ hc
 have HI:=h_ (yt (DJ (tg:=aC) wJ h.ok ⟨k,a,b,n,s,t⟩));have hlen:=wO h.ok ⟨k,a,b,n,s,t⟩;unfold Hm;obtain⟨r,hr⟩:∃r,aB ah aC x ⟨k,a,b,n,s,t⟩=r:=⟨_,rfl⟩;rw[hr] at KP HI hlen ⊢;obtain⟨l,er⟩:=r;dsimp only at KP HI hlen ⊢;obtain⟨m,lG⟩:∃m,l.length=m:=⟨_,rfl⟩;have HL:=h_ lG;have HS:=h_ h;have Qk:Hid (∀W,aa ac w W→Calls pQ 20 #[O (some ⟨g,0,none⟩),.agg #[I J k,I J a,I J b,I J n,V s,V t]] W λe w'=>∃A c,e=.returned (.tuple #[U A m c,I J er])∧aN w' (λk=>W.heap.size≤k) 7 (A,c) l.length (l.flatMap Ev.cells)∧aa ac W w'):=λW hW=>(KP.out W hW).mono λe w' ⟨⟨A,c⟩,h1,h2,h3⟩=>⟨A,c,by rw[←lG];exact h1,h2,h3⟩
 rw[lG] at hlen ⊢;clear h hc hr lG KP;go_enter Tryz.func24,Tryz.ntmps24;go_wp2_with (first|(go_at_call 20;refine(Qk.out _ ((fR w).alloc _)).mono ?_;rintro e w1 ⟨Av,cv,rfl,hv,hf⟩;have HV:=h_ (hv.mono (G':=λk=>w.heap.size<k) λk hk=>by(have hk2:=hk;simp at hk2;omega));have Z1:Hid (aa ac w w1):=((fR w).alloc _).trans hf;clear hv hf)|fail);have HG:Hid (∀j,SF g M j→j<w.heap.size):=λj hj=>HS.out.lt j hj
 go_loopw [18] (λkv wr=>∃k:Nat,k≤m∧kv=I J k∧aw wr g M (cZ x (l.take k))∧aa (SF g M) w1 wr) (λkv _=>m-(intOf kv).toNat)
 case atStart=>exact⟨0,by omega,rfl,HS.out.nix Z1.out,aa.refl _ _⟩
 case round=>
  obtain⟨k,hk,rfl,hs,hf⟩:=hrel;have J3:=h_ hs;have qx:=h_ hf;clear hs hf
  by_cases hlt:k<m
  ·have dX:k<l.length:=by rw[HL.out];exact hlt
   obtain⟨b,off,hA,-,hbl,hcell⟩:=(HV.out.frm qx.out (λj hj DG=>by have:=HG.out j DG;omega)).at_ Ev.clen (by decide) (by omega);dsimp only at hA;subst hA;have h7:=Bz (w:=wr) (b:=b) (off:=off+k * 7) (e:=l[k]) (hcell k dX);have Gj:=HI.out l[k] (List.getElem_mem dX);have E7:=h_ (qj (x:=x) dX);obtain⟨ev,hev⟩:∃ev,l[k]=ev:=⟨_,rfl⟩;rw[hev] at h7 Gj E7;obtain⟨x0,x1,x2,x3,x4,x5,x6⟩:=h7
   have KA:Hid (Calls pQ 42 #[O (some ⟨g,0,none⟩),.agg #[I J ev.kind,I J ev.a,I J ev.b,I J ev.n,V ev.s,V ev.t,V ev.u]] (wr.alloc (.cells #[I J ev.kind,I J ev.a,I J ev.b,I J ev.n,V ev.s,V ev.t,V ev.u] 42)) λr w'=>r=.returned (.bool (bB (cZ x (l.take k)) ev).2)∧aw w' g M (cZ x (l.take (k+1)))∧aa (SF g M) w1 w'):=
    (ym (J3.out.nix ((fR wr).alloc _)) ev Gj.1 Gj.2).mono λr w' ⟨h1,h2,h3⟩=>⟨h1,by rw[E7.out];exact h2,(qx.out.alloc _).trans h3⟩
   clear hcell hev Gj;generalize (bB (cZ x (l.take k)) ev).2=bb at *;go_wp2_with (first|(go_at_call 42;refine KA.out.mono ?_;rintro r w2 ⟨rfl,hs2,hf2⟩;have Sv:=h_ hs2;have Sw:=h_ hf2;clear hs2 hf2)|fail);go_roundw
   case rel=>exact⟨k+1,by omega,by go_num,Sv.out,Sw.out⟩
   case measure=>simp[intOf];omega
  ·obtain rfl:k=m:=by omega
   have xg:Hid (l.take k=l):=List.take_of_length_le (by rw[HL.out];exact Nat.le_refl _);have hs:=J3.out;rw[xg.out] at hs;have Sx:=h_ hs;clear hs;go_wp2
   go_ret2
   exact⟨(Av,cv),rfl,by have q:=HV.out;rw[HL.out] at q;exact(q.frm qx.out (λj hj DG=>by have:=HG.out j DG;omega)).mono λj hj=>Nat.le_of_lt hj,Sx.out,(Z1.out.mono λ_ e=>e.elim).trans qx.out⟩
end Go.Proofs.YtaecjmiobllhmaaGreat
