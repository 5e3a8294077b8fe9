/- Words. -/
import Derived.Test.YtaecjmiobllhmaaGreatGr08
set_option linter.unusedVariables false
set_option linter.unusedSimpArgs false
set_option maxRecDepth 100000
set_option maxHeartbeats 16000000
namespace Go.Proofs.YtaecjmiobllhmaaGreat
open Go.Value renaming int→I,string→V
open Go.IntKind renaming i64→J
open Tryz renaming prog→pQ
open Go.RowKit Go.Lib
theorem gR{w W:World}{k a b n:Int}{s t u:ByteArray}(h:aa ag (w.alloc (.cells #[I J k,I J a,I J b,I J n,V s,V t,V u] 42)) W):
  W.cell? ⟨w.heap.size,1,none⟩=some (I J a)∧W.cell? ⟨w.heap.size,2,none⟩=some (I J b)∧W.cell? ⟨w.heap.size,3,none⟩=some (I J n)∧W.cell? ⟨w.heap.size,4,none⟩=some (V s)∧W.cell? ⟨w.heap.size,5,none⟩=some (V t)∧W.cell? ⟨w.heap.size,6,none⟩=some (V u):=by
 have hb:=(aj.new w 42 #[I J k,I J a,I J b,I J n,V s,V t,V u]).frm h id;have c1:=hb.cell 1;have c2:=hb.cell 2;have c3:=hb.cell 3;have c4:=hb.cell 4;have c5:=hb.cell 5;have c6:=hb.cell 6;simp at c1 c2 c3 c4 c5 c6;exact⟨c1,c2,c3,c4,c5,c6⟩
theorem AG(a b n:Int)(s t u:ByteArray)(w:World):Calls pQ 151 #[bQ ⟨1,a,b,n,s,t,u⟩] w λr w'=>r=.returned (.bool (aB ⟨1,a,b,n,s,t,u⟩))∧aa ag w w':=by
 have HC:=λW h=>@gR w W 1 a b n s t u h
 have ar:=fR (w.alloc (.cells #[I J 1,I J a,I J b,I J n,V s,V t,V u] 42));have HF:Hid (aa ag w (w.alloc (.cells #[I J 1,I J a,I J b,I J n,V s,V t,V u] 42))):=(fR w).alloc _;unfold bQ;go_enter Tryz.func151,Tryz.ntmps151
 go_wp2_with (first
  | (go_at_call 186;refine(jH _ _).mono ?_;rintro e w' ⟨rfl,rfl⟩)
  | (go_at_call 183;subst_vars;refine(sj _ _).mono ?_;rintro e w' ⟨rfl,hf'⟩;replace ar:=ar.trans hf';obtain⟨c1,c2,c3,c4,c5,c6⟩:=HC _ ar;clear hf')
  | fail)
 all_goals
  subst_vars
  go_ret;refine⟨af ?_,HF.out.trans ar⟩;clear HC HF ar;simp[aB,aK,aW, *]
  try (rw[Bool.eq_iff_iff];simp[*])
theorem AH(a b n:Int)(s t u:ByteArray)(w:World):Calls pQ 151 #[bQ ⟨2,a,b,n,s,t,u⟩] w λr w'=>r=.returned (.bool (aB ⟨2,a,b,n,s,t,u⟩))∧aa ag w w':=by
 have HC:=λW h=>@gR w W 2 a b n s t u h
 have ar:=fR (w.alloc (.cells #[I J 2,I J a,I J b,I J n,V s,V t,V u] 42));have HF:Hid (aa ag w (w.alloc (.cells #[I J 2,I J a,I J b,I J n,V s,V t,V u] 42))):=(fR w).alloc _;unfold bQ;go_enter Tryz.func151,Tryz.ntmps151
 go_wp2_with (first
  | (go_at_call 186;refine(jH _ _).mono ?_;rintro e w' ⟨rfl,rfl⟩)
  | fail)
 all_goals
  subst_vars
  go_ret;refine⟨af ?_,HF.out.trans ar⟩;clear HC HF ar;simp[aB,aK,aW, *]
  try (rw[Bool.eq_iff_iff];simp[*])
theorem AK(a b n:Int)(s t u:ByteArray)(w:World):Calls pQ 151 #[bQ ⟨3,a,b,n,s,t,u⟩] w λr w'=>r=.returned (.bool (aB ⟨3,a,b,n,s,t,u⟩))∧aa ag w w':=by
 have HC:=λW h=>@gR w W 3 a b n s t u h
 have ar:=fR (w.alloc (.cells #[I J 3,I J a,I J b,I J n,V s,V t,V u] 42));have HF:Hid (aa ag w (w.alloc (.cells #[I J 3,I J a,I J b,I J n,V s,V t,V u] 42))):=(fR w).alloc _;unfold bQ;go_enter Tryz.func151,Tryz.ntmps151
 go_wp2_with (first
  | (go_at_call 186;refine(jH _ _).mono ?_;rintro e w' ⟨rfl,rfl⟩)
  | (go_at_call 187;subst_vars;refine(vS _ _).mono ?_;rintro e w' ⟨rfl,hf'⟩;replace ar:=ar.trans hf';obtain⟨c1,c2,c3,c4,c5,c6⟩:=HC _ ar;clear hf')
  | (go_at_call 188;subst_vars;refine(sk _ _).mono ?_;rintro e w' ⟨rfl,hf'⟩;replace ar:=ar.trans hf';obtain⟨c1,c2,c3,c4,c5,c6⟩:=HC _ ar;clear hf')
  | fail)
 all_goals
  subst_vars
  go_ret;refine⟨af ?_,HF.out.trans ar⟩;clear HC HF ar;simp[aB,aK,aW, *]
  try (rw[Bool.eq_iff_iff];simp[*])
theorem AL(a b n:Int)(s t u:ByteArray)(w:World):Calls pQ 151 #[bQ ⟨4,a,b,n,s,t,u⟩] w λr w'=>r=.returned (.bool (aB ⟨4,a,b,n,s,t,u⟩))∧aa ag w w':=by
 have HC:=λW h=>@gR w W 4 a b n s t u h
 have ar:=fR (w.alloc (.cells #[I J 4,I J a,I J b,I J n,V s,V t,V u] 42));have HF:Hid (aa ag w (w.alloc (.cells #[I J 4,I J a,I J b,I J n,V s,V t,V u] 42))):=(fR w).alloc _;unfold bQ;go_enter Tryz.func151,Tryz.ntmps151
 go_wp2_with (first
  | (go_at_call 186;refine(jH _ _).mono ?_;rintro e w' ⟨rfl,rfl⟩)
  | fail)
 all_goals
  subst_vars
  go_ret;refine⟨af ?_,HF.out.trans ar⟩;clear HC HF ar;simp[aB,aK,aW, *]
  try (rw[Bool.eq_iff_iff];simp[*])
theorem AO(a b n:Int)(s t u:ByteArray)(w:World):Calls pQ 151 #[bQ ⟨5,a,b,n,s,t,u⟩] w λr w'=>r=.returned (.bool (aB ⟨5,a,b,n,s,t,u⟩))∧aa ag w w':=by
 have HC:=λW h=>@gR w W 5 a b n s t u h
 have ar:=fR (w.alloc (.cells #[I J 5,I J a,I J b,I J n,V s,V t,V u] 42));have HF:Hid (aa ag w (w.alloc (.cells #[I J 5,I J a,I J b,I J n,V s,V t,V u] 42))):=(fR w).alloc _;unfold bQ;go_enter Tryz.func151,Tryz.ntmps151
 go_wp2_with (first
  | (go_at_call 186;refine(jH _ _).mono ?_;rintro e w' ⟨rfl,rfl⟩)
  | (go_at_call 188;subst_vars;refine(sk _ _).mono ?_;rintro e w' ⟨rfl,hf'⟩;replace ar:=ar.trans hf';obtain⟨c1,c2,c3,c4,c5,c6⟩:=HC _ ar;clear hf')
  | fail)
 all_goals
  subst_vars
  go_ret;refine⟨af ?_,HF.out.trans ar⟩;clear HC HF ar;simp[aB,aK,aW, *]
  try (rw[Bool.eq_iff_iff];simp[*])
theorem AP(a b n:Int)(s t u:ByteArray)(w:World):Calls pQ 151 #[bQ ⟨6,a,b,n,s,t,u⟩] w λr w'=>r=.returned (.bool (aB ⟨6,a,b,n,s,t,u⟩))∧aa ag w w':=by
 have HC:=λW h=>@gR w W 6 a b n s t u h
 have ar:=fR (w.alloc (.cells #[I J 6,I J a,I J b,I J n,V s,V t,V u] 42));have HF:Hid (aa ag w (w.alloc (.cells #[I J 6,I J a,I J b,I J n,V s,V t,V u] 42))):=(fR w).alloc _;unfold bQ;go_enter Tryz.func151,Tryz.ntmps151
 go_wp2_with (first
  | (go_at_call 186;refine(jH _ _).mono ?_;rintro e w' ⟨rfl,rfl⟩)
  | fail)
 all_goals
  subst_vars
  go_ret;refine⟨af ?_,HF.out.trans ar⟩;clear HC HF ar;simp[aB,aK,aW, *]
  try (rw[Bool.eq_iff_iff];simp[*])
theorem AQ(a b n:Int)(s t u:ByteArray)(w:World):Calls pQ 151 #[bQ ⟨7,a,b,n,s,t,u⟩] w λr w'=>r=.returned (.bool (aB ⟨7,a,b,n,s,t,u⟩))∧aa ag w w':=by
 have HC:=λW h=>@gR w W 7 a b n s t u h
 have ar:=fR (w.alloc (.cells #[I J 7,I J a,I J b,I J n,V s,V t,V u] 42));have HF:Hid (aa ag w (w.alloc (.cells #[I J 7,I J a,I J b,I J n,V s,V t,V u] 42))):=(fR w).alloc _;unfold bQ;go_enter Tryz.func151,Tryz.ntmps151
 go_wp2_with (first
  | (go_at_call 186;refine(jH _ _).mono ?_;rintro e w' ⟨rfl,rfl⟩)
  | (go_at_call 189;subst_vars;refine(ux _ _).mono ?_;rintro e w' ⟨rfl,hf'⟩;replace ar:=ar.trans hf';obtain⟨c1,c2,c3,c4,c5,c6⟩:=HC _ ar;clear hf')
  | (go_at_call 187;subst_vars;refine(vS _ _).mono ?_;rintro e w' ⟨rfl,hf'⟩;replace ar:=ar.trans hf';obtain⟨c1,c2,c3,c4,c5,c6⟩:=HC _ ar;clear hf')
  | (go_at_call 188;subst_vars;refine(sk _ _).mono ?_;rintro e w' ⟨rfl,hf'⟩;replace ar:=ar.trans hf';obtain⟨c1,c2,c3,c4,c5,c6⟩:=HC _ ar;clear hf')
  | (go_at_call 190;subst_vars;refine(xQ _ _).mono ?_;rintro e w' ⟨rfl,hf'⟩;replace ar:=ar.trans hf';obtain⟨c1,c2,c3,c4,c5,c6⟩:=HC _ ar;clear hf')
  | fail)
 all_goals
  subst_vars
  go_ret;refine⟨af ?_,HF.out.trans ar⟩;clear HC HF ar;simp[aB,aK,aW, *]
  try (rw[Bool.eq_iff_iff];simp[*])
theorem AR(a b n:Int)(s t u:ByteArray)(w:World):Calls pQ 151 #[bQ ⟨8,a,b,n,s,t,u⟩] w λr w'=>r=.returned (.bool (aB ⟨8,a,b,n,s,t,u⟩))∧aa ag w w':=by
 have HC:=λW h=>@gR w W 8 a b n s t u h
 have ar:=fR (w.alloc (.cells #[I J 8,I J a,I J b,I J n,V s,V t,V u] 42));have HF:Hid (aa ag w (w.alloc (.cells #[I J 8,I J a,I J b,I J n,V s,V t,V u] 42))):=(fR w).alloc _;unfold bQ;go_enter Tryz.func151,Tryz.ntmps151
 go_wp2_with (first
  | (go_at_call 186;refine(jH _ _).mono ?_;rintro e w' ⟨rfl,rfl⟩)
  | fail)
 all_goals
  subst_vars
  go_ret;refine⟨af ?_,HF.out.trans ar⟩;clear HC HF ar;simp[aB,aK,aW, *]
  try (rw[Bool.eq_iff_iff];simp[*])
theorem AU(a b n:Int)(s t u:ByteArray)(w:World):Calls pQ 151 #[bQ ⟨9,a,b,n,s,t,u⟩] w λr w'=>r=.returned (.bool (aB ⟨9,a,b,n,s,t,u⟩))∧aa ag w w':=by
 have HC:=λW h=>@gR w W 9 a b n s t u h
 have ar:=fR (w.alloc (.cells #[I J 9,I J a,I J b,I J n,V s,V t,V u] 42));have HF:Hid (aa ag w (w.alloc (.cells #[I J 9,I J a,I J b,I J n,V s,V t,V u] 42))):=(fR w).alloc _;unfold bQ;go_enter Tryz.func151,Tryz.ntmps151
 go_wp2_with (first
  | (go_at_call 186;refine(jH _ _).mono ?_;rintro e w' ⟨rfl,rfl⟩)
  | fail)
 all_goals
  subst_vars
  go_ret;refine⟨af ?_,HF.out.trans ar⟩;clear HC HF ar;simp[aB,aK,aW, *]
  try (rw[Bool.eq_iff_iff];simp[*])
theorem yF(a b n:Int)(s t u:ByteArray)(w:World):Calls pQ 151 #[bQ ⟨10,a,b,n,s,t,u⟩] w λr w'=>r=.returned (.bool (aB ⟨10,a,b,n,s,t,u⟩))∧aa ag w w':=by
 have HC:=λW h=>@gR w W 10 a b n s t u h
 have ar:=fR (w.alloc (.cells #[I J 10,I J a,I J b,I J n,V s,V t,V u] 42));have HF:Hid (aa ag w (w.alloc (.cells #[I J 10,I J a,I J b,I J n,V s,V t,V u] 42))):=(fR w).alloc _;unfold bQ;go_enter Tryz.func151,Tryz.ntmps151
 go_wp2_with (first
  | (go_at_call 186;refine(jH _ _).mono ?_;rintro e w' ⟨rfl,rfl⟩)
  | (go_at_call 148;subst_vars;refine(GW _ _).mono ?_;rintro e w' ⟨rfl,hf'⟩;replace ar:=ar.trans hf';obtain⟨c1,c2,c3,c4,c5,c6⟩:=HC _ ar;clear hf')
  | fail)
 all_goals
  subst_vars
  go_ret;refine⟨af ?_,HF.out.trans ar⟩;clear HC HF ar;simp[aB,aK,aW, *]
  try (rw[Bool.eq_iff_iff];simp[*])
theorem yG(a b n:Int)(s t u:ByteArray)(w:World):Calls pQ 151 #[bQ ⟨11,a,b,n,s,t,u⟩] w λr w'=>r=.returned (.bool (aB ⟨11,a,b,n,s,t,u⟩))∧aa ag w w':=by
 have HC:=λW h=>@gR w W 11 a b n s t u h
 have ar:=fR (w.alloc (.cells #[I J 11,I J a,I J b,I J n,V s,V t,V u] 42));have HF:Hid (aa ag w (w.alloc (.cells #[I J 11,I J a,I J b,I J n,V s,V t,V u] 42))):=(fR w).alloc _;unfold bQ;go_enter Tryz.func151,Tryz.ntmps151
 go_wp2_with (first
  | (go_at_call 186;refine(jH _ _).mono ?_;rintro e w' ⟨rfl,rfl⟩)
  | (go_at_call 183;subst_vars;refine(sj _ _).mono ?_;rintro e w' ⟨rfl,hf'⟩;replace ar:=ar.trans hf';obtain⟨c1,c2,c3,c4,c5,c6⟩:=HC _ ar;clear hf')
  | (go_at_call 191;subst_vars;refine(CB _ _).mono ?_;rintro e w' ⟨rfl,hf'⟩;replace ar:=ar.trans hf';obtain⟨c1,c2,c3,c4,c5,c6⟩:=HC _ ar;clear hf')
  | fail)
 all_goals
  subst_vars
  go_ret;refine⟨af ?_,HF.out.trans ar⟩;clear HC HF ar;simp[aB,aK,aW, *]
  try (rw[Bool.eq_iff_iff];simp[*])
theorem yH(a b n:Int)(s t u:ByteArray)(w:World):Calls pQ 151 #[bQ ⟨12,a,b,n,s,t,u⟩] w λr w'=>r=.returned (.bool (aB ⟨12,a,b,n,s,t,u⟩))∧aa ag w w':=by
 have HC:=λW h=>@gR w W 12 a b n s t u h
 have ar:=fR (w.alloc (.cells #[I J 12,I J a,I J b,I J n,V s,V t,V u] 42));have HF:Hid (aa ag w (w.alloc (.cells #[I J 12,I J a,I J b,I J n,V s,V t,V u] 42))):=(fR w).alloc _;unfold bQ;go_enter Tryz.func151,Tryz.ntmps151
 go_wp2_with (first
  | (go_at_call 186;refine(jH _ _).mono ?_;rintro e w' ⟨rfl,rfl⟩)
  | fail)
 all_goals
  subst_vars
  go_ret;refine⟨af ?_,HF.out.trans ar⟩;clear HC HF ar;simp[aB,aK,aW, *]
  try (rw[Bool.eq_iff_iff];simp[*])
theorem yI(a b n:Int)(s t u:ByteArray)(w:World):Calls pQ 151 #[bQ ⟨13,a,b,n,s,t,u⟩] w λr w'=>r=.returned (.bool (aB ⟨13,a,b,n,s,t,u⟩))∧aa ag w w':=by
 have HC:=λW h=>@gR w W 13 a b n s t u h
 have ar:=fR (w.alloc (.cells #[I J 13,I J a,I J b,I J n,V s,V t,V u] 42));have HF:Hid (aa ag w (w.alloc (.cells #[I J 13,I J a,I J b,I J n,V s,V t,V u] 42))):=(fR w).alloc _;unfold bQ;go_enter Tryz.func151,Tryz.ntmps151
 go_wp2_with (first
  | (go_at_call 186;refine(jH _ _).mono ?_;rintro e w' ⟨rfl,rfl⟩)
  | (go_at_call 189;subst_vars;refine(ux _ _).mono ?_;rintro e w' ⟨rfl,hf'⟩;replace ar:=ar.trans hf';obtain⟨c1,c2,c3,c4,c5,c6⟩:=HC _ ar;clear hf')
  | fail)
 all_goals
  subst_vars
  go_ret;refine⟨af ?_,HF.out.trans ar⟩;clear HC HF ar;simp[aB,aK,aW, *]
  try (rw[Bool.eq_iff_iff];simp[*])
theorem AV(k a b n:Int)(s t u:ByteArray)(w:World)(hk:¬(1≤k∧k≤13)):Calls pQ 151 #[bQ ⟨k,a,b,n,s,t,u⟩] w λr w'=>r=.returned (.bool false)∧aa ag w w':=by
 have HF:Hid (aa ag w (w.alloc (.cells #[I J k,I J a,I J b,I J n,V s,V t,V u] 42))):=(fR w).alloc _;have b1:(k==1)=false:=by simp;omega
 have b2:(k==2)=false:=by simp;omega
 have b3:(k==3)=false:=by simp;omega
 have b4:(k==4)=false:=by simp;omega
 have b5:(k==5)=false:=by simp;omega
 have b6:(k==6)=false:=by simp;omega
 have b7:(k==7)=false:=by simp;omega
 have b8:(k==8)=false:=by simp;omega
 have b9:(k==9)=false:=by simp;omega
 have Tb:(k==10)=false:=by simp;omega
 have Tc:(k==11)=false:=by simp;omega
 have Td:(k==12)=false:=by simp;omega
 have Te:(k==13)=false:=by simp;omega
 clear hk;unfold bQ;go_enter Tryz.func151,Tryz.ntmps151;go_wp2_with (go_at_call 186;refine(jH _ _).mono ?_;rintro e w' ⟨rfl,rfl⟩)
 all_goals
  subst_vars
  go_ret;exact⟨rfl,HF.out⟩
theorem sr{e:Ev}(hk:¬(1≤e.kind∧e.kind≤13)):aB e=false:=by
 unfold aB
 repeat' split
 all_goals first|rfl|omega
theorem CD(e:Ev)(w:World):Calls pQ 151 #[bQ e] w λr w'=>r=.returned (.bool (aB e))∧aa ag w w':=by
 by_cases hk:1≤e.kind∧e.kind≤13
 ·obtain⟨k,a,b,n,s,t,u⟩:=e
  simp only at hk;rcases(by omega:k=1∨k=2∨k=3∨k=4∨k=5∨k=6∨k=7∨k=8∨k=9∨k=10∨k=11∨k=12∨k=13) with rfl|rfl|rfl|rfl|rfl|rfl|rfl|rfl|rfl|rfl|rfl|rfl|rfl
  ·exact AG a b n s t u w
  ·exact AH a b n s t u w
  ·exact AK a b n s t u w
  ·exact AL a b n s t u w
  ·exact AO a b n s t u w
  ·exact AP a b n s t u w
  ·exact AQ a b n s t u w
  ·exact AR a b n s t u w
  ·exact AU a b n s t u w
  ·exact yF a b n s t u w
  ·exact yG a b n s t u w
  ·exact yH a b n s t u w
  ·exact yI a b n s t u w
 ·rw[sr hk]
  exact AV e.kind e.a e.b e.n e.s e.t e.u w hk
end Go.Proofs.YtaecjmiobllhmaaGreat
