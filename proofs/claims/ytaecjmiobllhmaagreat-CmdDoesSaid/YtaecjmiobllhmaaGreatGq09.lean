/- Words. -/
import Derived.Test.YtaecjmiobllhmaaGreatGq08
set_option linter.unusedVariables false
set_option linter.unusedSimpArgs false
set_option maxRecDepth 100000
set_option maxHeartbeats 16000000
namespace Go.Proofs.YtaecjmiobllhmaaGreat
open Go.Value renaming int→I,string→V
open Go.IntKind renaming i64→J
open Tryz renaming prog→pQ
open Go.RowKit Go.Lib
theorem iI{w W:World}{k a b n:Int}{s t u:ByteArray}(h:aa ac (w.alloc (.cells #[I J k,I J a,I J b,I J n,V s,V t,V u] 42)) W):
  W.cell? ⟨w.heap.size,1,none⟩=some (I J a)∧W.cell? ⟨w.heap.size,2,none⟩=some (I J b)∧W.cell? ⟨w.heap.size,3,none⟩=some (I J n)∧W.cell? ⟨w.heap.size,4,none⟩=some (V s)∧W.cell? ⟨w.heap.size,5,none⟩=some (V t)∧W.cell? ⟨w.heap.size,6,none⟩=some (V u):=by
 have hb:=(ai.new w 42 #[I J k,I J a,I J b,I J n,V s,V t,V u]).frm h id;have c1:=hb.cell 1;have c2:=hb.cell 2;have c3:=hb.cell 3;have c4:=hb.cell 4;have c5:=hb.cell 5;have c6:=hb.cell 6;simp at c1 c2 c3 c4 c5 c6;exact⟨c1,c2,c3,c4,c5,c6⟩
theorem AL(a b n:Int)(s t u:ByteArray)(w:World):Calls pQ 151 #[dt ⟨1,a,b,n,s,t,u⟩] w λr w'=>r=.returned (.bool (aA ⟨1,a,b,n,s,t,u⟩))∧aa ac w w':=by
 have HC:=λW h=>@iI w W 1 a b n s t u h
 have az:=fR (w.alloc (.cells #[I J 1,I J a,I J b,I J n,V s,V t,V u] 42));have HF:Hid (aa ac w (w.alloc (.cells #[I J 1,I J a,I J b,I J n,V s,V t,V u] 42))):=(fR w).alloc _;unfold dt;go_enter Tryz.func151,Tryz.ntmps151
 go_wp2_with (first
  | (go_at_call 186;refine(j9 _ _).mono ?_;rintro e w' ⟨rfl,rfl⟩)
  | (go_at_call 183;subst_vars;refine(rT _ _).mono ?_;rintro e w' ⟨rfl,hf'⟩;replace az:=az.trans hf';obtain⟨c1,c2,c3,c4,c5,c6⟩:=HC _ az;clear hf')
  | fail)
 all_goals
  subst_vars
  go_ret;refine⟨af ?_,HF.out.trans az⟩;clear HC HF az;simp[aA,aI,aZ, *]
  try (rw[Bool.eq_iff_iff];simp[*])
theorem AO(a b n:Int)(s t u:ByteArray)(w:World):Calls pQ 151 #[dt ⟨2,a,b,n,s,t,u⟩] w λr w'=>r=.returned (.bool (aA ⟨2,a,b,n,s,t,u⟩))∧aa ac w w':=by
 have HC:=λW h=>@iI w W 2 a b n s t u h
 have az:=fR (w.alloc (.cells #[I J 2,I J a,I J b,I J n,V s,V t,V u] 42));have HF:Hid (aa ac w (w.alloc (.cells #[I J 2,I J a,I J b,I J n,V s,V t,V u] 42))):=(fR w).alloc _;unfold dt;go_enter Tryz.func151,Tryz.ntmps151
 go_wp2_with (first
  | (go_at_call 186;refine(j9 _ _).mono ?_;rintro e w' ⟨rfl,rfl⟩)
  | fail)
 all_goals
  subst_vars
  go_ret;refine⟨af ?_,HF.out.trans az⟩;clear HC HF az;simp[aA,aI,aZ, *]
  try (rw[Bool.eq_iff_iff];simp[*])
theorem AP(a b n:Int)(s t u:ByteArray)(w:World):Calls pQ 151 #[dt ⟨3,a,b,n,s,t,u⟩] w λr w'=>r=.returned (.bool (aA ⟨3,a,b,n,s,t,u⟩))∧aa ac w w':=by
 have HC:=λW h=>@iI w W 3 a b n s t u h
 have az:=fR (w.alloc (.cells #[I J 3,I J a,I J b,I J n,V s,V t,V u] 42));have HF:Hid (aa ac w (w.alloc (.cells #[I J 3,I J a,I J b,I J n,V s,V t,V u] 42))):=(fR w).alloc _;unfold dt;go_enter Tryz.func151,Tryz.ntmps151
 go_wp2_with (first
  | (go_at_call 186;refine(j9 _ _).mono ?_;rintro e w' ⟨rfl,rfl⟩)
  | (go_at_call 187;subst_vars;refine(vP _ _).mono ?_;rintro e w' ⟨rfl,hf'⟩;replace az:=az.trans hf';obtain⟨c1,c2,c3,c4,c5,c6⟩:=HC _ az;clear hf')
  | (go_at_call 188;subst_vars;refine(rU _ _).mono ?_;rintro e w' ⟨rfl,hf'⟩;replace az:=az.trans hf';obtain⟨c1,c2,c3,c4,c5,c6⟩:=HC _ az;clear hf')
  | fail)
 all_goals
  subst_vars
  go_ret;refine⟨af ?_,HF.out.trans az⟩;clear HC HF az;simp[aA,aI,aZ, *]
  try (rw[Bool.eq_iff_iff];simp[*])
theorem AQ(a b n:Int)(s t u:ByteArray)(w:World):Calls pQ 151 #[dt ⟨4,a,b,n,s,t,u⟩] w λr w'=>r=.returned (.bool (aA ⟨4,a,b,n,s,t,u⟩))∧aa ac w w':=by
 have HC:=λW h=>@iI w W 4 a b n s t u h
 have az:=fR (w.alloc (.cells #[I J 4,I J a,I J b,I J n,V s,V t,V u] 42));have HF:Hid (aa ac w (w.alloc (.cells #[I J 4,I J a,I J b,I J n,V s,V t,V u] 42))):=(fR w).alloc _;unfold dt;go_enter Tryz.func151,Tryz.ntmps151
 go_wp2_with (first
  | (go_at_call 186;refine(j9 _ _).mono ?_;rintro e w' ⟨rfl,rfl⟩)
  | fail)
 all_goals
  subst_vars
  go_ret;refine⟨af ?_,HF.out.trans az⟩;clear HC HF az;simp[aA,aI,aZ, *]
  try (rw[Bool.eq_iff_iff];simp[*])
theorem AR(a b n:Int)(s t u:ByteArray)(w:World):Calls pQ 151 #[dt ⟨5,a,b,n,s,t,u⟩] w λr w'=>r=.returned (.bool (aA ⟨5,a,b,n,s,t,u⟩))∧aa ac w w':=by
 have HC:=λW h=>@iI w W 5 a b n s t u h
 have az:=fR (w.alloc (.cells #[I J 5,I J a,I J b,I J n,V s,V t,V u] 42));have HF:Hid (aa ac w (w.alloc (.cells #[I J 5,I J a,I J b,I J n,V s,V t,V u] 42))):=(fR w).alloc _;unfold dt;go_enter Tryz.func151,Tryz.ntmps151
 go_wp2_with (first
  | (go_at_call 186;refine(j9 _ _).mono ?_;rintro e w' ⟨rfl,rfl⟩)
  | (go_at_call 188;subst_vars;refine(rU _ _).mono ?_;rintro e w' ⟨rfl,hf'⟩;replace az:=az.trans hf';obtain⟨c1,c2,c3,c4,c5,c6⟩:=HC _ az;clear hf')
  | fail)
 all_goals
  subst_vars
  go_ret;refine⟨af ?_,HF.out.trans az⟩;clear HC HF az;simp[aA,aI,aZ, *]
  try (rw[Bool.eq_iff_iff];simp[*])
theorem AU(a b n:Int)(s t u:ByteArray)(w:World):Calls pQ 151 #[dt ⟨6,a,b,n,s,t,u⟩] w λr w'=>r=.returned (.bool (aA ⟨6,a,b,n,s,t,u⟩))∧aa ac w w':=by
 have HC:=λW h=>@iI w W 6 a b n s t u h
 have az:=fR (w.alloc (.cells #[I J 6,I J a,I J b,I J n,V s,V t,V u] 42));have HF:Hid (aa ac w (w.alloc (.cells #[I J 6,I J a,I J b,I J n,V s,V t,V u] 42))):=(fR w).alloc _;unfold dt;go_enter Tryz.func151,Tryz.ntmps151
 go_wp2_with (first
  | (go_at_call 186;refine(j9 _ _).mono ?_;rintro e w' ⟨rfl,rfl⟩)
  | fail)
 all_goals
  subst_vars
  go_ret;refine⟨af ?_,HF.out.trans az⟩;clear HC HF az;simp[aA,aI,aZ, *]
  try (rw[Bool.eq_iff_iff];simp[*])
theorem AV(a b n:Int)(s t u:ByteArray)(w:World):Calls pQ 151 #[dt ⟨7,a,b,n,s,t,u⟩] w λr w'=>r=.returned (.bool (aA ⟨7,a,b,n,s,t,u⟩))∧aa ac w w':=by
 have HC:=λW h=>@iI w W 7 a b n s t u h
 have az:=fR (w.alloc (.cells #[I J 7,I J a,I J b,I J n,V s,V t,V u] 42));have HF:Hid (aa ac w (w.alloc (.cells #[I J 7,I J a,I J b,I J n,V s,V t,V u] 42))):=(fR w).alloc _;unfold dt;go_enter Tryz.func151,Tryz.ntmps151
 go_wp2_with (first
  | (go_at_call 186;refine(j9 _ _).mono ?_;rintro e w' ⟨rfl,rfl⟩)
  | (go_at_call 189;subst_vars;refine(uz _ _).mono ?_;rintro e w' ⟨rfl,hf'⟩;replace az:=az.trans hf';obtain⟨c1,c2,c3,c4,c5,c6⟩:=HC _ az;clear hf')
  | (go_at_call 187;subst_vars;refine(vP _ _).mono ?_;rintro e w' ⟨rfl,hf'⟩;replace az:=az.trans hf';obtain⟨c1,c2,c3,c4,c5,c6⟩:=HC _ az;clear hf')
  | (go_at_call 188;subst_vars;refine(rU _ _).mono ?_;rintro e w' ⟨rfl,hf'⟩;replace az:=az.trans hf';obtain⟨c1,c2,c3,c4,c5,c6⟩:=HC _ az;clear hf')
  | (go_at_call 190;subst_vars;refine(xZ _ _).mono ?_;rintro e w' ⟨rfl,hf'⟩;replace az:=az.trans hf';obtain⟨c1,c2,c3,c4,c5,c6⟩:=HC _ az;clear hf')
  | fail)
 all_goals
  subst_vars
  go_ret;refine⟨af ?_,HF.out.trans az⟩;clear HC HF az;simp[aA,aI,aZ, *]
  try (rw[Bool.eq_iff_iff];simp[*])
theorem AW(a b n:Int)(s t u:ByteArray)(w:World):Calls pQ 151 #[dt ⟨8,a,b,n,s,t,u⟩] w λr w'=>r=.returned (.bool (aA ⟨8,a,b,n,s,t,u⟩))∧aa ac w w':=by
 have HC:=λW h=>@iI w W 8 a b n s t u h
 have az:=fR (w.alloc (.cells #[I J 8,I J a,I J b,I J n,V s,V t,V u] 42));have HF:Hid (aa ac w (w.alloc (.cells #[I J 8,I J a,I J b,I J n,V s,V t,V u] 42))):=(fR w).alloc _;unfold dt;go_enter Tryz.func151,Tryz.ntmps151
 go_wp2_with (first
  | (go_at_call 186;refine(j9 _ _).mono ?_;rintro e w' ⟨rfl,rfl⟩)
  | fail)
 all_goals
  subst_vars
  go_ret;refine⟨af ?_,HF.out.trans az⟩;clear HC HF az;simp[aA,aI,aZ, *]
  try (rw[Bool.eq_iff_iff];simp[*])
theorem AX(a b n:Int)(s t u:ByteArray)(w:World):Calls pQ 151 #[dt ⟨9,a,b,n,s,t,u⟩] w λr w'=>r=.returned (.bool (aA ⟨9,a,b,n,s,t,u⟩))∧aa ac w w':=by
 have HC:=λW h=>@iI w W 9 a b n s t u h
 have az:=fR (w.alloc (.cells #[I J 9,I J a,I J b,I J n,V s,V t,V u] 42));have HF:Hid (aa ac w (w.alloc (.cells #[I J 9,I J a,I J b,I J n,V s,V t,V u] 42))):=(fR w).alloc _;unfold dt;go_enter Tryz.func151,Tryz.ntmps151
 go_wp2_with (first
  | (go_at_call 186;refine(j9 _ _).mono ?_;rintro e w' ⟨rfl,rfl⟩)
  | fail)
 all_goals
  subst_vars
  go_ret;refine⟨af ?_,HF.out.trans az⟩;clear HC HF az;simp[aA,aI,aZ, *]
  try (rw[Bool.eq_iff_iff];simp[*])
theorem yN(a b n:Int)(s t u:ByteArray)(w:World):Calls pQ 151 #[dt ⟨10,a,b,n,s,t,u⟩] w λr w'=>r=.returned (.bool (aA ⟨10,a,b,n,s,t,u⟩))∧aa ac w w':=by
 have HC:=λW h=>@iI w W 10 a b n s t u h
 have az:=fR (w.alloc (.cells #[I J 10,I J a,I J b,I J n,V s,V t,V u] 42));have HF:Hid (aa ac w (w.alloc (.cells #[I J 10,I J a,I J b,I J n,V s,V t,V u] 42))):=(fR w).alloc _;unfold dt;go_enter Tryz.func151,Tryz.ntmps151
 go_wp2_with (first
  | (go_at_call 186;refine(j9 _ _).mono ?_;rintro e w' ⟨rfl,rfl⟩)
  | (go_at_call 148;subst_vars;refine(AK _ _).mono ?_;rintro e w' ⟨rfl,hf'⟩;replace az:=az.trans hf';obtain⟨c1,c2,c3,c4,c5,c6⟩:=HC _ az;clear hf')
  | fail)
 all_goals
  subst_vars
  go_ret;refine⟨af ?_,HF.out.trans az⟩;clear HC HF az;simp[aA,aI,aZ, *]
  try (rw[Bool.eq_iff_iff];simp[*])
theorem yO(a b n:Int)(s t u:ByteArray)(w:World):Calls pQ 151 #[dt ⟨11,a,b,n,s,t,u⟩] w λr w'=>r=.returned (.bool (aA ⟨11,a,b,n,s,t,u⟩))∧aa ac w w':=by
 have HC:=λW h=>@iI w W 11 a b n s t u h
 have az:=fR (w.alloc (.cells #[I J 11,I J a,I J b,I J n,V s,V t,V u] 42));have HF:Hid (aa ac w (w.alloc (.cells #[I J 11,I J a,I J b,I J n,V s,V t,V u] 42))):=(fR w).alloc _;unfold dt;go_enter Tryz.func151,Tryz.ntmps151
 go_wp2_with (first
  | (go_at_call 186;refine(j9 _ _).mono ?_;rintro e w' ⟨rfl,rfl⟩)
  | (go_at_call 183;subst_vars;refine(rT _ _).mono ?_;rintro e w' ⟨rfl,hf'⟩;replace az:=az.trans hf';obtain⟨c1,c2,c3,c4,c5,c6⟩:=HC _ az;clear hf')
  | (go_at_call 191;subst_vars;refine(CV _ _).mono ?_;rintro e w' ⟨rfl,hf'⟩;replace az:=az.trans hf';obtain⟨c1,c2,c3,c4,c5,c6⟩:=HC _ az;clear hf')
  | fail)
 all_goals
  subst_vars
  go_ret;refine⟨af ?_,HF.out.trans az⟩;clear HC HF az;simp[aA,aI,aZ, *]
  try (rw[Bool.eq_iff_iff];simp[*])
theorem yP(a b n:Int)(s t u:ByteArray)(w:World):Calls pQ 151 #[dt ⟨12,a,b,n,s,t,u⟩] w λr w'=>r=.returned (.bool (aA ⟨12,a,b,n,s,t,u⟩))∧aa ac w w':=by
 have HC:=λW h=>@iI w W 12 a b n s t u h
 have az:=fR (w.alloc (.cells #[I J 12,I J a,I J b,I J n,V s,V t,V u] 42));have HF:Hid (aa ac w (w.alloc (.cells #[I J 12,I J a,I J b,I J n,V s,V t,V u] 42))):=(fR w).alloc _;unfold dt;go_enter Tryz.func151,Tryz.ntmps151
 go_wp2_with (first
  | (go_at_call 186;refine(j9 _ _).mono ?_;rintro e w' ⟨rfl,rfl⟩)
  | fail)
 all_goals
  subst_vars
  go_ret;refine⟨af ?_,HF.out.trans az⟩;clear HC HF az;simp[aA,aI,aZ, *]
  try (rw[Bool.eq_iff_iff];simp[*])
theorem yQ(a b n:Int)(s t u:ByteArray)(w:World):Calls pQ 151 #[dt ⟨13,a,b,n,s,t,u⟩] w λr w'=>r=.returned (.bool (aA ⟨13,a,b,n,s,t,u⟩))∧aa ac w w':=by
 have HC:=λW h=>@iI w W 13 a b n s t u h
 have az:=fR (w.alloc (.cells #[I J 13,I J a,I J b,I J n,V s,V t,V u] 42));have HF:Hid (aa ac w (w.alloc (.cells #[I J 13,I J a,I J b,I J n,V s,V t,V u] 42))):=(fR w).alloc _;unfold dt;go_enter Tryz.func151,Tryz.ntmps151
 go_wp2_with (first
  | (go_at_call 186;refine(j9 _ _).mono ?_;rintro e w' ⟨rfl,rfl⟩)
  | (go_at_call 189;subst_vars;refine(uz _ _).mono ?_;rintro e w' ⟨rfl,hf'⟩;replace az:=az.trans hf';obtain⟨c1,c2,c3,c4,c5,c6⟩:=HC _ az;clear hf')
  | fail)
 all_goals
  subst_vars
  go_ret;refine⟨af ?_,HF.out.trans az⟩;clear HC HF az;simp[aA,aI,aZ, *]
  try (rw[Bool.eq_iff_iff];simp[*])
theorem AY(k a b n:Int)(s t u:ByteArray)(w:World)(hk:¬(1≤k∧k≤13)):Calls pQ 151 #[dt ⟨k,a,b,n,s,t,u⟩] w λr w'=>r=.returned (.bool false)∧aa ac w w':=by
 have HF:Hid (aa ac w (w.alloc (.cells #[I J k,I J a,I J b,I J n,V s,V t,V u] 42))):=(fR w).alloc _;have b1:(k==1)=false:=by simp;omega
 have b2:(k==2)=false:=by simp;omega
 have b3:(k==3)=false:=by simp;omega
 have b4:(k==4)=false:=by simp;omega
 have b5:(k==5)=false:=by simp;omega
 have b6:(k==6)=false:=by simp;omega
 have b7:(k==7)=false:=by simp;omega
 have b8:(k==8)=false:=by simp;omega
 have b9:(k==9)=false:=by simp;omega
 have V8:(k==10)=false:=by simp;omega
 have V9:(k==11)=false:=by simp;omega
 have Wa:(k==12)=false:=by simp;omega
 have Wb:(k==13)=false:=by simp;omega
 clear hk;unfold dt;go_enter Tryz.func151,Tryz.ntmps151;go_wp2_with (go_at_call 186;refine(j9 _ _).mono ?_;rintro e w' ⟨rfl,rfl⟩)
 all_goals
  subst_vars
  go_ret;exact⟨rfl,HF.out⟩
theorem rW{e:Ev}(hk:¬(1≤e.kind∧e.kind≤13)):aA e=false:=by
 unfold aA
 repeat' split
 all_goals first|rfl|omega
theorem CW(e:Ev)(w:World):Calls pQ 151 #[dt e] w λr w'=>r=.returned (.bool (aA e))∧aa ac w w':=by
 by_cases hk:1≤e.kind∧e.kind≤13
 ·obtain⟨k,a,b,n,s,t,u⟩:=e
  simp only at hk;rcases(by omega:k=1∨k=2∨k=3∨k=4∨k=5∨k=6∨k=7∨k=8∨k=9∨k=10∨k=11∨k=12∨k=13) with rfl|rfl|rfl|rfl|rfl|rfl|rfl|rfl|rfl|rfl|rfl|rfl|rfl
  ·exact AL a b n s t u w
  ·exact AO a b n s t u w
  ·exact AP a b n s t u w
  ·exact AQ a b n s t u w
  ·exact AR a b n s t u w
  ·exact AU a b n s t u w
  ·exact AV a b n s t u w
  ·exact AW a b n s t u w
  ·exact AX a b n s t u w
  ·exact yN a b n s t u w
  ·exact yO a b n s t u w
  ·exact yP a b n s t u w
  ·exact yQ a b n s t u w
 ·rw[rW hk]
  exact AY e.kind e.a e.b e.n e.s e.t e.u w hk
end Go.Proofs.YtaecjmiobllhmaaGreat
