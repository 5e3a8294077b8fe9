/- Words. -/
import Derived.Test.YtaecjmiobllhmaaGreatGp08
set_option linter.unusedVariables false
set_option linter.unusedSimpArgs false
set_option maxRecDepth 100000
set_option maxHeartbeats 16000000
namespace Go.Proofs.YtaecjmiobllhmaaGreat
open Go.RowKit Go.Lib
theorem ev_cells{w W:World}{k a b n:Int}{s t u:ByteArray}(h:Frm Nix (w.alloc (.cells #[.int .i64 k,.int .i64 a,.int .i64 b,.int .i64 n,.string s,.string t,.string u] 42)) W):
  W.cell? ⟨w.heap.size,1,none⟩=some (.int .i64 a)∧W.cell? ⟨w.heap.size,2,none⟩=some (.int .i64 b)∧W.cell? ⟨w.heap.size,3,none⟩=some (.int .i64 n)∧W.cell? ⟨w.heap.size,4,none⟩=some (.string s)∧W.cell? ⟨w.heap.size,5,none⟩=some (.string t)∧W.cell? ⟨w.heap.size,6,none⟩=some (.string u):=by
 have hb:=(Blk.new w 42 #[.int .i64 k,.int .i64 a,.int .i64 b,.int .i64 n,.string s,.string t,.string u]).frm h id;have c1:=hb.cell 1;have c2:=hb.cell 2;have c3:=hb.cell 3;have c4:=hb.cell 4;have c5:=hb.cell 5;have c6:=hb.cell 6;simp at c1 c2 c3 c4 c5 c6;exact⟨c1,c2,c3,c4,c5,c6⟩
theorem eRight1_any(a b n:Int)(s t u:ByteArray)(w:World):Calls Tryz.prog 151 #[evV ⟨1,a,b,n,s,t,u⟩] w λr w'=>r=.returned (.bool (evRight ⟨1,a,b,n,s,t,u⟩))∧Frm Nix w w':=by
 have HC:=λW h=>@ev_cells w W 1 a b n s t u h
 have hcur:=fR (w.alloc (.cells #[.int .i64 1,.int .i64 a,.int .i64 b,.int .i64 n,.string s,.string t,.string u] 42));have HF:Hid (Frm Nix w (w.alloc (.cells #[.int .i64 1,.int .i64 a,.int .i64 b,.int .i64 n,.string s,.string t,.string u] 42))):=(fR w).alloc _;unfold evV;go_enter Tryz.func151,Tryz.ntmps151
 go_wp2_with (first
  | (go_at_call 186;refine(eId_any _ _).mono ?_;rintro e w' ⟨rfl,rfl⟩)
  | (go_at_call 183;subst_vars;refine(eLabel_any _ _).mono ?_;rintro e w' ⟨rfl,hf'⟩;replace hcur:=hcur.trans hf';obtain⟨c1,c2,c3,c4,c5,c6⟩:=HC _ hcur;clear hf')
  | fail)
 all_goals
  subst_vars
  go_ret;refine⟨ret_bool ?_,HF.out.trans hcur⟩;clear HC HF hcur;simp[evRight,folderOk,flagOk, *]
  try (rw[Bool.eq_iff_iff];simp[*])
theorem eRight2_any(a b n:Int)(s t u:ByteArray)(w:World):Calls Tryz.prog 151 #[evV ⟨2,a,b,n,s,t,u⟩] w λr w'=>r=.returned (.bool (evRight ⟨2,a,b,n,s,t,u⟩))∧Frm Nix w w':=by
 have HC:=λW h=>@ev_cells w W 2 a b n s t u h
 have hcur:=fR (w.alloc (.cells #[.int .i64 2,.int .i64 a,.int .i64 b,.int .i64 n,.string s,.string t,.string u] 42));have HF:Hid (Frm Nix w (w.alloc (.cells #[.int .i64 2,.int .i64 a,.int .i64 b,.int .i64 n,.string s,.string t,.string u] 42))):=(fR w).alloc _;unfold evV;go_enter Tryz.func151,Tryz.ntmps151
 go_wp2_with (first
  | (go_at_call 186;refine(eId_any _ _).mono ?_;rintro e w' ⟨rfl,rfl⟩)
  | fail)
 all_goals
  subst_vars
  go_ret;refine⟨ret_bool ?_,HF.out.trans hcur⟩;clear HC HF hcur;simp[evRight,folderOk,flagOk, *]
  try (rw[Bool.eq_iff_iff];simp[*])
theorem eRight3_any(a b n:Int)(s t u:ByteArray)(w:World):Calls Tryz.prog 151 #[evV ⟨3,a,b,n,s,t,u⟩] w λr w'=>r=.returned (.bool (evRight ⟨3,a,b,n,s,t,u⟩))∧Frm Nix w w':=by
 have HC:=λW h=>@ev_cells w W 3 a b n s t u h
 have hcur:=fR (w.alloc (.cells #[.int .i64 3,.int .i64 a,.int .i64 b,.int .i64 n,.string s,.string t,.string u] 42));have HF:Hid (Frm Nix w (w.alloc (.cells #[.int .i64 3,.int .i64 a,.int .i64 b,.int .i64 n,.string s,.string t,.string u] 42))):=(fR w).alloc _;unfold evV;go_enter Tryz.func151,Tryz.ntmps151
 go_wp2_with (first
  | (go_at_call 186;refine(eId_any _ _).mono ?_;rintro e w' ⟨rfl,rfl⟩)
  | (go_at_call 187;subst_vars;refine(ePlace_any _ _).mono ?_;rintro e w' ⟨rfl,hf'⟩;replace hcur:=hcur.trans hf';obtain⟨c1,c2,c3,c4,c5,c6⟩:=HC _ hcur;clear hf')
  | (go_at_call 188;subst_vars;refine(eTitle_any _ _).mono ?_;rintro e w' ⟨rfl,hf'⟩;replace hcur:=hcur.trans hf';obtain⟨c1,c2,c3,c4,c5,c6⟩:=HC _ hcur;clear hf')
  | fail)
 all_goals
  subst_vars
  go_ret;refine⟨ret_bool ?_,HF.out.trans hcur⟩;clear HC HF hcur;simp[evRight,folderOk,flagOk, *]
  try (rw[Bool.eq_iff_iff];simp[*])
theorem eRight4_any(a b n:Int)(s t u:ByteArray)(w:World):Calls Tryz.prog 151 #[evV ⟨4,a,b,n,s,t,u⟩] w λr w'=>r=.returned (.bool (evRight ⟨4,a,b,n,s,t,u⟩))∧Frm Nix w w':=by
 have HC:=λW h=>@ev_cells w W 4 a b n s t u h
 have hcur:=fR (w.alloc (.cells #[.int .i64 4,.int .i64 a,.int .i64 b,.int .i64 n,.string s,.string t,.string u] 42));have HF:Hid (Frm Nix w (w.alloc (.cells #[.int .i64 4,.int .i64 a,.int .i64 b,.int .i64 n,.string s,.string t,.string u] 42))):=(fR w).alloc _;unfold evV;go_enter Tryz.func151,Tryz.ntmps151
 go_wp2_with (first
  | (go_at_call 186;refine(eId_any _ _).mono ?_;rintro e w' ⟨rfl,rfl⟩)
  | fail)
 all_goals
  subst_vars
  go_ret;refine⟨ret_bool ?_,HF.out.trans hcur⟩;clear HC HF hcur;simp[evRight,folderOk,flagOk, *]
  try (rw[Bool.eq_iff_iff];simp[*])
theorem eRight5_any(a b n:Int)(s t u:ByteArray)(w:World):Calls Tryz.prog 151 #[evV ⟨5,a,b,n,s,t,u⟩] w λr w'=>r=.returned (.bool (evRight ⟨5,a,b,n,s,t,u⟩))∧Frm Nix w w':=by
 have HC:=λW h=>@ev_cells w W 5 a b n s t u h
 have hcur:=fR (w.alloc (.cells #[.int .i64 5,.int .i64 a,.int .i64 b,.int .i64 n,.string s,.string t,.string u] 42));have HF:Hid (Frm Nix w (w.alloc (.cells #[.int .i64 5,.int .i64 a,.int .i64 b,.int .i64 n,.string s,.string t,.string u] 42))):=(fR w).alloc _;unfold evV;go_enter Tryz.func151,Tryz.ntmps151
 go_wp2_with (first
  | (go_at_call 186;refine(eId_any _ _).mono ?_;rintro e w' ⟨rfl,rfl⟩)
  | (go_at_call 188;subst_vars;refine(eTitle_any _ _).mono ?_;rintro e w' ⟨rfl,hf'⟩;replace hcur:=hcur.trans hf';obtain⟨c1,c2,c3,c4,c5,c6⟩:=HC _ hcur;clear hf')
  | fail)
 all_goals
  subst_vars
  go_ret;refine⟨ret_bool ?_,HF.out.trans hcur⟩;clear HC HF hcur;simp[evRight,folderOk,flagOk, *]
  try (rw[Bool.eq_iff_iff];simp[*])
theorem eRight6_any(a b n:Int)(s t u:ByteArray)(w:World):Calls Tryz.prog 151 #[evV ⟨6,a,b,n,s,t,u⟩] w λr w'=>r=.returned (.bool (evRight ⟨6,a,b,n,s,t,u⟩))∧Frm Nix w w':=by
 have HC:=λW h=>@ev_cells w W 6 a b n s t u h
 have hcur:=fR (w.alloc (.cells #[.int .i64 6,.int .i64 a,.int .i64 b,.int .i64 n,.string s,.string t,.string u] 42));have HF:Hid (Frm Nix w (w.alloc (.cells #[.int .i64 6,.int .i64 a,.int .i64 b,.int .i64 n,.string s,.string t,.string u] 42))):=(fR w).alloc _;unfold evV;go_enter Tryz.func151,Tryz.ntmps151
 go_wp2_with (first
  | (go_at_call 186;refine(eId_any _ _).mono ?_;rintro e w' ⟨rfl,rfl⟩)
  | fail)
 all_goals
  subst_vars
  go_ret;refine⟨ret_bool ?_,HF.out.trans hcur⟩;clear HC HF hcur;simp[evRight,folderOk,flagOk, *]
  try (rw[Bool.eq_iff_iff];simp[*])
theorem eRight7_any(a b n:Int)(s t u:ByteArray)(w:World):Calls Tryz.prog 151 #[evV ⟨7,a,b,n,s,t,u⟩] w λr w'=>r=.returned (.bool (evRight ⟨7,a,b,n,s,t,u⟩))∧Frm Nix w w':=by
 have HC:=λW h=>@ev_cells w W 7 a b n s t u h
 have hcur:=fR (w.alloc (.cells #[.int .i64 7,.int .i64 a,.int .i64 b,.int .i64 n,.string s,.string t,.string u] 42));have HF:Hid (Frm Nix w (w.alloc (.cells #[.int .i64 7,.int .i64 a,.int .i64 b,.int .i64 n,.string s,.string t,.string u] 42))):=(fR w).alloc _;unfold evV;go_enter Tryz.func151,Tryz.ntmps151
 go_wp2_with (first
  | (go_at_call 186;refine(eId_any _ _).mono ?_;rintro e w' ⟨rfl,rfl⟩)
  | (go_at_call 189;subst_vars;refine(eMoment_any _ _).mono ?_;rintro e w' ⟨rfl,hf'⟩;replace hcur:=hcur.trans hf';obtain⟨c1,c2,c3,c4,c5,c6⟩:=HC _ hcur;clear hf')
  | (go_at_call 187;subst_vars;refine(ePlace_any _ _).mono ?_;rintro e w' ⟨rfl,hf'⟩;replace hcur:=hcur.trans hf';obtain⟨c1,c2,c3,c4,c5,c6⟩:=HC _ hcur;clear hf')
  | (go_at_call 188;subst_vars;refine(eTitle_any _ _).mono ?_;rintro e w' ⟨rfl,hf'⟩;replace hcur:=hcur.trans hf';obtain⟨c1,c2,c3,c4,c5,c6⟩:=HC _ hcur;clear hf')
  | (go_at_call 190;subst_vars;refine(eLink_any _ _).mono ?_;rintro e w' ⟨rfl,hf'⟩;replace hcur:=hcur.trans hf';obtain⟨c1,c2,c3,c4,c5,c6⟩:=HC _ hcur;clear hf')
  | fail)
 all_goals
  subst_vars
  go_ret;refine⟨ret_bool ?_,HF.out.trans hcur⟩;clear HC HF hcur;simp[evRight,folderOk,flagOk, *]
  try (rw[Bool.eq_iff_iff];simp[*])
theorem eRight8_any(a b n:Int)(s t u:ByteArray)(w:World):Calls Tryz.prog 151 #[evV ⟨8,a,b,n,s,t,u⟩] w λr w'=>r=.returned (.bool (evRight ⟨8,a,b,n,s,t,u⟩))∧Frm Nix w w':=by
 have HC:=λW h=>@ev_cells w W 8 a b n s t u h
 have hcur:=fR (w.alloc (.cells #[.int .i64 8,.int .i64 a,.int .i64 b,.int .i64 n,.string s,.string t,.string u] 42));have HF:Hid (Frm Nix w (w.alloc (.cells #[.int .i64 8,.int .i64 a,.int .i64 b,.int .i64 n,.string s,.string t,.string u] 42))):=(fR w).alloc _;unfold evV;go_enter Tryz.func151,Tryz.ntmps151
 go_wp2_with (first
  | (go_at_call 186;refine(eId_any _ _).mono ?_;rintro e w' ⟨rfl,rfl⟩)
  | fail)
 all_goals
  subst_vars
  go_ret;refine⟨ret_bool ?_,HF.out.trans hcur⟩;clear HC HF hcur;simp[evRight,folderOk,flagOk, *]
  try (rw[Bool.eq_iff_iff];simp[*])
theorem eRight9_any(a b n:Int)(s t u:ByteArray)(w:World):Calls Tryz.prog 151 #[evV ⟨9,a,b,n,s,t,u⟩] w λr w'=>r=.returned (.bool (evRight ⟨9,a,b,n,s,t,u⟩))∧Frm Nix w w':=by
 have HC:=λW h=>@ev_cells w W 9 a b n s t u h
 have hcur:=fR (w.alloc (.cells #[.int .i64 9,.int .i64 a,.int .i64 b,.int .i64 n,.string s,.string t,.string u] 42));have HF:Hid (Frm Nix w (w.alloc (.cells #[.int .i64 9,.int .i64 a,.int .i64 b,.int .i64 n,.string s,.string t,.string u] 42))):=(fR w).alloc _;unfold evV;go_enter Tryz.func151,Tryz.ntmps151
 go_wp2_with (first
  | (go_at_call 186;refine(eId_any _ _).mono ?_;rintro e w' ⟨rfl,rfl⟩)
  | fail)
 all_goals
  subst_vars
  go_ret;refine⟨ret_bool ?_,HF.out.trans hcur⟩;clear HC HF hcur;simp[evRight,folderOk,flagOk, *]
  try (rw[Bool.eq_iff_iff];simp[*])
theorem eRight10_any(a b n:Int)(s t u:ByteArray)(w:World):Calls Tryz.prog 151 #[evV ⟨10,a,b,n,s,t,u⟩] w λr w'=>r=.returned (.bool (evRight ⟨10,a,b,n,s,t,u⟩))∧Frm Nix w w':=by
 have HC:=λW h=>@ev_cells w W 10 a b n s t u h
 have hcur:=fR (w.alloc (.cells #[.int .i64 10,.int .i64 a,.int .i64 b,.int .i64 n,.string s,.string t,.string u] 42));have HF:Hid (Frm Nix w (w.alloc (.cells #[.int .i64 10,.int .i64 a,.int .i64 b,.int .i64 n,.string s,.string t,.string u] 42))):=(fR w).alloc _;unfold evV;go_enter Tryz.func151,Tryz.ntmps151
 go_wp2_with (first
  | (go_at_call 186;refine(eId_any _ _).mono ?_;rintro e w' ⟨rfl,rfl⟩)
  | (go_at_call 148;subst_vars;refine(eTag_any _ _).mono ?_;rintro e w' ⟨rfl,hf'⟩;replace hcur:=hcur.trans hf';obtain⟨c1,c2,c3,c4,c5,c6⟩:=HC _ hcur;clear hf')
  | fail)
 all_goals
  subst_vars
  go_ret;refine⟨ret_bool ?_,HF.out.trans hcur⟩;clear HC HF hcur;simp[evRight,folderOk,flagOk, *]
  try (rw[Bool.eq_iff_iff];simp[*])
theorem eRight11_any(a b n:Int)(s t u:ByteArray)(w:World):Calls Tryz.prog 151 #[evV ⟨11,a,b,n,s,t,u⟩] w λr w'=>r=.returned (.bool (evRight ⟨11,a,b,n,s,t,u⟩))∧Frm Nix w w':=by
 have HC:=λW h=>@ev_cells w W 11 a b n s t u h
 have hcur:=fR (w.alloc (.cells #[.int .i64 11,.int .i64 a,.int .i64 b,.int .i64 n,.string s,.string t,.string u] 42));have HF:Hid (Frm Nix w (w.alloc (.cells #[.int .i64 11,.int .i64 a,.int .i64 b,.int .i64 n,.string s,.string t,.string u] 42))):=(fR w).alloc _;unfold evV;go_enter Tryz.func151,Tryz.ntmps151
 go_wp2_with (first
  | (go_at_call 186;refine(eId_any _ _).mono ?_;rintro e w' ⟨rfl,rfl⟩)
  | (go_at_call 183;subst_vars;refine(eLabel_any _ _).mono ?_;rintro e w' ⟨rfl,hf'⟩;replace hcur:=hcur.trans hf';obtain⟨c1,c2,c3,c4,c5,c6⟩:=HC _ hcur;clear hf')
  | (go_at_call 191;subst_vars;refine(eQuery_any _ _).mono ?_;rintro e w' ⟨rfl,hf'⟩;replace hcur:=hcur.trans hf';obtain⟨c1,c2,c3,c4,c5,c6⟩:=HC _ hcur;clear hf')
  | fail)
 all_goals
  subst_vars
  go_ret;refine⟨ret_bool ?_,HF.out.trans hcur⟩;clear HC HF hcur;simp[evRight,folderOk,flagOk, *]
  try (rw[Bool.eq_iff_iff];simp[*])
theorem eRight12_any(a b n:Int)(s t u:ByteArray)(w:World):Calls Tryz.prog 151 #[evV ⟨12,a,b,n,s,t,u⟩] w λr w'=>r=.returned (.bool (evRight ⟨12,a,b,n,s,t,u⟩))∧Frm Nix w w':=by
 have HC:=λW h=>@ev_cells w W 12 a b n s t u h
 have hcur:=fR (w.alloc (.cells #[.int .i64 12,.int .i64 a,.int .i64 b,.int .i64 n,.string s,.string t,.string u] 42));have HF:Hid (Frm Nix w (w.alloc (.cells #[.int .i64 12,.int .i64 a,.int .i64 b,.int .i64 n,.string s,.string t,.string u] 42))):=(fR w).alloc _;unfold evV;go_enter Tryz.func151,Tryz.ntmps151
 go_wp2_with (first
  | (go_at_call 186;refine(eId_any _ _).mono ?_;rintro e w' ⟨rfl,rfl⟩)
  | fail)
 all_goals
  subst_vars
  go_ret;refine⟨ret_bool ?_,HF.out.trans hcur⟩;clear HC HF hcur;simp[evRight,folderOk,flagOk, *]
  try (rw[Bool.eq_iff_iff];simp[*])
theorem eRight13_any(a b n:Int)(s t u:ByteArray)(w:World):Calls Tryz.prog 151 #[evV ⟨13,a,b,n,s,t,u⟩] w λr w'=>r=.returned (.bool (evRight ⟨13,a,b,n,s,t,u⟩))∧Frm Nix w w':=by
 have HC:=λW h=>@ev_cells w W 13 a b n s t u h
 have hcur:=fR (w.alloc (.cells #[.int .i64 13,.int .i64 a,.int .i64 b,.int .i64 n,.string s,.string t,.string u] 42));have HF:Hid (Frm Nix w (w.alloc (.cells #[.int .i64 13,.int .i64 a,.int .i64 b,.int .i64 n,.string s,.string t,.string u] 42))):=(fR w).alloc _;unfold evV;go_enter Tryz.func151,Tryz.ntmps151
 go_wp2_with (first
  | (go_at_call 186;refine(eId_any _ _).mono ?_;rintro e w' ⟨rfl,rfl⟩)
  | (go_at_call 189;subst_vars;refine(eMoment_any _ _).mono ?_;rintro e w' ⟨rfl,hf'⟩;replace hcur:=hcur.trans hf';obtain⟨c1,c2,c3,c4,c5,c6⟩:=HC _ hcur;clear hf')
  | fail)
 all_goals
  subst_vars
  go_ret;refine⟨ret_bool ?_,HF.out.trans hcur⟩;clear HC HF hcur;simp[evRight,folderOk,flagOk, *]
  try (rw[Bool.eq_iff_iff];simp[*])
theorem eRight0_any(k a b n:Int)(s t u:ByteArray)(w:World)(hk:¬(1≤k∧k≤13)):Calls Tryz.prog 151 #[evV ⟨k,a,b,n,s,t,u⟩] w λr w'=>r=.returned (.bool false)∧Frm Nix w w':=by
 have HF:Hid (Frm Nix w (w.alloc (.cells #[.int .i64 k,.int .i64 a,.int .i64 b,.int .i64 n,.string s,.string t,.string u] 42))):=(fR w).alloc _;have b1:(k==1)=false:=by simp;omega
 have b2:(k==2)=false:=by simp;omega
 have b3:(k==3)=false:=by simp;omega
 have b4:(k==4)=false:=by simp;omega
 have b5:(k==5)=false:=by simp;omega
 have b6:(k==6)=false:=by simp;omega
 have b7:(k==7)=false:=by simp;omega
 have b8:(k==8)=false:=by simp;omega
 have b9:(k==9)=false:=by simp;omega
 have b10:(k==10)=false:=by simp;omega
 have b11:(k==11)=false:=by simp;omega
 have b12:(k==12)=false:=by simp;omega
 have b13:(k==13)=false:=by simp;omega
 clear hk;unfold evV;go_enter Tryz.func151,Tryz.ntmps151;go_wp2_with (go_at_call 186;refine(eId_any _ _).mono ?_;rintro e w' ⟨rfl,rfl⟩)
 all_goals
  subst_vars
  go_ret;exact⟨rfl,HF.out⟩
theorem evRight_no{e:Ev}(hk:¬(1≤e.kind∧e.kind≤13)):evRight e=false:=by
 unfold evRight
 repeat' split
 all_goals first | rfl | omega
theorem eRight_any(e:Ev)(w:World):Calls Tryz.prog 151 #[evV e] w λr w'=>r=.returned (.bool (evRight e))∧Frm Nix w w':=by
 by_cases hk:1≤e.kind∧e.kind≤13
 ·obtain⟨k,a,b,n,s,t,u⟩:=e
  simp only at hk;rcases(by omega:k=1∨k=2∨k=3∨k=4∨k=5∨k=6∨k=7∨k=8∨k=9∨k=10∨k=11∨k=12∨k=13) with rfl | rfl | rfl | rfl | rfl | rfl | rfl | rfl | rfl | rfl | rfl | rfl | rfl
  ·exact eRight1_any a b n s t u w
  ·exact eRight2_any a b n s t u w
  ·exact eRight3_any a b n s t u w
  ·exact eRight4_any a b n s t u w
  ·exact eRight5_any a b n s t u w
  ·exact eRight6_any a b n s t u w
  ·exact eRight7_any a b n s t u w
  ·exact eRight8_any a b n s t u w
  ·exact eRight9_any a b n s t u w
  ·exact eRight10_any a b n s t u w
  ·exact eRight11_any a b n s t u w
  ·exact eRight12_any a b n s t u w
  ·exact eRight13_any a b n s t u w
 ·rw[evRight_no hk]
  exact eRight0_any e.kind e.a e.b e.n e.s e.t e.u w hk
end Go.Proofs.YtaecjmiobllhmaaGreat
