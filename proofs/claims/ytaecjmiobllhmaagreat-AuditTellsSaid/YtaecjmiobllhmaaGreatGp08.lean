/- Words. -/
import Derived.Test.YtaecjmiobllhmaaGreatGp07
import Derived.Test.YtaecjmiobllhmaaGreatGp05
import Derived.Handy
import Derived.BigRegion
set_option linter.unusedVariables false
set_option linter.unusedSimpArgs false
set_option maxRecDepth 100000
set_option maxHeartbeats 16000000
namespace Go.Proofs.YtaecjmiobllhmaaGreat
open Go.RowKit Go.Lib
theorem rBlank_any(c:Nat)(w:World)(hc:c≤1114111):Calls Tryz.prog 195 #[.int .i32 c] w λe w'=>e=.returned (.bool (blankR c))∧w=w':=by
 go_enter Tryz.func195,Tryz.ntmps195;go_wp2
 all_goals
  go_ret;refine⟨ret_bool ?_,rfl⟩
  try simp only[beq_iff_eq,bne_iff_ne,bne_eq_false_iff_eq,beq_eq_false_iff_ne,ne_eq,decide_eq_true_eq,decide_eq_false_iff_not,Bool.or_eq_true,Bool.or_eq_false_iff,Bool.and_eq_true,Bool.and_eq_false_iff] at *
  unfold blankR;rw[Bool.eq_iff_iff];simp
  try omega
theorem rRight_any(s:ByteArray)(w:World)(hs:s.size≤1000000):
  Calls Tryz.prog 207 #[.string s] w λe w'=>e=.returned (.bool (rightD (bys s)))∧w=w':=by
 go_enter Tryz.func207,Tryz.ntmps207;go_wp2
 go_loopw [0] (λsv wr=>∃(x:ByteArray),sv=.string x∧x.size≤s.size∧rightD (bys x)=rightD (bys s)∧w=wr) (λsv _=>strLen sv)
 case atStart=>exact⟨s,rfl,Nat.le_refl _,rfl,rfl⟩
 case round=>
  obtain⟨x,rfl,hx,hd,rfl⟩:=hrel;have HD:=h_ hd;clear hd
  by_cases h0:0<x.size
  ·have hne:bys x≠[]:=λe=>by
    have h1:(bys x).length=0:=by rw[e];rfl
    rw[←size_bys] at h1;omega
   have hle:=decodeL_le _ hne;have hw:=decodeL_width (bys x);rw[←size_bys] at hle;have hstep:=rightD_step (bys x);have hbad:=rightD_bad (bys x);have kf:=First_any x w (by omega) h0;obtain⟨R,K,hRK⟩:∃R K,decodeL (bys x)=(R,K):=⟨_,_,rfl⟩;rw[hRK] at hle hw hstep kf hbad;simp only at hle hw hstep;have HStep:=h_ hstep;have HBad:=h_ hbad;have KF:=h_ kf;have HCut:=h_ (bys_cut x K);have HNe:=h_ hne;clear hstep kf hRK hbad hne;have hk0:(0:Int)≤(K:Int):=Int.natCast_nonneg _;have hk1:(K:Int)≤(x.size:Int):=by omega
   have hx0:decide ((0:Int)<(x.size:Int))=true:=by simp;omega
   by_cases hRK:R=65533∧K=1
   ·obtain⟨rfl,rfl⟩:=hRK
    have HG:Hid (rightD (bys s)=false):=HD.out.symm.trans (HBad.out rfl HNe.out);go_wp2_with (go_at_call 197;refine KF.out.mono ?_;rintro e w' ⟨rfl,rfl⟩);go_ret;exact⟨by rw[HG.out];rfl,rfl⟩
   ·have hgo:(R,K)≠(65533,1):=λe=>hRK ⟨congrArg Prod.fst e,congrArg Prod.snd e⟩
    have HG:Hid (rightD (bys (x.extract K x.size))=rightD (bys s)):=by
     unfold Hid;rw[HCut.out,←HStep.out hgo HNe.out,HD.out]
    have HM:Hid ((x.extract K x.size).size<x.size):=by
     have:(x.extract K x.size).size=x.size - K:=by rw[size_bys,HCut.out,List.length_drop,←size_bys]
     unfold Hid;omega
    clear hgo
    by_cases hR:R=65533
    ·subst hR
     have hK:K≠1:=λe=>hRK ⟨rfl,e⟩
     have hb:((K:Int)==1)=false:=by simp;omega
     clear hRK;go_wp2_with (go_at_call 197;refine KF.out.mono ?_;rintro e w' ⟨rfl,rfl⟩);go_roundw
     case rel=>exact⟨x.extract K x.size,rfl,by have:=HM.out;omega,HG.out,by first | trivial | rfl⟩
     case measure=>exact HM.out
    ·have hb:((R:Int)==65533)=false:=by simp;omega
     clear hRK;go_wp2_with (go_at_call 197;refine KF.out.mono ?_;rintro e w' ⟨rfl,rfl⟩);go_roundw
     case rel=>exact⟨x.extract K x.size,rfl,by have:=HM.out;omega,HG.out,by first | trivial | rfl⟩
     case measure=>exact HM.out
  ·have h1:(bys x).length=0:=by
    have:=size_bys x;omega
   have hz:bys x=[]:=List.eq_nil_of_length_eq_zero h1
   have HE:Hid (rightD (bys s)=true):=by
    have:=HD.out;rw[hz,rightD_nil] at this;exact this.symm
   have hx0:decide ((0:Int)<(x.size:Int))=false:=decide_eq_false (by omega);clear hz h1;go_wp2;go_ret;exact⟨by rw[HE.out];rfl,rfl⟩
theorem cleanR_drop(L out:List Nat)(wt:Bool)(k:Nat)(h:k<L.length):cleanR (L.drop k) out wt=if blankR L[k]=true then cleanR (L.drop (k+1)) out (!out.isEmpty) else if ctrlR L[k]=true then cleanR (L.drop (k+1)) out wt else cleanR (L.drop (k+1)) ((if wt=true then out++[32] else out)++[L[k]]) false:=by
 rw[List.drop_eq_getElem_cons h,cleanR]
theorem rClean_any(s:ByteArray)(w:World)(hs:s.size≤1000000):
  Calls Tryz.prog 154 #[.string s] w λe w'=>e=.returned (.string (ofB (cleanS (bys s))))∧Frm Nix w w':=by
 go_enter Tryz.func154,Tryz.ntmps154;go_wp2_with fail;refine(Runes_any s w hs).mono ?_;rintro e w1 ⟨A1,c1,rfl,hrow1⟩;have HV:=h_ (runesD_valid (bys s));have hll:=runesD_len (bys s);rw[←size_bys] at hll;have HS:Hid (cleanS (bys s)=enc (cleanR (runesD (bys s)) [] false)):=rfl;generalize runesD (bys s)=L at *;generalize hn:L.length=n at *;have HN:=h_ hn;have HR1:=h_ hrow1;clear hn hrow1;go_wp2
 go_loopw [4,5,6] (λov wv iv wr=>∃(k:Nat) (out:List Nat) (wt:Bool),k≤n∧iv=.int .i64 k∧wv=.bool wt∧RowIn 21 w1 wr ov out.length (rvs out)∧cleanR (L.drop k) out wt=cleanR L [] false∧out.length≤2 * k∧∀r∈out,Vr r) (λ_ _ iv _=>n - (intOf iv).toNat)
 case atStart=>exact⟨0,[],false,Nat.zero_le _,rfl,rfl,RowIn.nil_ _ (Frm.refl _ _),rfl,by simp,by simp⟩
 case round=>
  obtain⟨k,out,wt,hk,rfl,rfl,hrow,hcl,hol,hvo⟩:=hrel;have HRow:=h_ hrow;have HVO:=h_ hvo;obtain⟨A,c,rfl,-,-,-,-⟩:=hrow.shape;have HCl:=h_ hcl;clear hrow hvo hcl;have hrd:=HR1.out.rd.frm HRow.out.frm λ_ _=>id
  by_cases hlt:k<n
  ·have hkl:k<L.length:=by rw[HN.out];exact hlt
   obtain⟨ad,u,rfl,-,hla,hu,hcu⟩:=hrd.at_ hlt;rw[rvs_at L k hkl] at hu;injection hu with hu;subst hu;have hv:=HV.out L[k] (List.getElem_mem hkl);have HD:=h_ (cleanR_drop L out wt k hkl);have hR:L[k]≤1114111:=by unfold Vr at hv;omega
   have KB:=λW=>rBlank_any L[k] W hR
   have hk0:(0:Int)≤(k:Int):=Int.natCast_nonneg _;have hk1:(k:Int)<(n:Int):=by omega
   clear hrd;generalize L[k]=R at *
   cases hbk:blankR R with
   | true=>
     have HG:Hid (cleanR (L.drop (k+1)) out (!out.isEmpty)=cleanR L [] false):=by
      have:=HCl.out;rw[HD.out,if_pos hbk] at this;exact this
     have HE:Hid (decide (0<(out.length:Int))=!out.isEmpty):=by
      unfold Hid
      cases out<;>simp
     rw[hbk] at KB;clear hv hbk;go_wp2_with (go_at_call 195;refine(KB _).mono ?_;rintro e w' ⟨rfl,rfl⟩);go_roundw
     case rel=>exact⟨k+1,out,!out.isEmpty,by omega,by go_num,by rw[←HE.out];simp,HRow.out,HG.out,by omega,HVO.out⟩
     case measure=>simp[intOf];omega
   | false=>
     rw[hbk] at KB
     cases hct:ctrlR R with
     | true=>
       have HG:Hid (cleanR (L.drop (k+1)) out wt=cleanR L [] false):=by
        have:=HCl.out;rw[HD.out,if_neg (by simp[hbk]),if_pos hct] at this;exact this
       have hcc:R<32∨127≤R∧R≤159:=by simpa [ctrlR] using hct
       clear hv hbk hct
       by_cases h32:R<32
       ·have b1:decide ((R:Int)<32)=true:=by simp;omega
        go_wp2_with (go_at_call 195;refine(KB _).mono ?_;rintro e w' ⟨rfl,rfl⟩);go_roundw
        case rel=>exact⟨k+1,out,wt,by omega,by go_num,rfl,HRow.out,HG.out,by omega,HVO.out⟩
        case measure=>simp[intOf];omega
       ·have b1:decide ((R:Int)<32)=false:=by simp;omega
        have b2:decide ((127:Int)≤(R:Int))=true:=by simp;omega
        have b3:decide ((R:Int)≤159)=true:=by simp;omega
        go_wp2_with (go_at_call 195;refine(KB _).mono ?_;rintro e w' ⟨rfl,rfl⟩);go_roundw
        case rel=>exact⟨k+1,out,wt,by omega,by go_num,rfl,HRow.out,HG.out,by omega,HVO.out⟩
        case measure=>simp[intOf];omega
     | false=>
       have HG:Hid (cleanR (L.drop (k+1)) ((if wt=true then out++[32] else out)++[R]) false=cleanR L [] false):=by
        have:=HCl.out;rw[HD.out,if_neg (by simp[hbk]),if_neg (by simp[hct])] at this;exact this
       have hcc:¬(R<32)∧¬(127≤R∧R≤159):=by simpa [ctrlR,not_or] using hct
       have HVR:=h_ hv;clear hv hbk hct;have b1:decide ((R:Int)<32)=false:=by simp;omega
       have hcase:decide ((127:Int)≤(R:Int))=false∨decide ((127:Int)≤(R:Int))=true∧decide ((R:Int)≤159)=false:=by
        by_cases h:127≤R
        ·right
         exact⟨by simp;omega,by simp;omega⟩
        ·left
         simp;omega
       have HV2:Hid (∀o:List Nat,(∀r∈o,Vr r)→∀r∈o++[R],Vr r):=by
        intro o ho r hr;rcases List.mem_append.1 hr with hr | hr
        ·exact ho r hr
        ·simp at hr
         rw[hr];exact HVR.out
       have hv32:Vr 32:=by unfold Vr;omega
       have HV3:Hid (∀r∈out++[32],Vr r):=by
        intro r hr;rcases List.mem_append.1 hr with hr | hr
        ·exact HVO.out r hr
        ·simp at hr
         rw[hr];exact hv32
       clear hv32
       cases wt with
       | false=>
         obtain⟨v2,w2,hrun,hrow2,-,-⟩:=HRow.out.push (P:=Tryz.prog) elemR (.int .i32 (R:Int)) rfl (by unfold maxLen;omega) (by omega)
         have HR2:Hid (RowIn 21 w1 w2 v2 (out++[R]).length (rvs (out++[R]))):=by
          unfold Hid;rw[List.length_append,rvs_append];exact hrow2
         clear hrow2;rcases hcase with b2 | ⟨b2,b3⟩
         all_goals
          go_wp2_with (first
           | (go_at_call 195;refine(KB _).mono ?_;rintro e w' ⟨rfl,rfl⟩)
           | (at_builtin;refine wpList_append_run hrun rfl _ _ rfl rfl rfl ?_))
          go_roundw
          case rel=>exact⟨k+1,out++[R],false,by omega,by go_num,rfl,HR2.out,HG.out,by simp;omega,HV2.out out HVO.out⟩
          case measure=>simp[intOf];omega
       | true=>
         obtain⟨v2,w2,hrun,hrow2,-,-⟩:=HRow.out.push (P:=Tryz.prog) elemR (.int .i32 32) rfl (by unfold maxLen;omega) (by omega);obtain⟨v3,w3,hrun3,hrow3,-,-⟩:=hrow2.push (P:=Tryz.prog) elemR (.int .i32 (R:Int)) rfl (by unfold maxLen;omega) (by omega)
         have HR3:Hid (RowIn 21 w1 w3 v3 (out++[32]++[R]).length (rvs (out++[32]++[R]))):=by
          unfold Hid;rw[List.length_append,List.length_append,rvs_append,rvs_append];exact hrow3
         have hlo:=hrow2.frm.size;clear hrow2 hrow3;rcases hcase with b2 | ⟨b2,b3⟩
         all_goals
          go_wp2_with (first
           | (go_at_call 195;refine(KB _).mono ?_;rintro e w' ⟨rfl,rfl⟩)
           | (at_builtin;refine wpList_append_run hrun rfl _ _ rfl rfl rfl ?_)
           | (at_builtin;refine wpList_append_run hrun3 rfl _ _ rfl rfl rfl ?_))
          go_roundw
          case rel=>exact⟨k+1,out++[32]++[R],false,by omega,by go_num,rfl,HR3.out,HG.out,by simp;omega,HV2.out (out++[32]) HV3.out⟩
          case measure=>simp[intOf];omega
  ·obtain rfl:k=n:=by omega
   have HE:Hid (out=cleanR L [] false):=by
    have h1:L.drop k=[]:=List.drop_eq_nil_iff.2 (by rw[HN.out];exact Nat.le_refl _);have h2:=HCl.out;rw[h1,cleanR] at h2;exact h2
   have KP:=h_ (Put_any A out.length c out HVO.out rfl (by omega) _ wr HRow.out.rd (λj hj=>(HRow.out.own.lt j hj).2));clear hrd;go_wp2_with (go_at_call 196;refine KP.out.mono ?_;rintro e w2 ⟨rfl,hf2⟩);go_ret;exact⟨by rw[HS.out,←HE.out];rfl,(HR1.out.frm.trans HRow.out.frm).trans hf2⟩
def eS:ByteArray:=⟨#[]⟩
structure Ev where
 kind:Int
 a:Int
 b:Int
 n:Int
 s:ByteArray
 t:ByteArray
 u:ByteArray
instance:DecidableEq Ev:=λx y=>
 decidable_of_iff (x.kind=y.kind∧x.a=y.a∧x.b=y.b∧x.n=y.n∧x.s=y.s∧x.t=y.t∧x.u=y.u)
  ⟨λ⟨h1,h2,h3,h4,h5,h6,h7⟩=>by cases x;cases y;simp_all,λh=>by subst h;simp⟩
def Ev.cells(e:Ev):List Value:=[.int .i64 e.kind,.int .i64 e.a,.int .i64 e.b,.int .i64 e.n,.string e.s,.string e.t,.string e.u]
def idOk(n:Int):Bool:=decide (1≤n∧n≤1048576)
def textOk(s:ByteArray)(most:Int):Bool:=decide ((s.size:Int)≤most)&&rightD (bys s)&&decide (cleanS (bys s)=bys s)
def labelOk(s:ByteArray):Bool:=decide (s≠eS)&&textOk s 64
def isWord(s:ByteArray):Bool:=decide (wordsL (bys s)=[bys s])
def tagOk(s:ByteArray):Bool:=labelOk s&&isWord s
def titleOk(s:ByteArray):Bool:=textOk s 256
def linkOk(s:ByteArray):Bool:=textOk s 512
def placeOk(s:ByteArray):Bool:=decide (s≠eS)&&linkOk s
def queryOk(s:ByteArray):Bool:=decide (s≠eS)&&textOk s 512
def momentOk(n:Int):Bool:=decide (-62135596800≤n∧n≤253402300799)
def folderOk(n:Int):Bool:=decide (n=0)||idOk n
def flagOk(n:Int):Bool:=decide (n=0∨n=1)
def evUsed(e:Ev):Ev:=
 if e.kind=1 then ⟨e.kind,e.a,e.b,0,e.s,eS,eS⟩
 else if e.kind=3 then ⟨e.kind,e.a,e.b,0,e.s,e.t,eS⟩
 else if e.kind=5 then ⟨e.kind,e.a,0,0,eS,e.t,eS⟩
 else if e.kind=6 then ⟨e.kind,e.a,e.b,0,eS,eS,eS⟩
 else if e.kind=7 then e
 else if e.kind=8∨e.kind=9 then ⟨e.kind,e.a,0,e.n,eS,eS,eS⟩
 else if e.kind=10 then ⟨e.kind,e.a,0,e.n,e.s,eS,eS⟩
 else if e.kind=11 then ⟨e.kind,e.a,0,0,e.s,e.t,eS⟩
 else if e.kind=13 then ⟨e.kind,0,0,e.n,eS,eS,eS⟩
 else ⟨e.kind,e.a,0,0,eS,eS,eS⟩
def evRight(e:Ev):Bool:=
 if e.kind=1 then idOk e.a&&folderOk e.b&&labelOk e.s
 else if e.kind=2∨e.kind=4∨e.kind=12 then idOk e.a
 else if e.kind=3 then idOk e.a&&folderOk e.b&&placeOk e.s&&titleOk e.t
 else if e.kind=5 then idOk e.a&&titleOk e.t
 else if e.kind=6 then idOk e.a&&folderOk e.b
 else if e.kind=7 then idOk e.a&&idOk e.b&&momentOk e.n&&placeOk e.s&&titleOk e.t&&linkOk e.u
 else if e.kind=8∨e.kind=9 then idOk e.a&&flagOk e.n
 else if e.kind=10 then idOk e.a&&flagOk e.n&&tagOk e.s
 else if e.kind=11 then idOk e.a&&labelOk e.s&&queryOk e.t
 else if e.kind=13 then momentOk e.n
 else false
def evOk(e:Ev):Bool:=evRight e&&decide (evUsed e=e)
theorem dWithin_any(n a b:Int)(w:World):Calls Tryz.prog 233 #[.int .i64 n,.int .i64 a,.int .i64 b] w λe w'=>e=.returned (.bool (decide (a≤n∧n≤b)))∧w=w':=by
 go_enter Tryz.func233,Tryz.ntmps233;go_wp2
 all_goals
  go_ret;refine⟨ret_bool ?_,rfl⟩;rw[Bool.eq_iff_iff];simp
  try omega
theorem dOf_any(n:Int)(w:World):Calls Tryz.prog 213 #[.int .i64 n] w λe w'=>(∃c0 c1 c2 c3 c4 c5:Int,e=.returned (.tuple #[.agg #[.int .i64 c0,.int .i64 c1,.int .i64 c2,.int .i64 c3,.int .i64 c4,.int .i64 c5],.int .i64 (if momentOk n=true then 0 else 40)]))∧Frm Nix w w':=by
 have HF:Hid (∀cs:Array Value,Frm Nix w (w.alloc (.cells cs 213))):=λcs=>(fR w).alloc _
 have KW:=λa b W=>dWithin_any n a b W
 cases hm:momentOk n with
 | false=>
   have hd:decide (-62135596800≤n∧n≤253402300799)=false:=by simpa [momentOk] using hm
   rw[if_neg (by simp)];go_enter Tryz.func213,Tryz.ntmps213;go_wp2_with (go_at_call 233;refine(KW _ _ _).mono ?_;rw[hd];rintro e w' ⟨rfl,rfl⟩)
   go_returns
   exact⟨⟨_,_,_,_,_,_,rfl⟩,(fR w).alloc _⟩
 | true=>
   have hd:decide (-62135596800≤n∧n≤253402300799)=true:=by simpa [momentOk] using hm
   have hn: -62135596800≤n∧n≤253402300799:=by simpa using hd
   rw[if_pos rfl];go_enter Tryz.func213,Tryz.ntmps213;go_wp2_with (go_at_call 233;refine(KW _ _ _).mono ?_;rw[hd];rintro e w' ⟨rfl,rfl⟩)
   all_goals
    go_returns
    exact⟨⟨_,_,_,_,_,_,rfl⟩,((fR w).alloc _).alloc _⟩
theorem rLeap_any(y:Int)(hy:1≤y∧y≤9999)(w:World):Calls Tryz.prog 243 #[.int .i64 y] w λe w'=>e=.returned (.bool (decide (y % 4=0∧y % 100≠0∨y % 400=0)))∧w=w':=by
 go_enter Tryz.func243,Tryz.ntmps243;go_wp2
 all_goals
  go_ret;refine⟨ret_bool ?_,rfl⟩;rw[Bool.eq_iff_iff];simp;omega
def daysR(y m:Int):Int:=if m=2 then (if y % 4=0∧y % 100≠0∨y % 400=0 then 29 else 28) else if m=4∨m=6∨m=9∨m=11 then 30 else 31
theorem rDays_any(y m:Int)(hy:1≤y∧y≤9999)(hm:1≤m∧m≤12)(w:World):Calls Tryz.prog 235 #[.int .i64 y,.int .i64 m] w λe w'=>e=.returned (.int .i64 (daysR y m))∧w=w':=by
 have KL:=λW=>rLeap_any y hy W
 by_cases hl:y % 4=0∧y % 100≠0∨y % 400=0
 ·have HD:Hid (daysR y m=if m=2 then 29 else if m=4∨m=6∨m=9∨m=11 then 30 else 31):=by unfold Hid daysR;rw[if_pos hl]
  rw[decide_eq_true hl] at KL;clear hl;rcases(by omega:m=1∨m=2∨m=3∨m=4∨m=5∨m=6∨m=7∨m=8∨m=9∨m=10∨m=11∨m=12) with rfl | rfl | rfl | rfl | rfl | rfl | rfl | rfl | rfl | rfl | rfl | rfl
  all_goals
   go_enter Tryz.func235,Tryz.ntmps235;go_wp2_with (go_at_call 243;refine(KL _).mono ?_;rintro e w' ⟨rfl,rfl⟩);go_ret;exact⟨ret_int (by rw[HD.out];decide),rfl⟩
 ·have HD:Hid (daysR y m=if m=2 then 28 else if m=4∨m=6∨m=9∨m=11 then 30 else 31):=by unfold Hid daysR;rw[if_neg hl]
  rw[decide_eq_false hl] at KL;clear hl;rcases(by omega:m=1∨m=2∨m=3∨m=4∨m=5∨m=6∨m=7∨m=8∨m=9∨m=10∨m=11∨m=12) with rfl | rfl | rfl | rfl | rfl | rfl | rfl | rfl | rfl | rfl | rfl | rfl
  all_goals
   go_enter Tryz.func235,Tryz.ntmps235;go_wp2_with (go_at_call 243;refine(KL _).mono ?_;rintro e w' ⟨rfl,rfl⟩);go_ret;exact⟨ret_int (by rw[HD.out];decide),rfl⟩
theorem rAhead_any(y:Int)(hy:1≤y∧y≤9999)(w:World):Calls Tryz.prog 234 #[.int .i64 y] w λe w'=>e=.returned (.int .i64 (365 * (y - 1)+(y - 1) / 4 - (y - 1) / 100+(y - 1) / 400))∧w=w':=by
 go_enter Tryz.func234,Tryz.ntmps234;go_wp2;go_ret;exact⟨rfl,rfl⟩
def monthsR(y:Int):Nat→Int
 | 0=>0
 | k+1=>monthsR y k+daysR y (k+1)
theorem monthsR_le(y:Int):∀k:Nat,0≤monthsR y k∧monthsR y k≤31 * k
 | 0=>by simp[monthsR]
 | k+1=>by
   have:=monthsR_le y k
   have h2:0≤daysR y (k+1)∧daysR y (k+1)≤31:=by
    unfold daysR
    repeat' split
    all_goals omega
   rw[monthsR];omega
def dayR(y:Int)(m:Nat)(d:Int):Int:=365 * (y - 1)+(y - 1) / 4 - (y - 1) / 100+(y - 1) / 400+d - 1+monthsR y (m - 1)
theorem rDay_any(y d:Int)(m:Nat)(hy:1≤y∧y≤9999)(hm:1≤m∧m≤12)(hd:1≤d∧d≤31)(w:World):Calls Tryz.prog 218 #[.int .i64 y,.int .i64 m,.int .i64 d] w λe w'=>e=.returned (.int .i64 (dayR y m d))∧w=w':=by
 have KA:=rAhead_any y hy w;have KD:=λ(k:Int) (hk:1≤k∧k≤12)=>rDays_any y k hy hk w
 have HR:Hid (dayR y m d=365 * (y - 1)+(y - 1) / 4 - (y - 1) / 100+(y - 1) / 400+d - 1+monthsR y (m - 1)):=rfl;have HML:=h_ (monthsR_le y)
 have HMS:Hid (∀k:Nat,1≤k→monthsR y (k - 1)+daysR y k=monthsR y (k+1 - 1)):=by
  intro k hk;obtain⟨q,rfl⟩:∃q,k=q+1:=⟨k - 1,by omega⟩;simp[monthsR]
 have hb:0≤365 * (y - 1)+(y - 1) / 4 - (y - 1) / 100+(y - 1) / 400∧365 * (y - 1)+(y - 1) / 4 - (y - 1) / 100+(y - 1) / 400≤4000000:=by omega
 generalize 365 * (y - 1)+(y - 1) / 4 - (y - 1) / 100+(y - 1) / 400=B at *;go_enter Tryz.func218,Tryz.ntmps218;go_wp2_with (go_at_call 234;refine KA.mono ?_;rintro e w' ⟨rfl,rfl⟩)
 go_loopw [7,8] (λnv iv wr=>∃k:Nat,1≤k∧k≤m∧iv=.int .i64 k∧nv=.int .i64 (B+d - 1+monthsR y (k - 1))∧w=wr) (λ_ iv _=>m - (intOf iv).toNat)
 case atStart=>exact⟨1,Nat.le_refl _,hm.1,rfl,by simp[monthsR],rfl⟩
 case round=>
  obtain⟨k,hk1,hk2,rfl,rfl,rfl⟩:=hrel;have hl:=HML.out (k - 1)
  by_cases hlt:k<m
  ·have hs:=HMS.out k hk1
   have hl2:=HML.out (k+1 - 1);have KD:=KD k (by omega);have HS:Hid (B+d - 1+monthsR y (k - 1)+daysR y k=B+d - 1+monthsR y (k+1 - 1)):=by unfold Hid;rw[←hs];omega
   have hdb:0≤daysR y k∧daysR y k≤31:=by
    unfold daysR
    repeat' split
    all_goals omega
   clear hs hl2;generalize monthsR y (k - 1)=M at *;generalize daysR y k=D at *;go_wp2_with (go_at_call 235;refine KD.mono ?_;rintro e w' ⟨rfl,rfl⟩);go_roundw
   case rel=>exact⟨k+1,by omega,by omega,by go_num,by rw[←HS.out],by first | trivial | rfl⟩
   case measure=>simp[intOf];omega
  ·obtain rfl:k=m:=by omega
   go_wp2;go_ret;exact⟨ret_int HR.out.symm,rfl⟩
theorem day1970:dayR 1970 1 1=719162:=by decide+kernel
theorem day9999:dayR 9999 12 31=3652058:=by decide+kernel
theorem rZero_any(w:World):Calls Tryz.prog 200 #[] w λe w'=>e=.returned (.int .i64 62135596800)∧w=w':=by
 have KD:=rDay_any 1970 1 1 (by omega) (by omega) (by omega) w;rw[day1970] at KD;go_enter Tryz.func200,Tryz.ntmps200;go_wp2_with (go_at_call 218;refine KD.mono ?_;rintro e w' ⟨rfl,rfl⟩);go_ret;exact⟨rfl,rfl⟩
theorem rMomentLast_any(w:World):Calls Tryz.prog 201 #[.agg #[.int .i64 9999,.int .i64 12,.int .i64 31,.int .i64 23,.int .i64 59,.int .i64 59]] w λe w'=>e=.returned (.int .i64 253402300799)∧Frm Nix w w':=by
 have KD:=λW=>rDay_any 9999 31 12 (by omega) (by omega) (by omega) W
 rw[day9999] at KD;have KD':∀W,Calls Tryz.prog 218 #[.int .i64 9999,.int .i64 12,.int .i64 31] W λe w'=>e=.returned (.int .i64 3652058)∧w'=W:=λW=>(KD W).mono λe w' h=>⟨h.1,h.2.symm⟩
 have KZ':∀W,Calls Tryz.prog 200 #[] W λe w'=>e=.returned (.int .i64 62135596800)∧w'=W:=λW=>(rZero_any W).mono λe w' h=>⟨h.1,h.2.symm⟩
 clear KD;go_enter Tryz.func201,Tryz.ntmps201;go_wp2;go_quiet (first | (go_at_call 218;exact Calls.quiet_of_same (KD' _)) | (go_at_call 200;exact Calls.quiet_of_same (KZ' _)));go_wp2;go_ret;exact⟨rfl,((fR w).alloc _).drewN _⟩
theorem rLast_any(w:World):Calls Tryz.prog 158 #[] w λe w'=>e=.returned (.int .i64 253402300799)∧Frm Nix w w':=by
 have KM:=rMomentLast_any w;go_enter Tryz.func158,Tryz.ntmps158;go_wp2_with (go_at_call 201;refine KM.mono ?_;rintro e w' ⟨rfl,hf⟩);go_ret;exact⟨rfl,hf⟩
theorem rFirstM_any(w:World):Calls Tryz.prog 157 #[] w λe w'=>e=.returned (.int .i64 (-62135596800))∧w=w':=by
 have KM:=rZero_any w;go_enter Tryz.func157,Tryz.ntmps157;go_wp2_with (go_at_call 200;refine KM.mono ?_;rintro e w' ⟨rfl,rfl⟩);go_ret;exact⟨rfl,rfl⟩
theorem rMay_any(n:Int)(w:World):Calls Tryz.prog 107 #[.int .i64 n] w λe w'=>e=.returned (.bool (momentOk n))∧Frm Nix w w':=by
 have KF:=rFirstM_any w;have KL:=rLast_any w;have hr:=fR w;go_enter Tryz.func107,Tryz.ntmps107
 go_wp2_with (first
  | (go_at_call 157;refine KF.mono ?_;rintro e w' ⟨rfl,rfl⟩)
  | (go_at_call 158;refine KL.mono ?_;rintro e w' ⟨rfl,hr⟩))
 all_goals
  go_ret;refine⟨ret_bool ?_,by assumption⟩;unfold momentOk;rw[Bool.eq_iff_iff];simp
  try omega
theorem eMoment_any(n:Int)(w:World):Calls Tryz.prog 189 #[.int .i64 n] w λe w'=>e=.returned (.bool (momentOk n))∧Frm Nix w w':=by
 have KO:=dOf_any n w;go_enter Tryz.func189,Tryz.ntmps189;go_wp2_with (go_at_call 213;refine KO.mono ?_;rintro e w' ⟨⟨c0,c1,c2,c3,c4,c5,rfl⟩,hf⟩)
 all_goals
  go_ret;refine⟨ret_bool ?_,?_⟩
  ·first | simp_all | skip
  ·exact hf.alloc _
theorem eS_list:eS.toList=[]:=by
 unfold eS ByteArray.toList;unfold ByteArray.toList.loop;simp;intro h;exact absurd h (by decide)
theorem toList_nil{s:ByteArray}:s.toList=[]↔s=eS:=by
 constructor
 ·intro h
  by_cases h0:s=eS
  ·exact h0
  ·have h1:=beq_of h0
   rw[h,eS_list] at h1
   cases h1
 ·rintro rfl
  exact eS_list
theorem size_le{s:ByteArray}{m:Int}(h:decide ((s.size:Int)≤m)=true)(hm:m≤1000000):s.size≤1000000:=by
 simp at h;omega
theorem cleanEq(s:ByteArray):((ofB (cleanS (bys s))).toList==s.toList)=decide (cleanS (bys s)=bys s):=by
 have e:(ofB (cleanS (bys s))=s)↔cleanS (bys s)=bys s:=⟨λh=>by have:=congrArg bys h;rwa [bys_ofB] at this,λh=>by rw[h];rfl⟩
 by_cases h:cleanS (bys s)=bys s
 ·rw[decide_eq_true h,e.2 h]
  simp
 ·rw[decide_eq_false h]
  exact beq_of λh'=>h (e.1 h')
theorem eText_any(s:ByteArray)(m:Int)(hm:m≤1000000)(w:World):Calls Tryz.prog 212 #[.string s,.int .i64 m] w λe w'=>e=.returned (.bool (textOk s m))∧Frm Nix w w':=by
 have HE:Hid (textOk s m=(decide ((s.size:Int)≤m)&&rightD (bys s)&&decide (cleanS (bys s)=bys s))):=rfl;have HC:=h_ (cleanEq s)
 cases hs:decide ((s.size:Int)≤m) with
 | false=>
   go_enter Tryz.func212,Tryz.ntmps212;go_wp2;go_ret
   exact⟨ret_bool (by rw[HE.out,hs];rfl),Frm.refl _ _⟩
 | true=>
   have KR:=λW=>uRight_any s W (size_le hs hm)
   have KC:=λW=>uClean_any s W (size_le hs hm)
   cases hr:rightD (bys s) with
   | false=>
     rw[hr] at KR;go_enter Tryz.func212,Tryz.ntmps212;go_wp2_with (go_at_call 232;refine(KR _).mono ?_;rintro e w1 ⟨rfl,hf1⟩);go_ret
     exact⟨ret_bool (by rw[HE.out,hs,hr];rfl),hf1⟩
   | true=>
     rw[hr] at KR;have HE2:Hid (textOk s m=decide (cleanS (bys s)=bys s)):=by unfold Hid;rw[HE.out,hs,hr];rfl
     rw[←HC.out] at HE2;clear HC HE;go_enter Tryz.func212,Tryz.ntmps212
     go_wp2_with (first
      | (go_at_call 232;refine(KR _).mono ?_;rintro e w1 ⟨rfl,hf1⟩)
      | (go_at_call 85;refine(KC _).mono ?_;rintro e w2 ⟨rfl,hf2⟩))
     go_ret;exact⟨ret_bool HE2.out.symm,hf1.trans hf2⟩
theorem rText_any(s:ByteArray)(m:Int)(hm:m≤1000000)(w:World):Calls Tryz.prog 171 #[.string s,.int .i64 m] w λe w'=>e=.returned (.bool (textOk s m))∧Frm Nix w w':=by
 have HE:Hid (textOk s m=(decide ((s.size:Int)≤m)&&rightD (bys s)&&decide (cleanS (bys s)=bys s))):=rfl;have HC:=h_ (cleanEq s)
 cases hs:decide ((s.size:Int)≤m) with
 | false=>
   go_enter Tryz.func171,Tryz.ntmps171;go_wp2;go_ret
   exact⟨ret_bool (by rw[HE.out,hs];rfl),Frm.refl _ _⟩
 | true=>
   have KR:=λW=>rRight_any s W (size_le hs hm)
   have KC:=λW=>rClean_any s W (size_le hs hm)
   cases hr:rightD (bys s) with
   | false=>
     rw[hr] at KR;go_enter Tryz.func171,Tryz.ntmps171;go_wp2_with (go_at_call 207;refine(KR _).mono ?_;rintro e w1 ⟨rfl,rfl⟩);go_ret
     exact⟨ret_bool (by rw[HE.out,hs,hr];rfl),Frm.refl _ _⟩
   | true=>
     rw[hr] at KR;have HE2:Hid (textOk s m=decide (cleanS (bys s)=bys s)):=by unfold Hid;rw[HE.out,hs,hr];rfl
     rw[←HC.out] at HE2;clear HC HE;go_enter Tryz.func171,Tryz.ntmps171
     go_wp2_with (first
      | (go_at_call 207;refine(KR _).mono ?_;rintro e w1 ⟨rfl,rfl⟩)
      | (go_at_call 154;refine(KC _).mono ?_;rintro e w2 ⟨rfl,hf2⟩))
     go_ret;exact⟨ret_bool HE2.out.symm,hf2⟩
theorem eLabel_any(s:ByteArray)(w:World):Calls Tryz.prog 183 #[.string s] w λe w'=>e=.returned (.bool (labelOk s))∧Frm Nix w w':=by
 by_cases h0:s.toList=[]
 ·have HE:Hid (labelOk s=false):=by simp[Hid,labelOk,toList_nil.1 h0]
  go_enter Tryz.func183,Tryz.ntmps183;go_wp2;go_ret;exact⟨ret_bool HE.out.symm,Frm.refl _ _⟩
 ·have KT:=eText_any s 64 (by omega) w
  have HE:Hid (labelOk s=textOk s 64):=by simp[Hid,labelOk,mt toList_nil.2 h0]
  go_enter Tryz.func183,Tryz.ntmps183;go_wp2_with (go_at_call 212;refine KT.mono ?_;rintro e w1 ⟨rfl,hf1⟩);go_ret;exact⟨ret_bool (by rw[HE.out];simp[h0]),hf1⟩
theorem eTitle_any(s:ByteArray)(w:World):Calls Tryz.prog 188 #[.string s] w λe w'=>e=.returned (.bool (titleOk s))∧Frm Nix w w':=by
 have KT:=eText_any s 256 (by omega) w;have HE:Hid (titleOk s=textOk s 256):=rfl;go_enter Tryz.func188,Tryz.ntmps188;go_wp2_with (go_at_call 212;refine KT.mono ?_;rintro e w1 ⟨rfl,hf1⟩);go_ret;exact⟨ret_bool HE.out.symm,hf1⟩
theorem eLink_any(s:ByteArray)(w:World):Calls Tryz.prog 190 #[.string s] w λe w'=>e=.returned (.bool (linkOk s))∧Frm Nix w w':=by
 have KT:=eText_any s 512 (by omega) w;have HE:Hid (linkOk s=textOk s 512):=rfl;go_enter Tryz.func190,Tryz.ntmps190;go_wp2_with (go_at_call 212;refine KT.mono ?_;rintro e w1 ⟨rfl,hf1⟩);go_ret;exact⟨ret_bool HE.out.symm,hf1⟩
theorem ePlace_any(s:ByteArray)(w:World):Calls Tryz.prog 187 #[.string s] w λe w'=>e=.returned (.bool (placeOk s))∧Frm Nix w w':=by
 by_cases h0:s.toList=[]
 ·have HE:Hid (placeOk s=false):=by simp[Hid,placeOk,toList_nil.1 h0]
  go_enter Tryz.func187,Tryz.ntmps187;go_wp2;go_ret;exact⟨ret_bool HE.out.symm,Frm.refl _ _⟩
 ·have KT:=eLink_any s w
  have HE:Hid (placeOk s=linkOk s):=by simp[Hid,placeOk,mt toList_nil.2 h0]
  go_enter Tryz.func187,Tryz.ntmps187;go_wp2_with (go_at_call 190;refine KT.mono ?_;rintro e w1 ⟨rfl,hf1⟩);go_ret;exact⟨ret_bool (by rw[HE.out];simp[h0]),hf1⟩
theorem eQuery_any(s:ByteArray)(w:World):Calls Tryz.prog 191 #[.string s] w λe w'=>e=.returned (.bool (queryOk s))∧Frm Nix w w':=by
 by_cases h0:s.toList=[]
 ·have HE:Hid (queryOk s=false):=by simp[Hid,queryOk,toList_nil.1 h0]
  go_enter Tryz.func191,Tryz.ntmps191;go_wp2;go_ret;exact⟨ret_bool HE.out.symm,Frm.refl _ _⟩
 ·have KT:=eText_any s 512 (by omega) w
  have HE:Hid (queryOk s=textOk s 512):=by simp[Hid,queryOk,mt toList_nil.2 h0]
  go_enter Tryz.func191,Tryz.ntmps191;go_wp2_with (go_at_call 212;refine KT.mono ?_;rintro e w1 ⟨rfl,hf1⟩);go_ret;exact⟨ret_bool (by rw[HE.out];simp[h0]),hf1⟩
theorem rLabel_any(s:ByteArray)(w:World):Calls Tryz.prog 128 #[.string s] w λe w'=>e=.returned (.bool (labelOk s))∧Frm Nix w w':=by
 by_cases h0:s.toList=[]
 ·have HE:Hid (labelOk s=false):=by simp[Hid,labelOk,toList_nil.1 h0]
  go_enter Tryz.func128,Tryz.ntmps128;go_wp2;go_ret;exact⟨ret_bool HE.out.symm,Frm.refl _ _⟩
 ·have KT:=rText_any s 64 (by omega) w
  have HE:Hid (labelOk s=textOk s 64):=by simp[Hid,labelOk,mt toList_nil.2 h0]
  go_enter Tryz.func128,Tryz.ntmps128;go_wp2_with (go_at_call 171;refine KT.mono ?_;rintro e w1 ⟨rfl,hf1⟩);go_ret;exact⟨ret_bool (by rw[HE.out];simp[h0]),hf1⟩
theorem rTitle_any(s:ByteArray)(w:World):Calls Tryz.prog 130 #[.string s] w λe w'=>e=.returned (.bool (titleOk s))∧Frm Nix w w':=by
 have KT:=rText_any s 256 (by omega) w;have HE:Hid (titleOk s=textOk s 256):=rfl;go_enter Tryz.func130,Tryz.ntmps130;go_wp2_with (go_at_call 171;refine KT.mono ?_;rintro e w1 ⟨rfl,hf1⟩);go_ret;exact⟨ret_bool HE.out.symm,hf1⟩
theorem rLink_any(s:ByteArray)(w:World):Calls Tryz.prog 129 #[.string s] w λe w'=>e=.returned (.bool (linkOk s))∧Frm Nix w w':=by
 have KT:=rText_any s 512 (by omega) w;have HE:Hid (linkOk s=textOk s 512):=rfl;go_enter Tryz.func129,Tryz.ntmps129;go_wp2_with (go_at_call 171;refine KT.mono ?_;rintro e w1 ⟨rfl,hf1⟩);go_ret;exact⟨ret_bool HE.out.symm,hf1⟩
theorem rQuery_any(s:ByteArray)(w:World):Calls Tryz.prog 132 #[.string s] w λe w'=>e=.returned (.bool (queryOk s))∧Frm Nix w w':=by
 by_cases h0:s.toList=[]
 ·have HE:Hid (queryOk s=false):=by simp[Hid,queryOk,toList_nil.1 h0]
  go_enter Tryz.func132,Tryz.ntmps132;go_wp2;go_ret;exact⟨ret_bool HE.out.symm,Frm.refl _ _⟩
 ·have KT:=rText_any s 512 (by omega) w
  have HE:Hid (queryOk s=textOk s 512):=by simp[Hid,queryOk,mt toList_nil.2 h0]
  go_enter Tryz.func132,Tryz.ntmps132;go_wp2_with (go_at_call 171;refine KT.mono ?_;rintro e w1 ⟨rfl,hf1⟩);go_ret;exact⟨ret_bool (by rw[HE.out];simp[h0]),hf1⟩
theorem eId_any(n:Int)(w:World):Calls Tryz.prog 186 #[.int .i64 n] w λe w'=>e=.returned (.bool (idOk n))∧w=w':=by
 go_enter Tryz.func186,Tryz.ntmps186;go_wp2
 all_goals
  go_ret;refine⟨ret_bool ?_,rfl⟩;unfold idOk;rw[Bool.eq_iff_iff];simp
  try omega
theorem rId_any(n:Int)(w:World):Calls Tryz.prog 127 #[.int .i64 n] w λe w'=>e=.returned (.bool (idOk n))∧w=w':=by
 go_enter Tryz.func127,Tryz.ntmps127;go_wp2
 all_goals
  go_ret;refine⟨ret_bool ?_,rfl⟩;unfold idOk;rw[Bool.eq_iff_iff];simp
  try omega
theorem isWord_iff(s:ByteArray):isWord s=decide (wordsB s=[s]):=by
 unfold isWord wordsB;rw[Bool.eq_iff_iff,decide_eq_true_eq,decide_eq_true_eq];constructor
 ·intro h
  show (wordsL (bys s)).map ofB=[s]
  rw[h];rfl
 ·intro h
  have h:(wordsL (bys s)).map ofB=[s]:=h;have:=congrArg (List.map bys) h;rw[List.map_map] at this
  simpa [Function.comp_def,bys_ofB] using this
theorem splitW_len:∀(rs cur:List Nat),(splitW cur rs).length≤1+rs.length
 | [],cur=>by
   unfold splitW
   split<;>simp
 | r::rs,cur=>by
   unfold splitW;have h1:=splitW_len rs (cur++[r]);have h2:=splitW_len rs [];simp only[List.length_cons]
   repeat' split
   all_goals (simp;try omega)
theorem wordsB_len(s:ByteArray):(wordsB s).length≤1+s.size:=by
 rw[wordsB_eq,List.length_map];have h1:=splitW_len (folds (bys s)) [];have h2:=runesD_len (bys s);have h3:(folds (bys s)).length=(runesD (bys s)).length:=by simp[folds]
 rw[←size_bys] at h2;omega
theorem label_size{s:ByteArray}(h:labelOk s=true):s.size≤64:=by
 unfold labelOk textOk at h;simp at h;omega
theorem eTag_any(s:ByteArray)(w:World):Calls Tryz.prog 148 #[.string s] w λe w'=>e=.returned (.bool (tagOk s))∧Frm Nix w w':=by
 have KL:=eLabel_any s w;have HE:Hid (tagOk s=(labelOk s&&isWord s)):=rfl
 cases hl:labelOk s with
 | false=>
   rw[hl] at KL;go_enter Tryz.func148,Tryz.ntmps148;go_wp2_with (go_at_call 183;refine KL.mono ?_;rintro e w1 ⟨rfl,hf1⟩);go_ret
   exact⟨ret_bool (by rw[HE.out,hl];rfl),hf1⟩
 | true=>
   have hs:=label_size hl;have KI:=λW=>Is_any s W (by omega)
   rw[←isWord_iff] at KI;rw[hl] at KL;go_enter Tryz.func148,Tryz.ntmps148
   go_wp2_with (first
    | (go_at_call 183;refine KL.mono ?_;rintro e w1 ⟨rfl,hf1⟩)
    | (go_at_call 184;refine(KI _).mono ?_;rintro e w2 ⟨rfl,hf2⟩))
   go_ret;exact⟨ret_bool (by rw[HE.out,hl];rfl),hf1.trans hf2⟩
theorem rTag_any(s:ByteArray)(w:World):Calls Tryz.prog 131 #[.string s] w λe w'=>e=.returned (.bool (tagOk s))∧Frm Nix w w':=by
 have KL:=rLabel_any s w;have HE:Hid (tagOk s=(labelOk s&&isWord s)):=rfl
 cases hl:labelOk s with
 | false=>
   rw[hl] at KL;go_enter Tryz.func131,Tryz.ntmps131;go_wp2_with (go_at_call 128;refine KL.mono ?_;rintro e w1 ⟨rfl,hf1⟩);go_ret
   exact⟨ret_bool (by rw[HE.out,hl];rfl),hf1⟩
 | true=>
   have hs:=label_size hl;have KW:=λW=>rWords_any s W (by omega)
   have hwl:=wordsB_len s;rw[hl] at KL;rw[isWord_iff] at HE;generalize wordsB s=l at *
   have KS:Hid (∀(w1 w2:World) (A:Option Addr) (c:Nat),RowIn 9 w1 w2 (.slice A l.length c) l.length (l.map Value.string)→
     Calls Tryz.prog 172 #[.slice A l.length c,.slice (some ⟨w2.heap.size,0,none⟩) 1 1] (w2.alloc (.cells #[.string s] 9)) λe w'=>e=.returned (.bool (decide (l=[s])))∧Frm Nix (w2.alloc (.cells #[.string s] 9)) w'):=by
    intro w1 w2 A c hrow;have hr:=(hrow.more ((fR w2).alloc (.cells #[.string s] 9))).rd;exact rSame_any hr (Rd.of_obj (size:=1) (heap_alloc_new w2 (.cells #[.string s] 9)) 1 rfl) (by omega) (by omega)
   go_enter Tryz.func131,Tryz.ntmps131
   go_wp2_with (first
    | (go_at_call 128;refine KL.mono ?_;rintro e w1 ⟨rfl,hf1⟩)
    | (go_at_call 156;refine(KW _).mono ?_;rintro e w2 ⟨A,c,rfl,hrow⟩)
    | (go_at_call 172;refine(KS.out _ _ A c hrow).mono ?_;rintro e w3 ⟨rfl,hf3⟩))
   go_ret;exact⟨ret_bool (by rw[HE.out,hl];rfl),((hf1.trans hrow.frm).alloc _).trans hf3⟩
def evV(e:Ev):Value:=.agg #[.int .i64 e.kind,.int .i64 e.a,.int .i64 e.b,.int .i64 e.n,.string e.s,.string e.t,.string e.u]
theorem eUsed_any(e:Ev)(he:1≤e.kind∧e.kind≤13)(w:World):Calls Tryz.prog 152 #[evV e] w λr w'=>r=.returned (evV (evUsed e))∧Frm Nix w w':=by
 obtain⟨k,a,b,n,s,t,u⟩:=e;simp only at he;rcases(by omega:k=1∨k=2∨k=3∨k=4∨k=5∨k=6∨k=7∨k=8∨k=9∨k=10∨k=11∨k=12∨k=13) with rfl | rfl | rfl | rfl | rfl | rfl | rfl | rfl | rfl | rfl | rfl | rfl | rfl
 all_goals
  unfold evV;clear he;go_enter Tryz.func152,Tryz.ntmps152;go_wp2
  try go_region
  try go_wp2
 all_goals
  go_returns
  refine⟨rfl,?_⟩
  first
   | exact(((fR w).alloc _).alloc _).alloc _
   | exact((((fR w).alloc _).alloc _).alloc _).drew
end Go.Proofs.YtaecjmiobllhmaaGreat
