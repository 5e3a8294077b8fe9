/- Words. -/
import Derived.Test.YtaecjmiobllhmaaGreatGq07
import Derived.Handy
import Derived.BigRegion
set_option linter.unusedVariables false
set_option linter.unusedSimpArgs false
set_option maxRecDepth 100000
set_option maxHeartbeats 16000000
namespace Go.Proofs.YtaecjmiobllhmaaGreat
open Go.Value renaming int→I,string→V,slice→U
open Go.IntKind renaming i64→J
open Tryz renaming prog→pQ
open Go.RowKit Go.Lib
variable {s:ByteArray}
theorem CS(c:Nat)(w:World)(hc:c≤1114111):Calls pQ 195 #[.int .i32 c] w λe w'=>e=.returned (.bool (mY c))∧w=w':=by
 go_enter Tryz.func195,Tryz.ntmps195;go_wp2
 all_goals
  go_ret;refine⟨af ?_,rfl⟩
  try simp only[beq_iff_eq,bne_iff_ne,bne_eq_false_iff_eq,beq_eq_false_iff_ne,ne_eq,decide_eq_true_eq,decide_eq_false_iff_not,Bool.or_eq_true,Bool.or_eq_false_iff,Bool.and_eq_true,Bool.and_eq_false_iff] at *
  unfold mY;rw[Bool.eq_iff_iff];simp
  try omega
theorem CT(s:ByteArray)(w:World)(hs:s.size≤1000000):
  Calls pQ 207 #[V s] w λe w'=>e=.returned (.bool (dY (aX s)))∧w=w':=by
 go_enter Tryz.func207,Tryz.ntmps207;go_wp2
 go_loopw [0] (λsv wr=>∃(x:ByteArray),sv=V x∧x.size≤s.size∧dY (aX x)=dY (aX s)∧w=wr) (λsv _=>CJ sv)
 case atStart=>exact⟨s,rfl,Nat.le_refl _,rfl,rfl⟩
 case round=>
  obtain⟨x,rfl,hx,hd,rfl⟩:=hrel;have HD:=h_ hd;clear hd
  by_cases h0:0<x.size
  ·have hne:aX x≠[]:=λe=>by
    have h1:(aX x).length=0:=by rw[e];rfl
    rw[←aT] at h1;omega
   have hle:=decodeL_le _ hne;have hw:=decodeL_width (aX x);rw[←aT] at hle;have hstep:=qH (aX x);have nh:=vM (aX x);have kf:=tU x w (by omega) h0;obtain⟨R,K,CM⟩:∃R K,decodeL (aX x)=(R,K):=⟨_,_,rfl⟩;rw[CM] at hle hw hstep kf nh;simp only at hle hw hstep;have dc:=h_ hstep;have og:=h_ nh;have KF:=h_ kf;have Fw:=h_ (uY x K);have vd:=h_ hne;clear hstep kf CM nh hne;have hk0:(0:Int)≤(K:Int):=Int.natCast_nonneg _;have vH:(K:Int)≤(x.size:Int):=by omega
   have hx0:decide ((0:Int)<(x.size:Int))=true:=by simp;omega
   by_cases CM:R=65533∧K=1
   ·obtain⟨rfl,rfl⟩:=CM
    have HG:Hid (dY (aX s)=false):=HD.out.symm.trans (og.out rfl vd.out);go_wp2_with (go_at_call 197;refine KF.out.mono ?_;rintro e w' ⟨rfl,rfl⟩);go_ret;exact⟨by rw[HG.out];rfl,rfl⟩
   ·have hgo:(R,K)≠(65533,1):=λe=>CM ⟨congrArg Prod.fst e,congrArg Prod.snd e⟩
    have HG:Hid (dY (aX (x.extract K x.size))=dY (aX s)):=by
     unfold Hid;rw[Fw.out,←dc.out hgo vd.out,HD.out]
    have HM:Hid ((x.extract K x.size).size<x.size):=by
     have:(x.extract K x.size).size=x.size-K:=by rw[aT,Fw.out,List.length_drop,←aT]
     unfold Hid;omega
    clear hgo
    by_cases hR:R=65533
    ·subst hR
     have hK:K≠1:=λe=>CM ⟨rfl,e⟩
     have hb:((K:Int)==1)=false:=by simp;omega
     clear CM;go_wp2_with (go_at_call 197;refine KF.out.mono ?_;rintro e w' ⟨rfl,rfl⟩);go_roundw
     case rel=>exact⟨x.extract K x.size,rfl,by have:=HM.out;omega,HG.out,by first|trivial|rfl⟩
     case measure=>exact HM.out
    ·have hb:((R:Int)==65533)=false:=by simp;omega
     clear CM;go_wp2_with (go_at_call 197;refine KF.out.mono ?_;rintro e w' ⟨rfl,rfl⟩);go_roundw
     case rel=>exact⟨x.extract K x.size,rfl,by have:=HM.out;omega,HG.out,by first|trivial|rfl⟩
     case measure=>exact HM.out
  ·have h1:(aX x).length=0:=by
    have:=aT x;omega
   have hz:aX x=[]:=List.eq_nil_of_length_eq_zero h1
   have HE:Hid (dY (aX s)=true):=by
    have:=HD.out;rw[hz,vL] at this;exact this.symm
   have hx0:decide ((0:Int)<(x.size:Int))=false:=decide_eq_false (by omega);clear hz h1;go_wp2;go_ret;exact⟨by rw[HE.out];rfl,rfl⟩
theorem AD(L out:List Nat)(wt:Bool)(k:Nat)(h:k<L.length):bh (L.drop k) out wt=if mY L[k]=true then bh (L.drop (k+1)) out (!out.isEmpty) else if qI L[k]=true then bh (L.drop (k+1)) out wt else bh (L.drop (k+1)) ((if wt=true then out++[32] else out)++[L[k]]) false:=by
 rw[List.drop_eq_getElem_cons h,bh]
theorem rS(s:ByteArray)(w:World)(hs:s.size≤1000000):
  Calls pQ 154 #[V s] w λe w'=>e=.returned (V (fB (dP (aX s))))∧aa ac w w':=by
 go_enter Tryz.func154,Tryz.ntmps154;go_wp2_with fail;refine(tV s w hs).mono ?_;rintro e w1 ⟨A1,c1,rfl,eh⟩;have HV:=h_ (kR (aX s));have Cw:=lq (aX s);rw[←aT] at Cw;have HS:Hid (dP (aX s)=enc (bh (cV (aX s)) [] false)):=rfl;generalize cV (aX s)=L at *;generalize hn:L.length=n at *;have HN:=h_ hn;have bw:=h_ eh;clear hn eh;go_wp2
 go_loopw [4,5,6] (λov wv iv wr=>∃(k:Nat) (out:List Nat) (wt:Bool),k≤n∧iv=I J k∧wv=.bool wt∧aK 21 w1 wr ov out.length (yJ out)∧bh (L.drop k) out wt=bh L [] false∧out.length≤2 * k∧∀r∈out,Vr r) (λ_ _ iv _=>n-(intOf iv).toNat)
 case atStart=>exact⟨0,[],false,Nat.zero_le _,rfl,rfl,aK.nil_ _ (aa.refl _ _),rfl,by simp,by simp⟩
 case round=>
  obtain⟨k,out,wt,hk,rfl,rfl,hrow,hcl,V2,UQ⟩:=hrel;have ji:=h_ hrow;have OQ:=h_ UQ;obtain⟨A,c,rfl,-,-,-,-⟩:=hrow.shape;have Mo:=h_ hcl;clear hrow UQ hcl;have OS:=bw.out.rd.frm ji.out.frm λ_ _=>id
  by_cases hlt:k<n
  ·have dX:k<L.length:=by rw[HN.out];exact hlt
   obtain⟨ad,u,rfl,-,Mn,hu,yK⟩:=OS.at_ hlt;rw[CH L k dX] at hu;injection hu with hu;subst hu;have hv:=HV.out L[k] (List.getElem_mem dX);have HD:=h_ (AD L out wt k dX);have hR:L[k]≤1114111:=by unfold Vr at hv;omega
   have KB:=λW=>CS L[k] W hR
   have hk0:(0:Int)≤(k:Int):=Int.natCast_nonneg _;have vH:(k:Int)<(n:Int):=by omega
   clear OS;generalize L[k]=R at *
   cases tS:mY R with
   | true=>
     have HG:Hid (bh (L.drop (k+1)) out (!out.isEmpty)=bh L [] false):=by
      have:=Mo.out;rw[HD.out,if_pos tS] at this;exact this
     have HE:Hid (decide (0<(out.length:Int))=!out.isEmpty):=by
      unfold Hid
      cases out<;>simp
     rw[tS] at KB;clear hv tS;go_wp2_with (go_at_call 195;refine(KB _).mono ?_;rintro e w' ⟨rfl,rfl⟩);go_roundw
     case rel=>exact⟨k+1,out,!out.isEmpty,by omega,by go_num,by rw[←HE.out];simp,ji.out,HG.out,by omega,OQ.out⟩
     case measure=>simp[intOf];omega
   | false=>
     rw[tS] at KB
     cases FI:qI R with
     | true=>
       have HG:Hid (bh (L.drop (k+1)) out wt=bh L [] false):=by
        have:=Mo.out;rw[HD.out,if_neg (by simp[tS]),if_pos FI] at this;exact this
       have hcc:R<32∨127≤R∧R≤159:=by simpa [qI] using FI
       clear hv tS FI
       by_cases HJ:R<32
       ·have b1:decide ((R:Int)<32)=true:=by simp;omega
        go_wp2_with (go_at_call 195;refine(KB _).mono ?_;rintro e w' ⟨rfl,rfl⟩);go_roundw
        case rel=>exact⟨k+1,out,wt,by omega,by go_num,rfl,ji.out,HG.out,by omega,OQ.out⟩
        case measure=>simp[intOf];omega
       ·have b1:decide ((R:Int)<32)=false:=by simp;omega
        have b2:decide ((127:Int)≤(R:Int))=true:=by simp;omega
        have b3:decide ((R:Int)≤159)=true:=by simp;omega
        go_wp2_with (go_at_call 195;refine(KB _).mono ?_;rintro e w' ⟨rfl,rfl⟩);go_roundw
        case rel=>exact⟨k+1,out,wt,by omega,by go_num,rfl,ji.out,HG.out,by omega,OQ.out⟩
        case measure=>simp[intOf];omega
     | false=>
       have HG:Hid (bh (L.drop (k+1)) ((if wt=true then out++[32] else out)++[R]) false=bh L [] false):=by
        have:=Mo.out;rw[HD.out,if_neg (by simp[tS]),if_neg (by simp[FI])] at this;exact this
       have hcc:¬(R<32)∧¬(127≤R∧R≤159):=by simpa [qI,not_or] using FI
       have V3:=h_ hv;clear hv tS FI;have b1:decide ((R:Int)<32)=false:=by simp;omega
       have Mp:decide ((127:Int)≤(R:Int))=false∨decide ((127:Int)≤(R:Int))=true∧decide ((R:Int)≤159)=false:=by
        by_cases h:127≤R
        ·right
         exact⟨by simp;omega,by simp;omega⟩
        ·left
         simp;omega
       have UR:Hid (∀o:List Nat,(∀r∈o,Vr r)→∀r∈o++[R],Vr r):=by
        intro o ho r hr;rcases List.mem_append.1 hr with hr|hr
        ·exact ho r hr
        ·simp at hr
         rw[hr];exact V3.out
       have Pq:Vr 32:=by unfold Vr;omega
       have V4:Hid (∀r∈out++[32],Vr r):=by
        intro r hr;rcases List.mem_append.1 hr with hr|hr
        ·exact OQ.out r hr
        ·simp at hr
         rw[hr];exact Pq
       clear Pq
       cases wt with
       | false=>
         obtain⟨v2,w2,hrun,hrow2,-,-⟩:=ji.out.push (P:=pQ) Az (.int .i32 (R:Int)) rfl (by unfold maxLen;omega) (by omega)
         have gI:Hid (aK 21 w1 w2 v2 (out++[R]).length (yJ (out++[R]))):=by
          unfold Hid;rw[List.length_append,nE];exact hrow2
         clear hrow2;rcases Mp with b2|⟨b2,b3⟩
         all_goals
          go_wp2_with (first
           | (go_at_call 195;refine(KB _).mono ?_;rintro e w' ⟨rfl,rfl⟩)
           | (at_builtin;refine aq hrun rfl _ _ rfl rfl rfl ?_))
          go_roundw
          case rel=>exact⟨k+1,out++[R],false,by omega,by go_num,rfl,gI.out,HG.out,by simp;omega,UR.out out OQ.out⟩
          case measure=>simp[intOf];omega
       | true=>
         obtain⟨v2,w2,hrun,hrow2,-,-⟩:=ji.out.push (P:=pQ) Az (.int .i32 32) rfl (by unfold maxLen;omega) (by omega);obtain⟨v3,w3,Ic,hrow3,-,-⟩:=hrow2.push (P:=pQ) Az (.int .i32 (R:Int)) rfl (by unfold maxLen;omega) (by omega)
         have od:Hid (aK 21 w1 w3 v3 (out++[32]++[R]).length (yJ (out++[32]++[R]))):=by
          unfold Hid;rw[List.length_append,List.length_append,nE,nE];exact hrow3
         have hlo:=hrow2.frm.size;clear hrow2 hrow3;rcases Mp with b2|⟨b2,b3⟩
         all_goals
          go_wp2_with (first
           | (go_at_call 195;refine(KB _).mono ?_;rintro e w' ⟨rfl,rfl⟩)
           | (at_builtin;refine aq hrun rfl _ _ rfl rfl rfl ?_)
           | (at_builtin;refine aq Ic rfl _ _ rfl rfl rfl ?_))
          go_roundw
          case rel=>exact⟨k+1,out++[32]++[R],false,by omega,by go_num,rfl,od.out,HG.out,by simp;omega,UR.out (out++[32]) V4.out⟩
          case measure=>simp[intOf];omega
  ·obtain rfl:k=n:=by omega
   have HE:Hid (out=bh L [] false):=by
    have h1:L.drop k=[]:=List.drop_eq_nil_iff.2 (by rw[HN.out];exact Nat.le_refl _);have h2:=Mo.out;rw[h1,bh] at h2;exact h2
   have KP:=h_ (uZ A out.length c out OQ.out rfl (by omega) _ wr ji.out.rd (λj hj=>(ji.out.own.lt j hj).2));clear OS;go_wp2_with (go_at_call 196;refine KP.out.mono ?_;rintro e w2 ⟨rfl,hf2⟩);go_ret;exact⟨by rw[HS.out,←HE.out];rfl,(bw.out.frm.trans ji.out.frm).trans hf2⟩
def eS:ByteArray:=⟨#[]⟩
structure Ev where
 kind:Int
 a:Int
 b:Int
 n:Int
 s:ByteArray
 t:ByteArray
 u:ByteArray
instance:DecidableEq Ev:=λx y=>
 decidable_of_iff (x.kind=y.kind∧x.a=y.a∧x.b=y.b∧x.n=y.n∧x.s=y.s∧x.t=y.t∧x.u=y.u)
  ⟨λ⟨h1,h2,h3,h4,h5,h6,h7⟩=>by cases x;cases y;simp_all,λh=>by subst h;simp⟩
def Ev.cells(e:Ev):List Value:=[I J e.kind,I J e.a,I J e.b,I J e.n,V e.s,V e.t,V e.u]
def li(n:Int):Bool:=decide (1≤n∧n≤1048576)
def dQ(s:ByteArray)(most:Int):Bool:=decide ((s.size:Int)≤most)&&dY (aX s)&&decide (dP (aX s)=aX s)
def df(s:ByteArray):Bool:=decide (s≠eS)&&dQ s 64
def vN(s:ByteArray):Bool:=decide (tP (aX s)=[aX s])
def lJ(s:ByteArray):Bool:=df s&&vN s
def gK(s:ByteArray):Bool:=dQ s 256
def nH(s:ByteArray):Bool:=dQ s 512
def iD(s:ByteArray):Bool:=decide (s≠eS)&&nH s
def gL(s:ByteArray):Bool:=decide (s≠eS)&&dQ s 512
def dR(n:Int):Bool:=decide (-62135596800≤n∧n≤253402300799)
def aI(n:Int):Bool:=decide (n=0)||li n
def aZ(n:Int):Bool:=decide (n=0∨n=1)
def aU(e:Ev):Ev:=
 if e.kind=1 then ⟨e.kind,e.a,e.b,0,e.s,eS,eS⟩
 else if e.kind=3 then ⟨e.kind,e.a,e.b,0,e.s,e.t,eS⟩
 else if e.kind=5 then ⟨e.kind,e.a,0,0,eS,e.t,eS⟩
 else if e.kind=6 then ⟨e.kind,e.a,e.b,0,eS,eS,eS⟩
 else if e.kind=7 then e
 else if e.kind=8∨e.kind=9 then ⟨e.kind,e.a,0,e.n,eS,eS,eS⟩
 else if e.kind=10 then ⟨e.kind,e.a,0,e.n,e.s,eS,eS⟩
 else if e.kind=11 then ⟨e.kind,e.a,0,0,e.s,e.t,eS⟩
 else if e.kind=13 then ⟨e.kind,0,0,e.n,eS,eS,eS⟩
 else ⟨e.kind,e.a,0,0,eS,eS,eS⟩
def aA(e:Ev):Bool:=
 if e.kind=1 then li e.a&&aI e.b&&df e.s
 else if e.kind=2∨e.kind=4∨e.kind=12 then li e.a
 else if e.kind=3 then li e.a&&aI e.b&&iD e.s&&gK e.t
 else if e.kind=5 then li e.a&&gK e.t
 else if e.kind=6 then li e.a&&aI e.b
 else if e.kind=7 then li e.a&&li e.b&&dR e.n&&iD e.s&&gK e.t&&nH e.u
 else if e.kind=8∨e.kind=9 then li e.a&&aZ e.n
 else if e.kind=10 then li e.a&&aZ e.n&&lJ e.s
 else if e.kind=11 then li e.a&&df e.s&&gL e.t
 else if e.kind=13 then dR e.n
 else false
def aQ(e:Ev):Bool:=aA e&&decide (aU e=e)
theorem AE(n a b:Int)(w:World):Calls pQ 233 #[I J n,I J a,I J b] w λe w'=>e=.returned (.bool (decide (a≤n∧n≤b)))∧w=w':=by
 go_enter Tryz.func233,Tryz.ntmps233;go_wp2
 all_goals
  go_ret;refine⟨af ?_,rfl⟩;rw[Bool.eq_iff_iff];simp
  try omega
theorem Kg(n:Int)(w:World):Calls pQ 213 #[I J n] w λe w'=>(∃c0 c1 c2 c3 c4 c5:Int,e=.returned (.tuple #[.agg #[I J c0,I J c1,I J c2,I J c3,I J c4,I J c5],I J (if dR n=true then 0 else 40)]))∧aa ac w w':=by
 have HF:Hid (∀cs:Array Value,aa ac w (w.alloc (.cells cs 213))):=λcs=>(fR w).alloc _
 have KW:=λa b W=>AE n a b W
 cases hm:dR n with
 | false=>
   have hd:decide (-62135596800≤n∧n≤253402300799)=false:=by simpa [dR] using hm
   rw[if_neg (by simp)];go_enter Tryz.func213,Tryz.ntmps213;go_wp2_with (go_at_call 233;refine(KW _ _ _).mono ?_;rw[hd];rintro e w' ⟨rfl,rfl⟩)
   go_returns
   exact⟨⟨_,_,_,_,_,_,rfl⟩,(fR w).alloc _⟩
 | true=>
   have hd:decide (-62135596800≤n∧n≤253402300799)=true:=by simpa [dR] using hm
   have hn: -62135596800≤n∧n≤253402300799:=by simpa using hd
   rw[if_pos rfl];go_enter Tryz.func213,Tryz.ntmps213;go_wp2_with (go_at_call 233;refine(KW _ _ _).mono ?_;rw[hd];rintro e w' ⟨rfl,rfl⟩)
   all_goals
    go_returns
    exact⟨⟨_,_,_,_,_,_,rfl⟩,((fR w).alloc _).alloc _⟩
theorem FK(y:Int)(hy:1≤y∧y≤9999)(w:World):Calls pQ 243 #[I J y] w λe w'=>e=.returned (.bool (decide (y % 4=0∧y % 100≠0∨y % 400=0)))∧w=w':=by
 go_enter Tryz.func243,Tryz.ntmps243;go_wp2
 all_goals
  go_ret;refine⟨af ?_,rfl⟩;rw[Bool.eq_iff_iff];simp;omega
def nI(y m:Int):Int:=if m=2 then (if y % 4=0∧y % 100≠0∨y % 400=0 then 29 else 28) else if m=4∨m=6∨m=9∨m=11 then 30 else 31
theorem FL(y m:Int)(hy:1≤y∧y≤9999)(hm:1≤m∧m≤12)(w:World):Calls pQ 235 #[I J y,I J m] w λe w'=>e=.returned (I J (nI y m))∧w=w':=by
 have KL:=λW=>FK y hy W
 by_cases hl:y % 4=0∧y % 100≠0∨y % 400=0
 ·have HD:Hid (nI y m=if m=2 then 29 else if m=4∨m=6∨m=9∨m=11 then 30 else 31):=by unfold Hid nI;rw[if_pos hl]
  rw[decide_eq_true hl] at KL;clear hl;rcases(by omega:m=1∨m=2∨m=3∨m=4∨m=5∨m=6∨m=7∨m=8∨m=9∨m=10∨m=11∨m=12) with rfl|rfl|rfl|rfl|rfl|rfl|rfl|rfl|rfl|rfl|rfl|rfl
  all_goals
   go_enter Tryz.func235,Tryz.ntmps235;go_wp2_with (go_at_call 243;refine(KL _).mono ?_;rintro e w' ⟨rfl,rfl⟩);go_ret;exact⟨sF (by rw[HD.out];decide),rfl⟩
 ·have HD:Hid (nI y m=if m=2 then 28 else if m=4∨m=6∨m=9∨m=11 then 30 else 31):=by unfold Hid nI;rw[if_neg hl]
  rw[decide_eq_false hl] at KL;clear hl;rcases(by omega:m=1∨m=2∨m=3∨m=4∨m=5∨m=6∨m=7∨m=8∨m=9∨m=10∨m=11∨m=12) with rfl|rfl|rfl|rfl|rfl|rfl|rfl|rfl|rfl|rfl|rfl|rfl
  all_goals
   go_enter Tryz.func235,Tryz.ntmps235;go_wp2_with (go_at_call 243;refine(KL _).mono ?_;rintro e w' ⟨rfl,rfl⟩);go_ret;exact⟨sF (by rw[HD.out];decide),rfl⟩
theorem CU(y:Int)(hy:1≤y∧y≤9999)(w:World):Calls pQ 234 #[I J y] w λe w'=>e=.returned (I J (365 * (y-1)+(y-1)/4-(y-1)/100+(y-1)/400))∧w=w':=by
 go_enter Tryz.func234,Tryz.ntmps234;go_wp2;go_ret;exact⟨rfl,rfl⟩
def jc(y:Int):Nat→Int
 | 0=>0
 | k+1=>jc y k+nI y (k+1)
theorem vO(y:Int):∀k:Nat,0≤jc y k∧jc y k≤31 * k
 | 0=>by simp[jc]
 | k+1=>by
   have:=vO y k
   have h2:0≤nI y (k+1)∧nI y (k+1)≤31:=by
    unfold nI
    repeat' split
    all_goals omega
   rw[jc];omega
def Kh(y:Int)(m:Nat)(d:Int):Int:=365 * (y-1)+(y-1)/4-(y-1)/100+(y-1)/400+d-1+jc y (m-1)
theorem AG(y d:Int)(m:Nat)(hy:1≤y∧y≤9999)(hm:1≤m∧m≤12)(hd:1≤d∧d≤31)(w:World):Calls pQ 218 #[I J y,I J m,I J d] w λe w'=>e=.returned (I J (Kh y m d))∧w=w':=by
 have KA:=CU y hy w;have KD:=λ(k:Int) (hk:1≤k∧k≤12)=>FL y k hy hk w
 have HR:Hid (Kh y m d=365 * (y-1)+(y-1)/4-(y-1)/100+(y-1)/400+d-1+jc y (m-1)):=rfl;have UT:=h_ (vO y)
 have V5:Hid (∀k:Nat,1≤k→jc y (k-1)+nI y k=jc y (k+1-1)):=by
  intro k hk;obtain⟨q,rfl⟩:∃q,k=q+1:=⟨k-1,by omega⟩;simp[jc]
 have hb:0≤365 * (y-1)+(y-1)/4-(y-1)/100+(y-1)/400∧365 * (y-1)+(y-1)/4-(y-1)/100+(y-1)/400≤4000000:=by omega
 generalize 365 * (y-1)+(y-1)/4-(y-1)/100+(y-1)/400=B at *;go_enter Tryz.func218,Tryz.ntmps218;go_wp2_with (go_at_call 234;refine KA.mono ?_;rintro e w' ⟨rfl,rfl⟩)
 go_loopw [7,8] (λnv iv wr=>∃k:Nat,1≤k∧k≤m∧iv=I J k∧nv=I J (B+d-1+jc y (k-1))∧w=wr) (λ_ iv _=>m-(intOf iv).toNat)
 case atStart=>exact⟨1,Nat.le_refl _,hm.1,rfl,by simp[jc],rfl⟩
 case round=>
  obtain⟨k,vH,hk2,rfl,rfl,rfl⟩:=hrel;have hl:=UT.out (k-1)
  by_cases hlt:k<m
  ·have hs:=V5.out k vH
   have hl2:=UT.out (k+1-1);have KD:=KD k (by omega);have HS:Hid (B+d-1+jc y (k-1)+nI y k=B+d-1+jc y (k+1-1)):=by unfold Hid;rw[←hs];omega
   have YM:0≤nI y k∧nI y k≤31:=by
    unfold nI
    repeat' split
    all_goals omega
   clear hs hl2;generalize jc y (k-1)=M at *;generalize nI y k=D at *;go_wp2_with (go_at_call 235;refine KD.mono ?_;rintro e w' ⟨rfl,rfl⟩);go_roundw
   case rel=>exact⟨k+1,by omega,by omega,by go_num,by rw[←HS.out],by first|trivial|rfl⟩
   case measure=>simp[intOf];omega
  ·obtain rfl:k=m:=by omega
   go_wp2;go_ret;exact⟨sF HR.out.symm,rfl⟩
theorem Ki:Kh 1970 1 1=719162:=by decide+kernel
theorem Kj:Kh 9999 12 31=3652058:=by decide+kernel
theorem xY(w:World):Calls pQ 200 #[] w λe w'=>e=.returned (I J 62135596800)∧w=w':=by
 have KD:=AG 1970 1 1 (by omega) (by omega) (by omega) w;rw[Ki] at KD;go_enter Tryz.func200,Tryz.ntmps200;go_wp2_with (go_at_call 218;refine KD.mono ?_;rintro e w' ⟨rfl,rfl⟩);go_ret;exact⟨rfl,rfl⟩
theorem uS(w:World):Calls pQ 201 #[.agg #[I J 9999,I J 12,I J 31,I J 23,I J 59,I J 59]] w λe w'=>e=.returned (I J 253402300799)∧aa ac w w':=by
 have KD:=λW=>AG 9999 31 12 (by omega) (by omega) (by omega) W
 rw[Kj] at KD;have KD':∀W,Calls pQ 218 #[I J 9999,I J 12,I J 31] W λe w'=>e=.returned (I J 3652058)∧w'=W:=λW=>(KD W).mono λe w' h=>⟨h.1,h.2.symm⟩
 have KZ':∀W,Calls pQ 200 #[] W λe w'=>e=.returned (I J 62135596800)∧w'=W:=λW=>(xY W).mono λe w' h=>⟨h.1,h.2.symm⟩
 clear KD;go_enter Tryz.func201,Tryz.ntmps201;go_wp2;go_quiet (first|(go_at_call 218;exact Calls.quiet_of_same (KD' _))|(go_at_call 200;exact Calls.quiet_of_same (KZ' _)));go_wp2;go_ret;exact⟨rfl,((fR w).alloc _).drewN _⟩
theorem FM(w:World):Calls pQ 158 #[] w λe w'=>e=.returned (I J 253402300799)∧aa ac w w':=by
 have KM:=uS w;go_enter Tryz.func158,Tryz.ntmps158;go_wp2_with (go_at_call 201;refine KM.mono ?_;rintro e w' ⟨rfl,hf⟩);go_ret;exact⟨rfl,hf⟩
theorem AH(w:World):Calls pQ 157 #[] w λe w'=>e=.returned (I J (-62135596800))∧w=w':=by
 have KM:=xY w;go_enter Tryz.func157,Tryz.ntmps157;go_wp2_with (go_at_call 200;refine KM.mono ?_;rintro e w' ⟨rfl,rfl⟩);go_ret;exact⟨rfl,rfl⟩
theorem sP(n:Int)(w:World):Calls pQ 107 #[I J n] w λe w'=>e=.returned (.bool (dR n))∧aa ac w w':=by
 have KF:=AH w;have KL:=FM w;have hr:=fR w;go_enter Tryz.func107,Tryz.ntmps107
 go_wp2_with (first
  | (go_at_call 157;refine KF.mono ?_;rintro e w' ⟨rfl,rfl⟩)
  | (go_at_call 158;refine KL.mono ?_;rintro e w' ⟨rfl,hr⟩))
 all_goals
  go_ret;refine⟨af ?_,by assumption⟩;unfold dR;rw[Bool.eq_iff_iff];simp
  try omega
theorem uz(n:Int)(w:World):Calls pQ 189 #[I J n] w λe w'=>e=.returned (.bool (dR n))∧aa ac w w':=by
 have KO:=Kg n w;go_enter Tryz.func189,Tryz.ntmps189;go_wp2_with (go_at_call 213;refine KO.mono ?_;rintro e w' ⟨⟨c0,c1,c2,c3,c4,c5,rfl⟩,hf⟩)
 all_goals
  go_ret;refine⟨af ?_,?_⟩
  ·first|simp_all|skip
  ·exact hf.alloc _
theorem yM:eS.toList=[]:=by
 unfold eS ByteArray.toList;unfold ByteArray.toList.loop;simp;intro h;exact absurd h (by decide)
theorem cX:s.toList=[]↔s=eS:=by
 constructor
 ·intro h
  by_cases h0:s=eS
  ·exact h0
  ·have h1:=qG h0
   rw[h,yM] at h1
   cases h1
 ·rintro rfl
  exact yM
theorem ve{m:Int}(h:decide ((s.size:Int)≤m)=true)(hm:m≤1000000):s.size≤1000000:=by
 simp at h;omega
theorem ER(s:ByteArray):((fB (dP (aX s))).toList==s.toList)=decide (dP (aX s)=aX s):=by
 have e:(fB (dP (aX s))=s)↔dP (aX s)=aX s:=⟨λh=>by have:=congrArg aX h;rwa [eU] at this,λh=>by rw[h];rfl⟩
 by_cases h:dP (aX s)=aX s
 ·rw[decide_eq_true h,e.2 h]
  simp
 ·rw[decide_eq_false h]
  exact qG λh'=>h (e.1 h')
theorem rb(s:ByteArray)(m:Int)(hm:m≤1000000)(w:World):Calls pQ 212 #[V s,I J m] w λe w'=>e=.returned (.bool (dQ s m))∧aa ac w w':=by
 have HE:Hid (dQ s m=(decide ((s.size:Int)≤m)&&dY (aX s)&&decide (dP (aX s)=aX s))):=rfl;have HC:=h_ (ER s)
 cases hs:decide ((s.size:Int)≤m) with
 | false=>
   go_enter Tryz.func212,Tryz.ntmps212;go_wp2;go_ret
   exact⟨af (by rw[HE.out,hs];rfl),aa.refl _ _⟩
 | true=>
   have KR:=λW=>CQ s W (ve hs hm)
   have KC:=λW=>rR s W (ve hs hm)
   cases hr:dY (aX s) with
   | false=>
     rw[hr] at KR;go_enter Tryz.func212,Tryz.ntmps212;go_wp2_with (go_at_call 232;refine(KR _).mono ?_;rintro e w1 ⟨rfl,jg⟩);go_ret
     exact⟨af (by rw[HE.out,hs,hr];rfl),jg⟩
   | true=>
     rw[hr] at KR;have qz:Hid (dQ s m=decide (dP (aX s)=aX s)):=by unfold Hid;rw[HE.out,hs,hr];rfl
     rw[←HC.out] at qz;clear HC HE;go_enter Tryz.func212,Tryz.ntmps212
     go_wp2_with (first
      | (go_at_call 232;refine(KR _).mono ?_;rintro e w1 ⟨rfl,jg⟩)
      | (go_at_call 85;refine(KC _).mono ?_;rintro e w2 ⟨rfl,hf2⟩))
     go_ret;exact⟨af qz.out.symm,jg.trans hf2⟩
theorem rf(s:ByteArray)(m:Int)(hm:m≤1000000)(w:World):Calls pQ 171 #[V s,I J m] w λe w'=>e=.returned (.bool (dQ s m))∧aa ac w w':=by
 have HE:Hid (dQ s m=(decide ((s.size:Int)≤m)&&dY (aX s)&&decide (dP (aX s)=aX s))):=rfl;have HC:=h_ (ER s)
 cases hs:decide ((s.size:Int)≤m) with
 | false=>
   go_enter Tryz.func171,Tryz.ntmps171;go_wp2;go_ret
   exact⟨af (by rw[HE.out,hs];rfl),aa.refl _ _⟩
 | true=>
   have KR:=λW=>CT s W (ve hs hm)
   have KC:=λW=>rS s W (ve hs hm)
   cases hr:dY (aX s) with
   | false=>
     rw[hr] at KR;go_enter Tryz.func171,Tryz.ntmps171;go_wp2_with (go_at_call 207;refine(KR _).mono ?_;rintro e w1 ⟨rfl,rfl⟩);go_ret
     exact⟨af (by rw[HE.out,hs,hr];rfl),aa.refl _ _⟩
   | true=>
     rw[hr] at KR;have qz:Hid (dQ s m=decide (dP (aX s)=aX s)):=by unfold Hid;rw[HE.out,hs,hr];rfl
     rw[←HC.out] at qz;clear HC HE;go_enter Tryz.func171,Tryz.ntmps171
     go_wp2_with (first
      | (go_at_call 207;refine(KR _).mono ?_;rintro e w1 ⟨rfl,rfl⟩)
      | (go_at_call 154;refine(KC _).mono ?_;rintro e w2 ⟨rfl,hf2⟩))
     go_ret;exact⟨af qz.out.symm,hf2⟩
theorem rT(s:ByteArray)(w:World):Calls pQ 183 #[V s] w λe w'=>e=.returned (.bool (df s))∧aa ac w w':=by
 by_cases h0:s.toList=[]
 ·have HE:Hid (df s=false):=by simp[Hid,df,cX.1 h0]
  go_enter Tryz.func183,Tryz.ntmps183;go_wp2;go_ret;exact⟨af HE.out.symm,aa.refl _ _⟩
 ·have KT:=rb s 64 (by omega) w
  have HE:Hid (df s=dQ s 64):=by simp[Hid,df,mt cX.2 h0]
  go_enter Tryz.func183,Tryz.ntmps183;go_wp2_with (go_at_call 212;refine KT.mono ?_;rintro e w1 ⟨rfl,jg⟩);go_ret;exact⟨af (by rw[HE.out];simp[h0]),jg⟩
theorem rU(s:ByteArray)(w:World):Calls pQ 188 #[V s] w λe w'=>e=.returned (.bool (gK s))∧aa ac w w':=by
 have KT:=rb s 256 (by omega) w;have HE:Hid (gK s=dQ s 256):=rfl;go_enter Tryz.func188,Tryz.ntmps188;go_wp2_with (go_at_call 212;refine KT.mono ?_;rintro e w1 ⟨rfl,jg⟩);go_ret;exact⟨af HE.out.symm,jg⟩
theorem xZ(s:ByteArray)(w:World):Calls pQ 190 #[V s] w λe w'=>e=.returned (.bool (nH s))∧aa ac w w':=by
 have KT:=rb s 512 (by omega) w;have HE:Hid (nH s=dQ s 512):=rfl;go_enter Tryz.func190,Tryz.ntmps190;go_wp2_with (go_at_call 212;refine KT.mono ?_;rintro e w1 ⟨rfl,jg⟩);go_ret;exact⟨af HE.out.symm,jg⟩
theorem vP(s:ByteArray)(w:World):Calls pQ 187 #[V s] w λe w'=>e=.returned (.bool (iD s))∧aa ac w w':=by
 by_cases h0:s.toList=[]
 ·have HE:Hid (iD s=false):=by simp[Hid,iD,cX.1 h0]
  go_enter Tryz.func187,Tryz.ntmps187;go_wp2;go_ret;exact⟨af HE.out.symm,aa.refl _ _⟩
 ·have KT:=xZ s w
  have HE:Hid (iD s=nH s):=by simp[Hid,iD,mt cX.2 h0]
  go_enter Tryz.func187,Tryz.ntmps187;go_wp2_with (go_at_call 190;refine KT.mono ?_;rintro e w1 ⟨rfl,jg⟩);go_ret;exact⟨af (by rw[HE.out];simp[h0]),jg⟩
theorem CV(s:ByteArray)(w:World):Calls pQ 191 #[V s] w λe w'=>e=.returned (.bool (gL s))∧aa ac w w':=by
 by_cases h0:s.toList=[]
 ·have HE:Hid (gL s=false):=by simp[Hid,gL,cX.1 h0]
  go_enter Tryz.func191,Tryz.ntmps191;go_wp2;go_ret;exact⟨af HE.out.symm,aa.refl _ _⟩
 ·have KT:=rb s 512 (by omega) w
  have HE:Hid (gL s=dQ s 512):=by simp[Hid,gL,mt cX.2 h0]
  go_enter Tryz.func191,Tryz.ntmps191;go_wp2_with (go_at_call 212;refine KT.mono ?_;rintro e w1 ⟨rfl,jg⟩);go_ret;exact⟨af (by rw[HE.out];simp[h0]),jg⟩
theorem nJ(s:ByteArray)(w:World):Calls pQ 128 #[V s] w λe w'=>e=.returned (.bool (df s))∧aa ac w w':=by
 by_cases h0:s.toList=[]
 ·have HE:Hid (df s=false):=by simp[Hid,df,cX.1 h0]
  go_enter Tryz.func128,Tryz.ntmps128;go_wp2;go_ret;exact⟨af HE.out.symm,aa.refl _ _⟩
 ·have KT:=rf s 64 (by omega) w
  have HE:Hid (df s=dQ s 64):=by simp[Hid,df,mt cX.2 h0]
  go_enter Tryz.func128,Tryz.ntmps128;go_wp2_with (go_at_call 171;refine KT.mono ?_;rintro e w1 ⟨rfl,jg⟩);go_ret;exact⟨af (by rw[HE.out];simp[h0]),jg⟩
theorem p9(s:ByteArray)(w:World):Calls pQ 130 #[V s] w λe w'=>e=.returned (.bool (gK s))∧aa ac w w':=by
 have KT:=rf s 256 (by omega) w;have HE:Hid (gK s=dQ s 256):=rfl;go_enter Tryz.func130,Tryz.ntmps130;go_wp2_with (go_at_call 171;refine KT.mono ?_;rintro e w1 ⟨rfl,jg⟩);go_ret;exact⟨af HE.out.symm,jg⟩
theorem tY(s:ByteArray)(w:World):Calls pQ 129 #[V s] w λe w'=>e=.returned (.bool (nH s))∧aa ac w w':=by
 have KT:=rf s 512 (by omega) w;have HE:Hid (nH s=dQ s 512):=rfl;go_enter Tryz.func129,Tryz.ntmps129;go_wp2_with (go_at_call 171;refine KT.mono ?_;rintro e w1 ⟨rfl,jg⟩);go_ret;exact⟨af HE.out.symm,jg⟩
theorem vQ(s:ByteArray)(w:World):Calls pQ 132 #[V s] w λe w'=>e=.returned (.bool (gL s))∧aa ac w w':=by
 by_cases h0:s.toList=[]
 ·have HE:Hid (gL s=false):=by simp[Hid,gL,cX.1 h0]
  go_enter Tryz.func132,Tryz.ntmps132;go_wp2;go_ret;exact⟨af HE.out.symm,aa.refl _ _⟩
 ·have KT:=rf s 512 (by omega) w
  have HE:Hid (gL s=dQ s 512):=by simp[Hid,gL,mt cX.2 h0]
  go_enter Tryz.func132,Tryz.ntmps132;go_wp2_with (go_at_call 171;refine KT.mono ?_;rintro e w1 ⟨rfl,jg⟩);go_ret;exact⟨af (by rw[HE.out];simp[h0]),jg⟩
theorem j9(n:Int)(w:World):Calls pQ 186 #[I J n] w λe w'=>e=.returned (.bool (li n))∧w=w':=by
 go_enter Tryz.func186,Tryz.ntmps186;go_wp2
 all_goals
  go_ret;refine⟨af ?_,rfl⟩;unfold li;rw[Bool.eq_iff_iff];simp
  try omega
theorem bi(n:Int)(w:World):Calls pQ 127 #[I J n] w λe w'=>e=.returned (.bool (li n))∧w=w':=by
 go_enter Tryz.func127,Tryz.ntmps127;go_wp2
 all_goals
  go_ret;refine⟨af ?_,rfl⟩;unfold li;rw[Bool.eq_iff_iff];simp
  try omega
theorem vR(s:ByteArray):vN s=decide (js s=[s]):=by
 unfold vN js;rw[Bool.eq_iff_iff,decide_eq_true_eq,decide_eq_true_eq];constructor
 ·intro h
  show (tP (aX s)).map fB=[s]
  rw[h];rfl
 ·intro h
  have h:(tP (aX s)).map fB=[s]:=h;have:=congrArg (List.map aX) h;rw[List.map_map] at this
  simpa [Function.comp_def,eU] using this
theorem rV:∀(rs cur:List Nat),(dl cur rs).length≤1+rs.length
 | [],cur=>by
   unfold dl
   split<;>simp
 | r::rs,cur=>by
   unfold dl;have h1:=rV rs (cur++[r]);have h2:=rV rs [];simp only[List.length_cons]
   repeat' split
   all_goals (simp;try omega)
theorem vS(s:ByteArray):(js s).length≤1+s.size:=by
 rw[xQ,List.length_map];have h1:=rV (jY (aX s)) [];have h2:=lq (aX s);have h3:(jY (aX s)).length=(cV (aX s)).length:=by simp[jY]
 rw[←aT] at h2;omega
theorem qa(h:df s=true):s.size≤64:=by
 unfold df dQ at h;simp at h;omega
theorem AK(s:ByteArray)(w:World):Calls pQ 148 #[V s] w λe w'=>e=.returned (.bool (lJ s))∧aa ac w w':=by
 have KL:=rT s w;have HE:Hid (lJ s=(df s&&vN s)):=rfl
 cases hl:df s with
 | false=>
   rw[hl] at KL;go_enter Tryz.func148,Tryz.ntmps148;go_wp2_with (go_at_call 183;refine KL.mono ?_;rintro e w1 ⟨rfl,jg⟩);go_ret
   exact⟨af (by rw[HE.out,hl];rfl),jg⟩
 | true=>
   have hs:=qa hl;have KI:=λW=>M2 s W (by omega)
   rw[←vR] at KI;rw[hl] at KL;go_enter Tryz.func148,Tryz.ntmps148
   go_wp2_with (first
    | (go_at_call 183;refine KL.mono ?_;rintro e w1 ⟨rfl,jg⟩)
    | (go_at_call 184;refine(KI _).mono ?_;rintro e w2 ⟨rfl,hf2⟩))
   go_ret;exact⟨af (by rw[HE.out,hl];rfl),jg.trans hf2⟩
theorem vT(s:ByteArray)(w:World):Calls pQ 131 #[V s] w λe w'=>e=.returned (.bool (lJ s))∧aa ac w w':=by
 have KL:=nJ s w;have HE:Hid (lJ s=(df s&&vN s)):=rfl
 cases hl:df s with
 | false=>
   rw[hl] at KL;go_enter Tryz.func131,Tryz.ntmps131;go_wp2_with (go_at_call 128;refine KL.mono ?_;rintro e w1 ⟨rfl,jg⟩);go_ret
   exact⟨af (by rw[HE.out,hl];rfl),jg⟩
 | true=>
   have hs:=qa hl;have KW:=λW=>vK s W (by omega)
   have hwl:=vS s;rw[hl] at KL;rw[vR] at HE;generalize js s=l at *
   have KS:Hid (∀(w1 w2:World) (A:Option Addr) (c:Nat),aK 9 w1 w2 (U A l.length c) l.length (l.map Value.string)→
     Calls pQ 172 #[U A l.length c,U (some ⟨w2.heap.size,0,none⟩) 1 1] (w2.alloc (.cells #[V s] 9)) λe w'=>e=.returned (.bool (decide (l=[s])))∧aa ac (w2.alloc (.cells #[V s] 9)) w'):=by
    intro w1 w2 A c hrow;have hr:=(hrow.more ((fR w2).alloc (.cells #[V s] 9))).rd;exact FB hr (Rd.of_obj (size:=1) (heap_alloc_new w2 (.cells #[V s] 9)) 1 rfl) (by omega) (by omega)
   go_enter Tryz.func131,Tryz.ntmps131
   go_wp2_with (first
    | (go_at_call 128;refine KL.mono ?_;rintro e w1 ⟨rfl,jg⟩)
    | (go_at_call 156;refine(KW _).mono ?_;rintro e w2 ⟨A,c,rfl,hrow⟩)
    | (go_at_call 172;refine(KS.out _ _ A c hrow).mono ?_;rintro e w3 ⟨rfl,hf3⟩))
   go_ret;exact⟨af (by rw[HE.out,hl];rfl),((jg.trans hrow.frm).alloc _).trans hf3⟩
def dt(e:Ev):Value:=.agg #[I J e.kind,I J e.a,I J e.b,I J e.n,V e.s,V e.t,V e.u]
theorem FN(e:Ev)(he:1≤e.kind∧e.kind≤13)(w:World):Calls pQ 152 #[dt e] w λr w'=>r=.returned (dt (aU e))∧aa ac w w':=by
 obtain⟨k,a,b,n,s,t,u⟩:=e;simp only at he;rcases(by omega:k=1∨k=2∨k=3∨k=4∨k=5∨k=6∨k=7∨k=8∨k=9∨k=10∨k=11∨k=12∨k=13) with rfl|rfl|rfl|rfl|rfl|rfl|rfl|rfl|rfl|rfl|rfl|rfl|rfl
 all_goals
  unfold dt;clear he;go_enter Tryz.func152,Tryz.ntmps152;go_wp2
  try go_region
  try go_wp2
 all_goals
  go_returns
  refine⟨rfl,?_⟩
  first
   | exact(((fR w).alloc _).alloc _).alloc _
   | exact((((fR w).alloc _).alloc _).alloc _).drew
end Go.Proofs.YtaecjmiobllhmaaGreat
