/- Words. -/
import Derived.Test.YtaecjmiobllhmaaGreatGr07
import Derived.Handy
import Derived.BigRegion
set_option linter.unusedVariables false
set_option linter.unusedSimpArgs false
set_option maxRecDepth 100000
set_option maxHeartbeats 16000000
namespace Go.Proofs.YtaecjmiobllhmaaGreat
open Go.Value renaming int→I,string→V,slice→U
open Go.IntKind renaming i64→J
open Tryz renaming prog→pQ
open Go.RowKit Go.Lib
variable {s:ByteArray}
theorem Cx(c:Nat)(w:World)(hc:c≤1114111):Calls pQ 195 #[.int .i32 c] w λe w'=>e=.returned (.bool (qh c))∧w=w':=by
 go_enter Tryz.func195,Tryz.ntmps195;go_wp2
 all_goals
  go_ret;refine⟨af ?_,rfl⟩
  try simp only[beq_iff_eq,bne_iff_ne,bne_eq_false_iff_eq,beq_eq_false_iff_ne,ne_eq,decide_eq_true_eq,decide_eq_false_iff_not,Bool.or_eq_true,Bool.or_eq_false_iff,Bool.and_eq_true,Bool.and_eq_false_iff] at *
  unfold qh;rw[Bool.eq_iff_iff];simp
  try omega
theorem Cy(s:ByteArray)(w:World)(hs:s.size≤1000000):
  Calls pQ 207 #[V s] w λe w'=>e=.returned (.bool (cV (aU s)))∧w=w':=by
 go_enter Tryz.func207,Tryz.ntmps207;go_wp2
 go_loopw [0] (λsv wr=>∃(x:ByteArray),sv=V x∧x.size≤s.size∧cV (aU x)=cV (aU s)∧w=wr) (λsv _=>Co sv)
 case atStart=>exact⟨s,rfl,Nat.le_refl _,rfl,rfl⟩
 case round=>
  obtain⟨x,rfl,hx,hd,rfl⟩:=hrel;have HD:=h_ hd;clear hd
  by_cases h0:0<x.size
  ·have hne:aU x≠[]:=λe=>by
    have h1:(aU x).length=0:=by rw[e];rfl
    rw[←bg] at h1;omega
   have hle:=decodeL_le _ hne;have hw:=decodeL_width (aU x);rw[←bg] at hle;have hstep:=uv (aU x);have nh:=vO (aU x);have kf:=xL x w (by omega) h0;obtain⟨R,K,Cp⟩:∃R K,decodeL (aU x)=(R,K):=⟨_,_,rfl⟩;rw[Cp] at hle hw hstep kf nh;simp only at hle hw hstep;have bv:=h_ hstep;have ou:=h_ nh;have KF:=h_ kf;have EH:=h_ (yC x K);have rR:=h_ hne;clear hstep kf Cp nh hne;have hk0:(0:Int)≤(K:Int):=Int.natCast_nonneg _;have vh:(K:Int)≤(x.size:Int):=by omega
   have hx0:decide ((0:Int)<(x.size:Int))=true:=by simp;omega
   by_cases Cp:R=65533∧K=1
   ·obtain⟨rfl,rfl⟩:=Cp
    have HG:Hid (cV (aU s)=false):=HD.out.symm.trans (ou.out rfl rR.out);go_wp2_with (go_at_call 197;refine KF.out.mono ?_;rintro e w' ⟨rfl,rfl⟩);go_ret;exact⟨by rw[HG.out];rfl,rfl⟩
   ·have hgo:(R,K)≠(65533,1):=λe=>Cp ⟨congrArg Prod.fst e,congrArg Prod.snd e⟩
    have HG:Hid (cV (aU (x.extract K x.size))=cV (aU s)):=by
     unfold Hid;rw[EH.out,←bv.out hgo rR.out,HD.out]
    have HM:Hid ((x.extract K x.size).size<x.size):=by
     have:(x.extract K x.size).size=x.size-K:=by rw[bg,EH.out,List.length_drop,←bg]
     unfold Hid;omega
    clear hgo
    by_cases hR:R=65533
    ·subst hR
     have hK:K≠1:=λe=>Cp ⟨rfl,e⟩
     have hb:((K:Int)==1)=false:=by simp;omega
     clear Cp;go_wp2_with (go_at_call 197;refine KF.out.mono ?_;rintro e w' ⟨rfl,rfl⟩);go_roundw
     case rel=>exact⟨x.extract K x.size,rfl,by have:=HM.out;omega,HG.out,by first|trivial|rfl⟩
     case measure=>exact HM.out
    ·have hb:((R:Int)==65533)=false:=by simp;omega
     clear Cp;go_wp2_with (go_at_call 197;refine KF.out.mono ?_;rintro e w' ⟨rfl,rfl⟩);go_roundw
     case rel=>exact⟨x.extract K x.size,rfl,by have:=HM.out;omega,HG.out,by first|trivial|rfl⟩
     case measure=>exact HM.out
  ·have h1:(aU x).length=0:=by
    have:=bg x;omega
   have hz:aU x=[]:=List.eq_nil_of_length_eq_zero h1
   have HE:Hid (cV (aU s)=true):=by
    have:=HD.out;rw[hz,vN] at this;exact this.symm
   have hx0:decide ((0:Int)<(x.size:Int))=false:=decide_eq_false (by omega);clear hz h1;go_wp2;go_ret;exact⟨by rw[HE.out];rfl,rfl⟩
theorem AA(L out:List Nat)(wt:Bool)(k:Nat)(h:k<L.length):ck (L.drop k) out wt=if qh L[k]=true then ck (L.drop (k+1)) out (!out.isEmpty) else if sU L[k]=true then ck (L.drop (k+1)) out wt else ck (L.drop (k+1)) ((if wt=true then out++[32] else out)++[L[k]]) false:=by
 rw[List.drop_eq_getElem_cons h,ck]
theorem Cz(s:ByteArray)(w:World)(hs:s.size≤1000000):
  Calls pQ 154 #[V s] w λe w'=>e=.returned (V (kC (iq (aU s))))∧aa ag w w':=by
 go_enter Tryz.func154,Tryz.ntmps154;go_wp2_with fail;refine(tY s w hs).mono ?_;rintro e w1 ⟨A1,c1,rfl,cL⟩;have HV:=h_ (qa (aU s));have sW:=nD (aU s);rw[←bg] at sW;have HS:Hid (iq (aU s)=enc (ck (bV (aU s)) [] false)):=rfl;generalize bV (aU s)=L at *;generalize hn:L.length=n at *;have HN:=h_ hn;have bo:=h_ cL;clear hn cL;go_wp2
 go_loopw [4,5,6] (λov wv iv wr=>∃(k:Nat) (out:List Nat) (wt:Bool),k≤n∧iv=I J k∧wv=.bool wt∧aJ 21 w1 wr ov out.length (yB out)∧ck (L.drop k) out wt=ck L [] false∧out.length≤2 * k∧∀r∈out,Vr r) (λ_ _ iv _=>n-(intOf iv).toNat)
 case atStart=>exact⟨0,[],false,Nat.zero_le _,rfl,rfl,aJ.nil_ _ (aa.refl _ _),rfl,by simp,by simp⟩
 case round=>
  obtain⟨k,out,wt,hk,rfl,rfl,hrow,hcl,S7,RX⟩:=hrel;have eh:=h_ hrow;have Nv:=h_ RX;obtain⟨A,c,rfl,-,-,-,-⟩:=hrow.shape;have Pu:=h_ hcl;clear hrow RX hcl;have NN:=bo.out.rd.frm eh.out.frm λ_ _=>id
  by_cases hlt:k<n
  ·have cQ:k<L.length:=by rw[HN.out];exact hlt
   obtain⟨ad,u,rfl,-,Cg,hu,Ch⟩:=NN.at_ hlt;rw[Cn L k cQ] at hu;injection hu with hu;subst hu;have hv:=HV.out L[k] (List.getElem_mem cQ);have HD:=h_ (AA L out wt k cQ);have hR:L[k]≤1114111:=by unfold Vr at hv;omega
   have KB:=λW=>Cx L[k] W hR
   have hk0:(0:Int)≤(k:Int):=Int.natCast_nonneg _;have vh:(k:Int)<(n:Int):=by omega
   clear NN;generalize L[k]=R at *
   cases tX:qh R with
   | true=>
     have HG:Hid (ck (L.drop (k+1)) out (!out.isEmpty)=ck L [] false):=by
      have:=Pu.out;rw[HD.out,if_pos tX] at this;exact this
     have HE:Hid (decide (0<(out.length:Int))=!out.isEmpty):=by
      unfold Hid
      cases out<;>simp
     rw[tX] at KB;clear hv tX;go_wp2_with (go_at_call 195;refine(KB _).mono ?_;rintro e w' ⟨rfl,rfl⟩);go_roundw
     case rel=>exact⟨k+1,out,!out.isEmpty,by omega,by go_num,by rw[←HE.out];simp,eh.out,HG.out,by omega,Nv.out⟩
     case measure=>simp[intOf];omega
   | false=>
     rw[tX] at KB
     cases xl:sU R with
     | true=>
       have HG:Hid (ck (L.drop (k+1)) out wt=ck L [] false):=by
        have:=Pu.out;rw[HD.out,if_neg (by simp[tX]),if_pos xl] at this;exact this
       have hcc:R<32∨127≤R∧R≤159:=by simpa [sU] using xl
       clear hv tX xl
       by_cases Jc:R<32
       ·have b1:decide ((R:Int)<32)=true:=by simp;omega
        go_wp2_with (go_at_call 195;refine(KB _).mono ?_;rintro e w' ⟨rfl,rfl⟩);go_roundw
        case rel=>exact⟨k+1,out,wt,by omega,by go_num,rfl,eh.out,HG.out,by omega,Nv.out⟩
        case measure=>simp[intOf];omega
       ·have b1:decide ((R:Int)<32)=false:=by simp;omega
        have b2:decide ((127:Int)≤(R:Int))=true:=by simp;omega
        have b3:decide ((R:Int)≤159)=true:=by simp;omega
        go_wp2_with (go_at_call 195;refine(KB _).mono ?_;rintro e w' ⟨rfl,rfl⟩);go_roundw
        case rel=>exact⟨k+1,out,wt,by omega,by go_num,rfl,eh.out,HG.out,by omega,Nv.out⟩
        case measure=>simp[intOf];omega
     | false=>
       have HG:Hid (ck (L.drop (k+1)) ((if wt=true then out++[32] else out)++[R]) false=ck L [] false):=by
        have:=Pu.out;rw[HD.out,if_neg (by simp[tX]),if_neg (by simp[xl])] at this;exact this
       have hcc:¬(R<32)∧¬(127≤R∧R≤159):=by simpa [sU,not_or] using xl
       have S8:=h_ hv;clear hv tX xl;have b1:decide ((R:Int)<32)=false:=by simp;omega
       have Le:decide ((127:Int)≤(R:Int))=false∨decide ((127:Int)≤(R:Int))=true∧decide ((R:Int)≤159)=false:=by
        by_cases h:127≤R
        ·right
         exact⟨by simp;omega,by simp;omega⟩
        ·left
         simp;omega
       have RY:Hid (∀o:List Nat,(∀r∈o,Vr r)→∀r∈o++[R],Vr r):=by
        intro o ho r hr;rcases List.mem_append.1 hr with hr|hr
        ·exact ho r hr
        ·simp at hr
         rw[hr];exact S8.out
       have NP:Vr 32:=by unfold Vr;omega
       have S9:Hid (∀r∈out++[32],Vr r):=by
        intro r hr;rcases List.mem_append.1 hr with hr|hr
        ·exact Nv.out r hr
        ·simp at hr
         rw[hr];exact NP
       clear NP
       cases wt with
       | false=>
         obtain⟨v2,w2,hrun,hrow2,-,-⟩:=eh.out.push (P:=pQ) Al (.int .i32 (R:Int)) rfl (by unfold maxLen;omega) (by omega)
         have gF:Hid (aJ 21 w1 w2 v2 (out++[R]).length (yB (out++[R]))):=by
          unfold Hid;rw[List.length_append,nH];exact hrow2
         clear hrow2;rcases Le with b2|⟨b2,b3⟩
         all_goals
          go_wp2_with (first
           | (go_at_call 195;refine(KB _).mono ?_;rintro e w' ⟨rfl,rfl⟩)
           | (at_builtin;refine aq hrun rfl _ _ rfl rfl rfl ?_))
          go_roundw
          case rel=>exact⟨k+1,out++[R],false,by omega,by go_num,rfl,gF.out,HG.out,by simp;omega,RY.out out Nv.out⟩
          case measure=>simp[intOf];omega
       | true=>
         obtain⟨v2,w2,hrun,hrow2,-,-⟩:=eh.out.push (P:=pQ) Al (.int .i32 32) rfl (by unfold maxLen;omega) (by omega);obtain⟨v3,w3,GV,hrow3,-,-⟩:=hrow2.push (P:=pQ) Al (.int .i32 (R:Int)) rfl (by unfold maxLen;omega) (by omega)
         have nG:Hid (aJ 21 w1 w3 v3 (out++[32]++[R]).length (yB (out++[32]++[R]))):=by
          unfold Hid;rw[List.length_append,List.length_append,nH,nH];exact hrow3
         have hlo:=hrow2.frm.size;clear hrow2 hrow3;rcases Le with b2|⟨b2,b3⟩
         all_goals
          go_wp2_with (first
           | (go_at_call 195;refine(KB _).mono ?_;rintro e w' ⟨rfl,rfl⟩)
           | (at_builtin;refine aq hrun rfl _ _ rfl rfl rfl ?_)
           | (at_builtin;refine aq GV rfl _ _ rfl rfl rfl ?_))
          go_roundw
          case rel=>exact⟨k+1,out++[32]++[R],false,by omega,by go_num,rfl,nG.out,HG.out,by simp;omega,RY.out (out++[32]) S9.out⟩
          case measure=>simp[intOf];omega
  ·obtain rfl:k=n:=by omega
   have HE:Hid (out=ck L [] false):=by
    have h1:L.drop k=[]:=List.drop_eq_nil_iff.2 (by rw[HN.out];exact Nat.le_refl _);have h2:=Pu.out;rw[h1,ck] at h2;exact h2
   have KP:=h_ (vn A out.length c out Nv.out rfl (by omega) _ wr eh.out.rd (λj hj=>(eh.out.own.lt j hj).2));clear NN;go_wp2_with (go_at_call 196;refine KP.out.mono ?_;rintro e w2 ⟨rfl,hf2⟩);go_ret;exact⟨by rw[HS.out,←HE.out];rfl,(bo.out.frm.trans eh.out.frm).trans hf2⟩
def eS:ByteArray:=⟨#[]⟩
structure Ev where
 kind:Int
 a:Int
 b:Int
 n:Int
 s:ByteArray
 t:ByteArray
 u:ByteArray
instance:DecidableEq Ev:=λx y=>
 decidable_of_iff (x.kind=y.kind∧x.a=y.a∧x.b=y.b∧x.n=y.n∧x.s=y.s∧x.t=y.t∧x.u=y.u)
  ⟨λ⟨h1,h2,h3,h4,h5,h6,h7⟩=>by cases x;cases y;simp_all,λh=>by subst h;simp⟩
def Ev.cells(e:Ev):List Value:=[I J e.kind,I J e.a,I J e.b,I J e.n,V e.s,V e.t,V e.u]
def nj(n:Int):Bool:=decide (1≤n∧n≤1048576)
def gQ(s:ByteArray)(most:Int):Bool:=decide ((s.size:Int)≤most)&&cV (aU s)&&decide (iq (aU s)=aU s)
def cZ(s:ByteArray):Bool:=decide (s≠eS)&&gQ s 64
def vP(s:ByteArray):Bool:=decide (tU (aU s)=[aU s])
def sX(s:ByteArray):Bool:=cZ s&&vP s
def nk(s:ByteArray):Bool:=gQ s 256
def pD(s:ByteArray):Bool:=gQ s 512
def kF(s:ByteArray):Bool:=decide (s≠eS)&&pD s
def kY(s:ByteArray):Bool:=decide (s≠eS)&&gQ s 512
def kR(n:Int):Bool:=decide (-62135596800≤n∧n≤253402300799)
def aK(n:Int):Bool:=decide (n=0)||nj n
def aW(n:Int):Bool:=decide (n=0∨n=1)
def aS(e:Ev):Ev:=
 if e.kind=1 then ⟨e.kind,e.a,e.b,0,e.s,eS,eS⟩
 else if e.kind=3 then ⟨e.kind,e.a,e.b,0,e.s,e.t,eS⟩
 else if e.kind=5 then ⟨e.kind,e.a,0,0,eS,e.t,eS⟩
 else if e.kind=6 then ⟨e.kind,e.a,e.b,0,eS,eS,eS⟩
 else if e.kind=7 then e
 else if e.kind=8∨e.kind=9 then ⟨e.kind,e.a,0,e.n,eS,eS,eS⟩
 else if e.kind=10 then ⟨e.kind,e.a,0,e.n,e.s,eS,eS⟩
 else if e.kind=11 then ⟨e.kind,e.a,0,0,e.s,e.t,eS⟩
 else if e.kind=13 then ⟨e.kind,0,0,e.n,eS,eS,eS⟩
 else ⟨e.kind,e.a,0,0,eS,eS,eS⟩
def aB(e:Ev):Bool:=
 if e.kind=1 then nj e.a&&aK e.b&&cZ e.s
 else if e.kind=2∨e.kind=4∨e.kind=12 then nj e.a
 else if e.kind=3 then nj e.a&&aK e.b&&kF e.s&&nk e.t
 else if e.kind=5 then nj e.a&&nk e.t
 else if e.kind=6 then nj e.a&&aK e.b
 else if e.kind=7 then nj e.a&&nj e.b&&kR e.n&&kF e.s&&nk e.t&&pD e.u
 else if e.kind=8∨e.kind=9 then nj e.a&&aW e.n
 else if e.kind=10 then nj e.a&&aW e.n&&sX e.s
 else if e.kind=11 then nj e.a&&cZ e.s&&kY e.t
 else if e.kind=13 then kR e.n
 else false
def aM(e:Ev):Bool:=aB e&&decide (aS e=e)
theorem AB(n a b:Int)(w:World):Calls pQ 233 #[I J n,I J a,I J b] w λe w'=>e=.returned (.bool (decide (a≤n∧n≤b)))∧w=w':=by
 go_enter Tryz.func233,Tryz.ntmps233;go_wp2
 all_goals
  go_ret;refine⟨af ?_,rfl⟩;rw[Bool.eq_iff_iff];simp
  try omega
theorem Ji(n:Int)(w:World):Calls pQ 213 #[I J n] w λe w'=>(∃c0 c1 c2 c3 c4 c5:Int,e=.returned (.tuple #[.agg #[I J c0,I J c1,I J c2,I J c3,I J c4,I J c5],I J (if kR n=true then 0 else 40)]))∧aa ag w w':=by
 have HF:Hid (∀cs:Array Value,aa ag w (w.alloc (.cells cs 213))):=λcs=>(fR w).alloc _
 have KW:=λa b W=>AB n a b W
 cases hm:kR n with
 | false=>
   have hd:decide (-62135596800≤n∧n≤253402300799)=false:=by simpa [kR] using hm
   rw[if_neg (by simp)];go_enter Tryz.func213,Tryz.ntmps213;go_wp2_with (go_at_call 233;refine(KW _ _ _).mono ?_;rw[hd];rintro e w' ⟨rfl,rfl⟩)
   go_returns
   exact⟨⟨_,_,_,_,_,_,rfl⟩,(fR w).alloc _⟩
 | true=>
   have hd:decide (-62135596800≤n∧n≤253402300799)=true:=by simpa [kR] using hm
   have hn: -62135596800≤n∧n≤253402300799:=by simpa using hd
   rw[if_pos rfl];go_enter Tryz.func213,Tryz.ntmps213;go_wp2_with (go_at_call 233;refine(KW _ _ _).mono ?_;rw[hd];rintro e w' ⟨rfl,rfl⟩)
   all_goals
    go_returns
    exact⟨⟨_,_,_,_,_,_,rfl⟩,((fR w).alloc _).alloc _⟩
theorem EP(y:Int)(hy:1≤y∧y≤9999)(w:World):Calls pQ 243 #[I J y] w λe w'=>e=.returned (.bool (decide (y % 4=0∧y % 100≠0∨y % 400=0)))∧w=w':=by
 go_enter Tryz.func243,Tryz.ntmps243;go_wp2
 all_goals
  go_ret;refine⟨af ?_,rfl⟩;rw[Bool.eq_iff_iff];simp;omega
def nI(y m:Int):Int:=if m=2 then (if y % 4=0∧y % 100≠0∨y % 400=0 then 29 else 28) else if m=4∨m=6∨m=9∨m=11 then 30 else 31
theorem EQ(y m:Int)(hy:1≤y∧y≤9999)(hm:1≤m∧m≤12)(w:World):Calls pQ 235 #[I J y,I J m] w λe w'=>e=.returned (I J (nI y m))∧w=w':=by
 have KL:=λW=>EP y hy W
 by_cases hl:y % 4=0∧y % 100≠0∨y % 400=0
 ·have HD:Hid (nI y m=if m=2 then 29 else if m=4∨m=6∨m=9∨m=11 then 30 else 31):=by unfold Hid nI;rw[if_pos hl]
  rw[decide_eq_true hl] at KL;clear hl;rcases(by omega:m=1∨m=2∨m=3∨m=4∨m=5∨m=6∨m=7∨m=8∨m=9∨m=10∨m=11∨m=12) with rfl|rfl|rfl|rfl|rfl|rfl|rfl|rfl|rfl|rfl|rfl|rfl
  all_goals
   go_enter Tryz.func235,Tryz.ntmps235;go_wp2_with (go_at_call 243;refine(KL _).mono ?_;rintro e w' ⟨rfl,rfl⟩);go_ret;exact⟨sI (by rw[HD.out];decide),rfl⟩
 ·have HD:Hid (nI y m=if m=2 then 28 else if m=4∨m=6∨m=9∨m=11 then 30 else 31):=by unfold Hid nI;rw[if_neg hl]
  rw[decide_eq_false hl] at KL;clear hl;rcases(by omega:m=1∨m=2∨m=3∨m=4∨m=5∨m=6∨m=7∨m=8∨m=9∨m=10∨m=11∨m=12) with rfl|rfl|rfl|rfl|rfl|rfl|rfl|rfl|rfl|rfl|rfl|rfl
  all_goals
   go_enter Tryz.func235,Tryz.ntmps235;go_wp2_with (go_at_call 243;refine(KL _).mono ?_;rintro e w' ⟨rfl,rfl⟩);go_ret;exact⟨sI (by rw[HD.out];decide),rfl⟩
theorem CA(y:Int)(hy:1≤y∧y≤9999)(w:World):Calls pQ 234 #[I J y] w λe w'=>e=.returned (I J (365 * (y-1)+(y-1)/4-(y-1)/100+(y-1)/400))∧w=w':=by
 go_enter Tryz.func234,Tryz.ntmps234;go_wp2;go_ret;exact⟨rfl,rfl⟩
def ir(y:Int):Nat→Int
 | 0=>0
 | k+1=>ir y k+nI y (k+1)
theorem vQ(y:Int):∀k:Nat,0≤ir y k∧ir y k≤31 * k
 | 0=>by simp[ir]
 | k+1=>by
   have:=vQ y k
   have h2:0≤nI y (k+1)∧nI y (k+1)≤31:=by
    unfold nI
    repeat' split
    all_goals omega
   rw[ir];omega
def Jj(y:Int)(m:Nat)(d:Int):Int:=365 * (y-1)+(y-1)/4-(y-1)/100+(y-1)/400+d-1+ir y (m-1)
theorem AC(y d:Int)(m:Nat)(hy:1≤y∧y≤9999)(hm:1≤m∧m≤12)(hd:1≤d∧d≤31)(w:World):Calls pQ 218 #[I J y,I J m,I J d] w λe w'=>e=.returned (I J (Jj y m d))∧w=w':=by
 have KA:=CA y hy w;have KD:=λ(k:Int) (hk:1≤k∧k≤12)=>EQ y k hy hk w
 have HR:Hid (Jj y m d=365 * (y-1)+(y-1)/4-(y-1)/100+(y-1)/400+d-1+ir y (m-1)):=rfl;have Pv:=h_ (vQ y)
 have Ta:Hid (∀k:Nat,1≤k→ir y (k-1)+nI y k=ir y (k+1-1)):=by
  intro k hk;obtain⟨q,rfl⟩:∃q,k=q+1:=⟨k-1,by omega⟩;simp[ir]
 have hb:0≤365 * (y-1)+(y-1)/4-(y-1)/100+(y-1)/400∧365 * (y-1)+(y-1)/4-(y-1)/100+(y-1)/400≤4000000:=by omega
 generalize 365 * (y-1)+(y-1)/4-(y-1)/100+(y-1)/400=B at *;go_enter Tryz.func218,Tryz.ntmps218;go_wp2_with (go_at_call 234;refine KA.mono ?_;rintro e w' ⟨rfl,rfl⟩)
 go_loopw [7,8] (λnv iv wr=>∃k:Nat,1≤k∧k≤m∧iv=I J k∧nv=I J (B+d-1+ir y (k-1))∧w=wr) (λ_ iv _=>m-(intOf iv).toNat)
 case atStart=>exact⟨1,Nat.le_refl _,hm.1,rfl,by simp[ir],rfl⟩
 case round=>
  obtain⟨k,vh,hk2,rfl,rfl,rfl⟩:=hrel;have hl:=Pv.out (k-1)
  by_cases hlt:k<m
  ·have hs:=Ta.out k vh
   have hl2:=Pv.out (k+1-1);have KD:=KD k (by omega);have HS:Hid (B+d-1+ir y (k-1)+nI y k=B+d-1+ir y (k+1-1)):=by unfold Hid;rw[←hs];omega
   have U9:0≤nI y k∧nI y k≤31:=by
    unfold nI
    repeat' split
    all_goals omega
   clear hs hl2;generalize ir y (k-1)=M at *;generalize nI y k=D at *;go_wp2_with (go_at_call 235;refine KD.mono ?_;rintro e w' ⟨rfl,rfl⟩);go_roundw
   case rel=>exact⟨k+1,by omega,by omega,by go_num,by rw[←HS.out],by first|trivial|rfl⟩
   case measure=>simp[intOf];omega
  ·obtain rfl:k=m:=by omega
   go_wp2;go_ret;exact⟨sI HR.out.symm,rfl⟩
theorem Jk:Jj 1970 1 1=719162:=by decide+kernel
theorem Jl:Jj 9999 12 31=3652058:=by decide+kernel
theorem xP(w:World):Calls pQ 200 #[] w λe w'=>e=.returned (I J 62135596800)∧w=w':=by
 have KD:=AC 1970 1 1 (by omega) (by omega) (by omega) w;rw[Jk] at KD;go_enter Tryz.func200,Tryz.ntmps200;go_wp2_with (go_at_call 218;refine KD.mono ?_;rintro e w' ⟨rfl,rfl⟩);go_ret;exact⟨rfl,rfl⟩
theorem uT(w:World):Calls pQ 201 #[.agg #[I J 9999,I J 12,I J 31,I J 23,I J 59,I J 59]] w λe w'=>e=.returned (I J 253402300799)∧aa ag w w':=by
 have KD:=λW=>AC 9999 31 12 (by omega) (by omega) (by omega) W
 rw[Jl] at KD;have KD':∀W,Calls pQ 218 #[I J 9999,I J 12,I J 31] W λe w'=>e=.returned (I J 3652058)∧w'=W:=λW=>(KD W).mono λe w' h=>⟨h.1,h.2.symm⟩
 have KZ':∀W,Calls pQ 200 #[] W λe w'=>e=.returned (I J 62135596800)∧w'=W:=λW=>(xP W).mono λe w' h=>⟨h.1,h.2.symm⟩
 clear KD;go_enter Tryz.func201,Tryz.ntmps201;go_wp2;go_quiet (first|(go_at_call 218;exact Calls.quiet_of_same (KD' _))|(go_at_call 200;exact Calls.quiet_of_same (KZ' _)));go_wp2;go_ret;exact⟨rfl,((fR w).alloc _).drewN _⟩
theorem ER(w:World):Calls pQ 158 #[] w λe w'=>e=.returned (I J 253402300799)∧aa ag w w':=by
 have KM:=uT w;go_enter Tryz.func158,Tryz.ntmps158;go_wp2_with (go_at_call 201;refine KM.mono ?_;rintro e w' ⟨rfl,hf⟩);go_ret;exact⟨rfl,hf⟩
theorem AD(w:World):Calls pQ 157 #[] w λe w'=>e=.returned (I J (-62135596800))∧w=w':=by
 have KM:=xP w;go_enter Tryz.func157,Tryz.ntmps157;go_wp2_with (go_at_call 200;refine KM.mono ?_;rintro e w' ⟨rfl,rfl⟩);go_ret;exact⟨rfl,rfl⟩
theorem vR(n:Int)(w:World):Calls pQ 107 #[I J n] w λe w'=>e=.returned (.bool (kR n))∧aa ag w w':=by
 have KF:=AD w;have KL:=ER w;have hr:=fR w;go_enter Tryz.func107,Tryz.ntmps107
 go_wp2_with (first
  | (go_at_call 157;refine KF.mono ?_;rintro e w' ⟨rfl,rfl⟩)
  | (go_at_call 158;refine KL.mono ?_;rintro e w' ⟨rfl,hr⟩))
 all_goals
  go_ret;refine⟨af ?_,by assumption⟩;unfold kR;rw[Bool.eq_iff_iff];simp
  try omega
theorem ux(n:Int)(w:World):Calls pQ 189 #[I J n] w λe w'=>e=.returned (.bool (kR n))∧aa ag w w':=by
 have KO:=Ji n w;go_enter Tryz.func189,Tryz.ntmps189;go_wp2_with (go_at_call 213;refine KO.mono ?_;rintro e w' ⟨⟨c0,c1,c2,c3,c4,c5,rfl⟩,hf⟩)
 all_goals
  go_ret;refine⟨af ?_,?_⟩
  ·first|simp_all|skip
  ·exact hf.alloc _
theorem yE:eS.toList=[]:=by
 unfold eS ByteArray.toList;unfold ByteArray.toList.loop;simp;intro h;exact absurd h (by decide)
theorem fx:s.toList=[]↔s=eS:=by
 constructor
 ·intro h
  by_cases h0:s=eS
  ·exact h0
  ·have h1:=vM h0
   rw[h,yE] at h1
   cases h1
 ·rintro rfl
  exact yE
theorem vo{m:Int}(h:decide ((s.size:Int)≤m)=true)(hm:m≤1000000):s.size≤1000000:=by
 simp at h;omega
theorem Ef(s:ByteArray):((kC (iq (aU s))).toList==s.toList)=decide (iq (aU s)=aU s):=by
 have e:(kC (iq (aU s))=s)↔iq (aU s)=aU s:=⟨λh=>by have:=congrArg aU h;rwa [mE] at this,λh=>by rw[h];rfl⟩
 by_cases h:iq (aU s)=aU s
 ·rw[decide_eq_true h,e.2 h]
  simp
 ·rw[decide_eq_false h]
  exact vM λh'=>h (e.1 h')
theorem rz(s:ByteArray)(m:Int)(hm:m≤1000000)(w:World):Calls pQ 212 #[V s,I J m] w λe w'=>e=.returned (.bool (gQ s m))∧aa ag w w':=by
 have HE:Hid (gQ s m=(decide ((s.size:Int)≤m)&&cV (aU s)&&decide (iq (aU s)=aU s))):=rfl;have HC:=h_ (Ef s)
 cases hs:decide ((s.size:Int)≤m) with
 | false=>
   go_enter Tryz.func212,Tryz.ntmps212;go_wp2;go_ret
   exact⟨af (by rw[HE.out,hs];rfl),aa.refl _ _⟩
 | true=>
   have KR:=λW=>Cu s W (vo hs hm)
   have KC:=λW=>Cw s W (vo hs hm)
   cases hr:cV (aU s) with
   | false=>
     rw[hr] at KR;go_enter Tryz.func212,Tryz.ntmps212;go_wp2_with (go_at_call 232;refine(KR _).mono ?_;rintro e w1 ⟨rfl,gI⟩);go_ret
     exact⟨af (by rw[HE.out,hs,hr];rfl),gI⟩
   | true=>
     rw[hr] at KR;have xa:Hid (gQ s m=decide (iq (aU s)=aU s)):=by unfold Hid;rw[HE.out,hs,hr];rfl
     rw[←HC.out] at xa;clear HC HE;go_enter Tryz.func212,Tryz.ntmps212
     go_wp2_with (first
      | (go_at_call 232;refine(KR _).mono ?_;rintro e w1 ⟨rfl,gI⟩)
      | (go_at_call 85;refine(KC _).mono ?_;rintro e w2 ⟨rfl,hf2⟩))
     go_ret;exact⟨af xa.out.symm,gI.trans hf2⟩
theorem rB(s:ByteArray)(m:Int)(hm:m≤1000000)(w:World):Calls pQ 171 #[V s,I J m] w λe w'=>e=.returned (.bool (gQ s m))∧aa ag w w':=by
 have HE:Hid (gQ s m=(decide ((s.size:Int)≤m)&&cV (aU s)&&decide (iq (aU s)=aU s))):=rfl;have HC:=h_ (Ef s)
 cases hs:decide ((s.size:Int)≤m) with
 | false=>
   go_enter Tryz.func171,Tryz.ntmps171;go_wp2;go_ret
   exact⟨af (by rw[HE.out,hs];rfl),aa.refl _ _⟩
 | true=>
   have KR:=λW=>Cy s W (vo hs hm)
   have KC:=λW=>Cz s W (vo hs hm)
   cases hr:cV (aU s) with
   | false=>
     rw[hr] at KR;go_enter Tryz.func171,Tryz.ntmps171;go_wp2_with (go_at_call 207;refine(KR _).mono ?_;rintro e w1 ⟨rfl,rfl⟩);go_ret
     exact⟨af (by rw[HE.out,hs,hr];rfl),aa.refl _ _⟩
   | true=>
     rw[hr] at KR;have xa:Hid (gQ s m=decide (iq (aU s)=aU s)):=by unfold Hid;rw[HE.out,hs,hr];rfl
     rw[←HC.out] at xa;clear HC HE;go_enter Tryz.func171,Tryz.ntmps171
     go_wp2_with (first
      | (go_at_call 207;refine(KR _).mono ?_;rintro e w1 ⟨rfl,rfl⟩)
      | (go_at_call 154;refine(KC _).mono ?_;rintro e w2 ⟨rfl,hf2⟩))
     go_ret;exact⟨af xa.out.symm,hf2⟩
theorem sj(s:ByteArray)(w:World):Calls pQ 183 #[V s] w λe w'=>e=.returned (.bool (cZ s))∧aa ag w w':=by
 by_cases h0:s.toList=[]
 ·have HE:Hid (cZ s=false):=by simp[Hid,cZ,fx.1 h0]
  go_enter Tryz.func183,Tryz.ntmps183;go_wp2;go_ret;exact⟨af HE.out.symm,aa.refl _ _⟩
 ·have KT:=rz s 64 (by omega) w
  have HE:Hid (cZ s=gQ s 64):=by simp[Hid,cZ,mt fx.2 h0]
  go_enter Tryz.func183,Tryz.ntmps183;go_wp2_with (go_at_call 212;refine KT.mono ?_;rintro e w1 ⟨rfl,gI⟩);go_ret;exact⟨af (by rw[HE.out];simp[h0]),gI⟩
theorem sk(s:ByteArray)(w:World):Calls pQ 188 #[V s] w λe w'=>e=.returned (.bool (nk s))∧aa ag w w':=by
 have KT:=rz s 256 (by omega) w;have HE:Hid (nk s=gQ s 256):=rfl;go_enter Tryz.func188,Tryz.ntmps188;go_wp2_with (go_at_call 212;refine KT.mono ?_;rintro e w1 ⟨rfl,gI⟩);go_ret;exact⟨af HE.out.symm,gI⟩
theorem xQ(s:ByteArray)(w:World):Calls pQ 190 #[V s] w λe w'=>e=.returned (.bool (pD s))∧aa ag w w':=by
 have KT:=rz s 512 (by omega) w;have HE:Hid (pD s=gQ s 512):=rfl;go_enter Tryz.func190,Tryz.ntmps190;go_wp2_with (go_at_call 212;refine KT.mono ?_;rintro e w1 ⟨rfl,gI⟩);go_ret;exact⟨af HE.out.symm,gI⟩
theorem vS(s:ByteArray)(w:World):Calls pQ 187 #[V s] w λe w'=>e=.returned (.bool (kF s))∧aa ag w w':=by
 by_cases h0:s.toList=[]
 ·have HE:Hid (kF s=false):=by simp[Hid,kF,fx.1 h0]
  go_enter Tryz.func187,Tryz.ntmps187;go_wp2;go_ret;exact⟨af HE.out.symm,aa.refl _ _⟩
 ·have KT:=xQ s w
  have HE:Hid (kF s=pD s):=by simp[Hid,kF,mt fx.2 h0]
  go_enter Tryz.func187,Tryz.ntmps187;go_wp2_with (go_at_call 190;refine KT.mono ?_;rintro e w1 ⟨rfl,gI⟩);go_ret;exact⟨af (by rw[HE.out];simp[h0]),gI⟩
theorem CB(s:ByteArray)(w:World):Calls pQ 191 #[V s] w λe w'=>e=.returned (.bool (kY s))∧aa ag w w':=by
 by_cases h0:s.toList=[]
 ·have HE:Hid (kY s=false):=by simp[Hid,kY,fx.1 h0]
  go_enter Tryz.func191,Tryz.ntmps191;go_wp2;go_ret;exact⟨af HE.out.symm,aa.refl _ _⟩
 ·have KT:=rz s 512 (by omega) w
  have HE:Hid (kY s=gQ s 512):=by simp[Hid,kY,mt fx.2 h0]
  go_enter Tryz.func191,Tryz.ntmps191;go_wp2_with (go_at_call 212;refine KT.mono ?_;rintro e w1 ⟨rfl,gI⟩);go_ret;exact⟨af (by rw[HE.out];simp[h0]),gI⟩
theorem nJ(s:ByteArray)(w:World):Calls pQ 128 #[V s] w λe w'=>e=.returned (.bool (cZ s))∧aa ag w w':=by
 by_cases h0:s.toList=[]
 ·have HE:Hid (cZ s=false):=by simp[Hid,cZ,fx.1 h0]
  go_enter Tryz.func128,Tryz.ntmps128;go_wp2;go_ret;exact⟨af HE.out.symm,aa.refl _ _⟩
 ·have KT:=rB s 64 (by omega) w
  have HE:Hid (cZ s=gQ s 64):=by simp[Hid,cZ,mt fx.2 h0]
  go_enter Tryz.func128,Tryz.ntmps128;go_wp2_with (go_at_call 171;refine KT.mono ?_;rintro e w1 ⟨rfl,gI⟩);go_ret;exact⟨af (by rw[HE.out];simp[h0]),gI⟩
theorem qi(s:ByteArray)(w:World):Calls pQ 130 #[V s] w λe w'=>e=.returned (.bool (nk s))∧aa ag w w':=by
 have KT:=rB s 256 (by omega) w;have HE:Hid (nk s=gQ s 256):=rfl;go_enter Tryz.func130,Tryz.ntmps130;go_wp2_with (go_at_call 171;refine KT.mono ?_;rintro e w1 ⟨rfl,gI⟩);go_ret;exact⟨af HE.out.symm,gI⟩
theorem ub(s:ByteArray)(w:World):Calls pQ 129 #[V s] w λe w'=>e=.returned (.bool (pD s))∧aa ag w w':=by
 have KT:=rB s 512 (by omega) w;have HE:Hid (pD s=gQ s 512):=rfl;go_enter Tryz.func129,Tryz.ntmps129;go_wp2_with (go_at_call 171;refine KT.mono ?_;rintro e w1 ⟨rfl,gI⟩);go_ret;exact⟨af HE.out.symm,gI⟩
theorem vT(s:ByteArray)(w:World):Calls pQ 132 #[V s] w λe w'=>e=.returned (.bool (kY s))∧aa ag w w':=by
 by_cases h0:s.toList=[]
 ·have HE:Hid (kY s=false):=by simp[Hid,kY,fx.1 h0]
  go_enter Tryz.func132,Tryz.ntmps132;go_wp2;go_ret;exact⟨af HE.out.symm,aa.refl _ _⟩
 ·have KT:=rB s 512 (by omega) w
  have HE:Hid (kY s=gQ s 512):=by simp[Hid,kY,mt fx.2 h0]
  go_enter Tryz.func132,Tryz.ntmps132;go_wp2_with (go_at_call 171;refine KT.mono ?_;rintro e w1 ⟨rfl,gI⟩);go_ret;exact⟨af (by rw[HE.out];simp[h0]),gI⟩
theorem jH(n:Int)(w:World):Calls pQ 186 #[I J n] w λe w'=>e=.returned (.bool (nj n))∧w=w':=by
 go_enter Tryz.func186,Tryz.ntmps186;go_wp2
 all_goals
  go_ret;refine⟨af ?_,rfl⟩;unfold nj;rw[Bool.eq_iff_iff];simp
  try omega
theorem aV(n:Int)(w:World):Calls pQ 127 #[I J n] w λe w'=>e=.returned (.bool (nj n))∧w=w':=by
 go_enter Tryz.func127,Tryz.ntmps127;go_wp2
 all_goals
  go_ret;refine⟨af ?_,rfl⟩;unfold nj;rw[Bool.eq_iff_iff];simp
  try omega
theorem vU(s:ByteArray):vP s=decide (mW s=[s]):=by
 unfold vP mW;rw[Bool.eq_iff_iff,decide_eq_true_eq,decide_eq_true_eq];constructor
 ·intro h
  show (tU (aU s)).map kC=[s]
  rw[h];rfl
 ·intro h
  have h:(tU (aU s)).map kC=[s]:=h;have:=congrArg (List.map aU) h;rw[List.map_map] at this
  simpa [Function.comp_def,mE] using this
theorem sq:∀(rs cur:List Nat),(bR cur rs).length≤1+rs.length
 | [],cur=>by
   unfold bR
   split<;>simp
 | r::rs,cur=>by
   unfold bR;have h1:=sq rs (cur++[r]);have h2:=sq rs [];simp only[List.length_cons]
   repeat' split
   all_goals (simp;try omega)
theorem CC(s:ByteArray):(mW s).length≤1+s.size:=by
 rw[xK,List.length_map];have h1:=sq (jF (aU s)) [];have h2:=nD (aU s);have h3:(jF (aU s)).length=(bV (aU s)).length:=by simp[jF]
 rw[←bg] at h2;omega
theorem qj(h:cZ s=true):s.size≤64:=by
 unfold cZ gQ at h;simp at h;omega
theorem GW(s:ByteArray)(w:World):Calls pQ 148 #[V s] w λe w'=>e=.returned (.bool (sX s))∧aa ag w w':=by
 have KL:=sj s w;have HE:Hid (sX s=(cZ s&&vP s)):=rfl
 cases hl:cZ s with
 | false=>
   rw[hl] at KL;go_enter Tryz.func148,Tryz.ntmps148;go_wp2_with (go_at_call 183;refine KL.mono ?_;rintro e w1 ⟨rfl,gI⟩);go_ret
   exact⟨af (by rw[HE.out,hl];rfl),gI⟩
 | true=>
   have hs:=qj hl;have KI:=λW=>LU s W (by omega)
   rw[←vU] at KI;rw[hl] at KL;go_enter Tryz.func148,Tryz.ntmps148
   go_wp2_with (first
    | (go_at_call 183;refine KL.mono ?_;rintro e w1 ⟨rfl,gI⟩)
    | (go_at_call 184;refine(KI _).mono ?_;rintro e w2 ⟨rfl,hf2⟩))
   go_ret;exact⟨af (by rw[HE.out,hl];rfl),gI.trans hf2⟩
theorem AE(s:ByteArray)(w:World):Calls pQ 131 #[V s] w λe w'=>e=.returned (.bool (sX s))∧aa ag w w':=by
 have KL:=nJ s w;have HE:Hid (sX s=(cZ s&&vP s)):=rfl
 cases hl:cZ s with
 | false=>
   rw[hl] at KL;go_enter Tryz.func131,Tryz.ntmps131;go_wp2_with (go_at_call 128;refine KL.mono ?_;rintro e w1 ⟨rfl,gI⟩);go_ret
   exact⟨af (by rw[HE.out,hl];rfl),gI⟩
 | true=>
   have hs:=qj hl;have KW:=λW=>Cr s W (by omega)
   have hwl:=CC s;rw[hl] at KL;rw[vU] at HE;generalize mW s=l at *
   have KS:Hid (∀(w1 w2:World) (A:Option Addr) (c:Nat),aJ 9 w1 w2 (U A l.length c) l.length (l.map Value.string)→
     Calls pQ 172 #[U A l.length c,U (some ⟨w2.heap.size,0,none⟩) 1 1] (w2.alloc (.cells #[V s] 9)) λe w'=>e=.returned (.bool (decide (l=[s])))∧aa ag (w2.alloc (.cells #[V s] 9)) w'):=by
    intro w1 w2 A c hrow;have hr:=(hrow.more ((fR w2).alloc (.cells #[V s] 9))).rd;exact EM hr (Rd.of_obj (size:=1) (heap_alloc_new w2 (.cells #[V s] 9)) 1 rfl) (by omega) (by omega)
   go_enter Tryz.func131,Tryz.ntmps131
   go_wp2_with (first
    | (go_at_call 128;refine KL.mono ?_;rintro e w1 ⟨rfl,gI⟩)
    | (go_at_call 156;refine(KW _).mono ?_;rintro e w2 ⟨A,c,rfl,hrow⟩)
    | (go_at_call 172;refine(KS.out _ _ A c hrow).mono ?_;rintro e w3 ⟨rfl,hf3⟩))
   go_ret;exact⟨af (by rw[HE.out,hl];rfl),((gI.trans hrow.frm).alloc _).trans hf3⟩
def bQ(e:Ev):Value:=.agg #[I J e.kind,I J e.a,I J e.b,I J e.n,V e.s,V e.t,V e.u]
theorem ES(e:Ev)(he:1≤e.kind∧e.kind≤13)(w:World):Calls pQ 152 #[bQ e] w λr w'=>r=.returned (bQ (aS e))∧aa ag w w':=by
 obtain⟨k,a,b,n,s,t,u⟩:=e;simp only at he;rcases(by omega:k=1∨k=2∨k=3∨k=4∨k=5∨k=6∨k=7∨k=8∨k=9∨k=10∨k=11∨k=12∨k=13) with rfl|rfl|rfl|rfl|rfl|rfl|rfl|rfl|rfl|rfl|rfl|rfl|rfl
 all_goals
  unfold bQ;clear he;go_enter Tryz.func152,Tryz.ntmps152;go_wp2
  try go_region
  try go_wp2
 all_goals
  go_returns
  refine⟨rfl,?_⟩
  first
   | exact(((fR w).alloc _).alloc _).alloc _
   | exact((((fR w).alloc _).alloc _).alloc _).drew
end Go.Proofs.YtaecjmiobllhmaaGreat
