/- Words. -/
import Derived.Test.YtaecjmiobllhmaaGreatGr30
set_option linter.unusedVariables false
set_option linter.unusedSimpArgs false
set_option maxRecDepth 100000
set_option maxHeartbeats 16000000
namespace Go.Proofs.YtaecjmiobllhmaaGreat
open Go.Value renaming int→I,string→V,slice→U,pointer→O
open Go.IntKind renaming i64→J
open Go.RowKit Go.Lib
structure Mv where
 kind:Int
 ev:Ev
 err:Int
 last:Int
 snap:Int
 st:St
structure Wd where
 mode:Int
 sure:Int
 snap:Int
instance:DecidableEq Wd:=λx y=>decidable_of_iff (x.mode=y.mode∧x.sure=y.sure∧x.snap=y.snap) ⟨λ⟨h1,h2,h3⟩=>by cases x;cases y;simp_all,λh=>by subst h;simp⟩
structure Au where
 all:List Ev
 last:Nat
 ws:List Wd
def mh:Ev:=⟨0,0,0,0,eS,eS,eS⟩
def pK:Au:=⟨[],0,[⟨1,0,0⟩]⟩
def kO(l:List Wd)(x:Wd):List Wd:=if x∈l then l else l++[x]
def kq(f:Wd→List Wd)(ws:List Wd):List Wd:=(ws.flatMap f).foldl kO []
def cd(w:Wd)(b:Bool):List Wd:=if b=true then [w] else []
def aN(m:Mv):Bool:=decide (m.snap=0)&&decide (m.st=iV)
def mN(a:Au):Bool:=match a.ws with | []=>false|w::_=>decide (w.mode=1)
def pA(a:Au)(m:Mv):Int:=if aM m.ev=false then 140 else if aG (bG iV (a.all.take a.last)) m.ev=false then 330 else 30
def nx(want:Int)(done:Bool)(err:Int)(w:Wd):List Wd:=
 if w.mode=3 then cd w (decide (err=6))
 else if want≠30 then cd w (decide (err=want))
 else if done=true then [w]
 else cd {w with mode:=3} (decide (err=30))
def l8(a:Au)(m:Mv):Option Au:=
 if aN m=false∨(m.err≠0∧m.last≠0) then none
 else
  let want:=pA a m
  let done:=mN a&&decide (want=30)&&decide (m.err=0)&&decide (m.last=a.last+1)
  let ws:=kq (nx want done m.err) a.ws
  if ws=[] then none else some ⟨if mN a=true∧want=30 then a.all.take a.last++[m.ev] else a.all,if done=true then a.last+1 else a.last,ws⟩
def lC(last err:Int)(w:Wd):List Wd:=
 if w.mode=3 then cd w (decide (err=6))
 else if err=0 then cd {w with sure:=last} (decide (w.mode=1))
 else cd {w with mode:=3} (decide (err=30))
def gl(last err:Int)(w:Wd):List Wd:=
 if w.mode=3 then cd w (decide (err=6))
 else if w.snap=last then cd w (decide (err=1))
 else if err=0 then cd ⟨w.mode,last,last⟩ (decide (w.mode=1))
 else if err≠30 then []
 else if w.mode=2 then [w]
 else [⟨2,w.sure,w.snap⟩,⟨3,w.sure,w.snap⟩,⟨2,last,last⟩,⟨3,last,last⟩]
def l9(last snap:Int)(w:Wd):List Wd:=cd ⟨1,last,w.snap⟩ (decide (w.sure≤last)&&decide (snap=w.snap))
def lD(a:Au)(ws:List Wd):Option Au:=if ws=[] then none else some {a with ws:=ws}
def rj(a:Au)(m:Mv):Option Au:=
 if m.err=30∧m.last=0∧aN m=true then lD a (kq (λw=>[⟨3,w.sure,w.snap⟩]) a.ws)
 else if m.err≠0∨m.last<0∨(a.all.length:Int)<m.last then none
 else if m.st≠bG iV (a.all.take m.last.toNat) then none
 else if kq (l9 m.last m.snap) a.ws=[] then none
 else some ⟨a.all.take m.last.toNat,m.last.toNat,kq (l9 m.last m.snap) a.ws⟩
def ng(a:Au)(m:Mv):Option Au:=
 if m.kind=1 then l8 a m
 else if m.ev≠mh then none
 else if m.kind=4 then rj a m
 else if aN m=false∨m.last≠0 then none
 else if m.kind=2 then lD a (kq (lC a.last m.err) a.ws)
 else if m.kind=3 then lD a (kq (gl a.last m.err) a.ws)
 else none
def il:Au→List Mv→Nat
 | _,[]=>0
 | a,m::l=>match ng a m with
   | none=>0
   | some b=>il b l+1
def OZ:Au→List Mv→Option Au
 | a,[]=>some a
 | a,m::l=>match ng a m with
   | none=>none
   | some b=>OZ b l
variable {f:Wd→List Wd}{ws:List Wd}{k:Nat}{m:Mv}{G:Nat→Prop}{fo fe it se:Sl}{ts:List (Sl×aR)}{v:Sl}{g:Nat}{Aa Aw:Option Addr}{ca cw n:Nat}
theorem IA(l:List Wd)(x:Wd):(kO l x).length≤l.length+1:=by
 unfold kO;split
 ·omega
 ·simp
theorem IB{l:List Wd}{x y:Wd}:y∈kO l x↔y∈l∨y=x:=by
 unfold kO;split
 ·constructor
  ·exact λh=>.inl h
  ·rintro(h|rfl)
   ·exact h
   ·assumption
 ·simp
theorem tK:∀(m l:List Wd),(m.foldl kO l).length≤l.length+m.length
 | [],l=>Nat.le_refl _
 | x::m,l=>by
   have h1:=tK m (kO l x);have h2:=IA l x;simp only[List.foldl_cons,List.length_cons];omega
theorem wV:∀(m l:List Wd) (y:Wd),y∈m.foldl kO l↔y∈l∨y∈m
 | [],l,y=>by simp
 | x::m,l,y=>by
   simp only[List.foldl_cons,List.mem_cons];rw[wV m,IB];constructor
   ·rintro((h|h)|h)
    ·exact .inl h
    ·exact .inr (.inl h)
    ·exact .inr (.inr h)
   ·rintro(h|h|h)
    ·exact .inl (.inl h)
    ·exact .inl (.inr h)
    ·exact .inr h
theorem zF{y:Wd}:y∈kq f ws↔∃w∈ws,y∈f w:=by
 unfold kq;rw[wV];simp
theorem ym:∀(ws:List Wd),(∀w∈ws,(f w).length≤k)→(ws.flatMap f).length≤ws.length * k
 | [],_=>by simp
 | w::ws,hf=>by
   have:=hf w (by simp);have h3:=ym ws λy hy=>hf y (by simp[hy])
   rw[List.flatMap_cons,List.length_append,List.length_cons,Nat.add_mul];omega
theorem zG(ws:List Wd)(hf:∀w∈ws,(f w).length≤k):(kq f ws).length≤ws.length * k:=by
 have h1:=tK (ws.flatMap f) [];have h2:=ym ws hf;unfold kq;simp only[List.length_nil] at h1;omega
theorem Kp{x:Wd}:∀(ws:List Wd),(∀w∈ws,∀y∈f w,y=x)→kq f ws=[]∨kq f ws=[x]:=by
 intro ws h
 have key:∀(m:List Wd),(∀y∈m,y=x)→∀l,(l=[]∨l=[x])→m.foldl kO l=[]∨m.foldl kO l=[x]:=by
  intro m
  induction m with
  | nil=>exact λ_ l hl=>hl
  | cons y m ih=>
    intro hm l hl;obtain rfl:=hm y (by simp);refine ih (λz hz=>hm z (by simp[hz])) _ ?_;rcases hl with rfl|rfl
    ·exact .inr (by simp[kO])
    ·exact .inr (by simp[kO])
 exact key _ (λy hy=>by
  obtain⟨w,hw,hy⟩:=List.mem_flatMap.1 hy;exact h w hw y hy) [] (.inl rfl)
theorem mz(w:Wd)(b:Bool):(cd w b).length≤1:=by
 unfold cd;split<;>simp
theorem cD{w y:Wd}{b:Bool}(h:y∈cd w b):y=w∧b=true:=by
 unfold cd at h;split at h
 ·exact⟨by simpa using h,by assumption⟩
 ·cases h
structure lz(a:Au):Prop where
 le:a.last≤a.all.length
 shape:(∃w,a.ws=[w]∧w.mode=1)∨(a.ws≠[]∧(∀w∈a.ws,w.mode=2∨w.mode=3)∧a.ws.length≤4)
theorem lz.ne{a:Au}(h:lz a):a.ws≠[]:=by
 rcases h.shape with ⟨w,e,-⟩|h
 ·rw[e];simp
 ·exact h.1
theorem lz.len{a:Au}(h:lz a):a.ws.length≤4:=by
 rcases h.shape with ⟨w,e,-⟩|h
 ·rw[e];simp
 ·exact h.2.2
theorem IC:lz pK:=⟨by simp[pK],.inl ⟨_,rfl,rfl⟩⟩
theorem mA{a b:Au}(h:lD a ws=some b):ws≠[]∧b={a with ws:=ws}:=by
 unfold lD at h;split at h
 ·cases h
 ·exact⟨by assumption,by injection h with h;exact h.symm⟩
def Rt(ws:List Wd):Prop:=(∃w,ws=[w]∧w.mode=1)∨(ws≠[]∧(∀w∈ws,w.mode=2∨w.mode=3)∧ws.length≤4)
theorem zH(h:Rt ws)(h1:∀w∈ws,(f w).length≤1)(h0:∀w,w.mode=1→∀y∈f w,y.mode=1∨y.mode=3)(h2:∀w,w.mode=2∨w.mode=3→∀y∈f w,y.mode=2∨y.mode=3)(hne:kq f ws≠[]):Rt (kq f ws):=by
 have hl:=zG ws h1;rcases h with ⟨w,rfl,hw⟩|⟨-,hm,h4⟩
 ·have Jy:(kq f [w]).length=1:=by
   have:(kq f [w]).length≠0:=λe=>hne (List.eq_nil_of_length_eq_zero e)
   simp only[List.length_cons,List.length_nil] at hl;omega
  obtain⟨y,hy⟩:=List.length_eq_one_iff.1 Jy;have hy1:y∈kq f [w]:=by rw[hy];simp
  obtain⟨w',hw',hy2⟩:=zF.1 hy1;obtain rfl:=List.mem_singleton.1 hw';rw[hy];rcases h0 w' hw y hy2 with he|he
  ·exact .inl ⟨y,rfl,he⟩
  ·exact .inr ⟨by simp,by simp[he],by simp⟩
 ·exact .inr ⟨hne,λy hy=>by
   obtain⟨w,hw,hy⟩:=zF.1 hy;exact h2 w (hm w hw) y hy,by omega⟩
theorem BU(want:Int)(done:Bool)(err:Int)(w:Wd):(nx want done err w).length≤1:=by
 unfold nx
 repeat' split
 all_goals first|exact mz _ _|simp
theorem yn(last err:Int)(w:Wd):(lC last err w).length≤1:=by
 unfold lC
 repeat' split
 all_goals exact mz _ _
theorem FN(last err:Int)(w:Wd):(gl last err w).length≤4:=by
 unfold gl
 repeat' split
 all_goals first|exact Nat.le_trans (mz _ _) (by decide)|simp
theorem BV{a b:Au}(h:lz a)(hs:ng a m=some b):lz b:=by
 have Ag:Rt a.ws:=h.shape;unfold ng at hs;split at hs
 ·unfold l8 at hs
  split at hs
  ·cases hs
  ·simp only at hs
   split at hs
   ·cases hs
   ·rename_i hne
    injection hs with hs;subst hs;refine⟨?_,zH Ag (λ_ _=>BU _ _ _ _) ?_ ?_ hne⟩
    ·simp only
     have h1:=h.le
     by_cases hl:mN a=true∧pA a m=30
     ·rw[if_pos hl]
      simp only[List.length_append,List.length_take,List.length_cons,List.length_nil];split<;>omega
     ·rw[if_neg hl]
      have:(mN a&&decide (pA a m=30)&&decide (m.err=0)&&decide (m.last=(a.last:Int)+1))=false:=by
       cases Cg:mN a
       ·simp
       ·have:¬pA a m=30:=λe=>hl ⟨Cg,e⟩
        simp[this]
      rw[this];exact h1
    ·intro w hw y hy
     unfold nx at hy
     repeat' split at hy
     ·rw[(cD hy).1];exact .inl hw
     ·rw[(cD hy).1];exact .inl hw
     ·rw[List.mem_singleton.1 hy];exact .inl hw
     ·rw[(cD hy).1];exact .inr rfl
    ·intro w hw y hy
     unfold nx at hy
     repeat' split at hy
     ·rw[(cD hy).1];exact hw
     ·rw[(cD hy).1];exact hw
     ·rw[List.mem_singleton.1 hy];exact hw
     ·rw[(cD hy).1];exact .inr rfl
 split at hs
 ·cases hs
 split at hs
 ·unfold rj at hs
  split at hs
  ·obtain⟨h1,rfl⟩:=mA hs
   exact⟨h.le,zH Ag (λ_ _=>by simp) (λw _ y hy=>by rw[List.mem_singleton.1 hy];exact .inr rfl) (λw _ y hy=>by rw[List.mem_singleton.1 hy];exact .inr rfl) h1⟩
  split at hs
  ·cases hs
  split at hs
  ·cases hs
  split at hs
  ·cases hs
  ·rename_i h1 h2 h3
   injection hs with hs;subst hs;refine⟨by simp only[List.length_take];omega,.inl ?_⟩
   rcases Kp (f:=l9 m.last m.snap) (x:=⟨1,m.last,m.snap⟩) a.ws (λw _ y hy=>by
    have:=cD hy;simp only[Bool.and_eq_true,decide_eq_true_eq] at this;rw[this.1,this.2.2]) with h4|h4
   ·exact absurd h4 h3
   ·exact⟨_,h4,rfl⟩
 split at hs
 ·cases hs
 split at hs
 ·obtain⟨h1,rfl⟩:=mA hs
  refine⟨h.le,zH Ag (λ_ _=>yn _ _ _) (λw hw y hy=>?_) (λw hw y hy=>?_) h1⟩
  ·unfold lC at hy
   repeat' split at hy
   ·rw[(cD hy).1];exact .inl hw
   ·rw[(cD hy).1];exact .inl hw
   ·rw[(cD hy).1];exact .inr rfl
  ·unfold lC at hy
   repeat' split at hy
   ·rw[(cD hy).1];exact hw
   ·have:=cD hy
    have:=of_decide_eq_true this.2;omega
   ·rw[(cD hy).1];exact .inr rfl
 split at hs
 ·obtain⟨h1,rfl⟩:=mA hs
  refine⟨h.le,?_⟩;rcases Ag with ⟨w,he,hw⟩|⟨-,hm,h4⟩
  ·simp only[he] at h1 ⊢
   have e1:kq (gl a.last m.err) [w]=(gl a.last m.err w).foldl kO []:=by simp[kq]
   rw[e1] at h1 ⊢;unfold gl at h1 ⊢;rw[if_neg (by omega)] at h1 ⊢
   by_cases c1:w.snap=(a.last:Int)
   ·rw[if_pos c1] at h1 ⊢
    unfold cd at h1 ⊢;split
    ·exact .inl ⟨w,by simp[kO],hw⟩
    ·rename_i h5
     simp[h5] at h1
   ·rw[if_neg c1] at h1 ⊢
    by_cases c2:m.err=0
    ·rw[if_pos c2]
     unfold cd;rw[if_pos (by simp[hw])];exact .inl ⟨_,rfl,hw⟩
    ·rw[if_neg c2] at h1 ⊢
     by_cases c3:m.err≠30
     ·rw[if_pos c3] at h1
      exact absurd rfl h1
     ·rw[if_neg c3,if_neg (by omega)] at h1 ⊢
      have hl:=tK [⟨2,w.sure,w.snap⟩,⟨3,w.sure,w.snap⟩,⟨2,(a.last:Int),(a.last:Int)⟩,⟨3,(a.last:Int),(a.last:Int)⟩] [];refine .inr ⟨h1,λy hy=>?_,by simpa using hl⟩;rw[wV] at hy;simp only[List.not_mem_nil,List.mem_cons,false_or,or_false] at hy;rcases hy with rfl|rfl|rfl|rfl<;>first|exact .inl rfl|exact .inr rfl
  ·have f1:∀w∈a.ws,(gl a.last m.err w).length≤1∧∀y∈gl a.last m.err w,y.mode=2∨y.mode=3:=by
    intro w hw;have hw1:=hm w hw;unfold gl;split
    ·exact⟨mz _ _,λy hy=>by rw[(cD hy).1];exact hw1⟩
    split
    ·exact⟨mz _ _,λy hy=>by rw[(cD hy).1];exact hw1⟩
    split
    ·exact⟨mz _ _,λy hy=>by rw[(cD hy).1];exact hw1⟩
    split
    ·exact⟨by simp,λy hy=>by cases hy⟩
    split
    ·exact⟨by simp,λy hy=>by rw[List.mem_singleton.1 hy];exact hw1⟩
    ·omega
   have hl:=zG a.ws λw hw=>(f1 w hw).1
   exact .inr ⟨h1,λy hy=>by
    obtain⟨w,hw,hy⟩:=zF.1 hy;exact(f1 w hw).2 y hy,by show (kq (gl (a.last:Int) m.err) a.ws).length≤4;omega⟩
 ·cases hs
theorem yo{a b:Au}(hs:ng a m=some b):b.all.length≤a.all.length+1:=by
 unfold ng at hs;split at hs
 ·unfold l8 at hs
  split at hs
  ·cases hs
  ·simp only at hs
   split at hs
   ·cases hs
   ·injection hs with hs
    subst hs;simp only;split
    ·simp only[List.length_append,List.length_take,List.length_cons,List.length_nil]
     omega
    ·omega
 split at hs
 ·cases hs
 split at hs
 ·unfold rj at hs
  split at hs
  ·obtain⟨h1,rfl⟩:=mA hs
   exact Nat.le_succ _
  split at hs
  ·cases hs
  split at hs
  ·cases hs
  split at hs
  ·cases hs
  ·injection hs with hs
   subst hs;simp only[List.length_take];omega
 split at hs
 ·cases hs
 split at hs
 ·obtain⟨h1,rfl⟩:=mA hs
  exact Nat.le_succ _
 split at hs
 ·obtain⟨h1,rfl⟩:=mA hs
  exact Nat.le_succ _
 ·cases hs
def Wd.cells(w:Wd):List Value:=[I J w.mode,I J w.sure,I J w.snap]
theorem Wd.clen(w:Wd):w.cells.length=3:=rfl
theorem MW(w W:World)(hf:aa ag w W)(e:Wd):aF (W.alloc (.cells e.cells.toArray 68)) (λk=>w.heap.size≤k) 3 (some ⟨W.heap.size,0,none⟩,1) 1 ([e].flatMap Wd.cells):=by
 have q:=(aI.lit (s:=3) 68 hf 1 e.cells rfl (by unfold maxLen;omega)).sl
 simpa using q
def iK(w:World)(l:List Wd)(e:Ending)(w':World):Prop:=
 ∃v:Sl,e=.returned (U v.1 l.length v.2)∧aF w' (λk=>w.heap.size≤k) 3 v l.length (l.flatMap Wd.cells)∧aa ag w w'
theorem gC(x:Wd)(b:Bool)(w:World):Calls Tryz.prog 119 #[.agg #[I J x.mode,I J x.sure,I J x.snap],.bool b] w (iK w (cd x b)):=by
 have HL:=h_ (MW w (w.alloc (.cells #[I J x.mode,I J x.sure,I J x.snap] 68)) ((fR w).alloc _) x)
 cases b with
 | false=>
   go_enter Tryz.func119,Tryz.ntmps119;go_wp2;go_ret
   exact⟨(none,0),rfl,aF.none_ _ _ _,(fR w).alloc _⟩
 | true=>
   go_enter Tryz.func119,Tryz.ntmps119;go_wp2;go_ret;exact⟨(some ⟨w.heap.size+1,0,none⟩,1),rfl,by have q:=HL.out;rw[show (w.alloc (.cells #[I J x.mode,I J x.sure,I J x.snap] 68)).heap.size=w.heap.size+1 by simp] at q;exact q,((fR w).alloc _).alloc _⟩
structure jE(w:World)(G:Nat→Prop)(fo fe it se:Sl)(ts:List (Sl×aR))(m:Mv):Prop where
 st:aY w G fo fe it se ts m.st
 small:aP m.st
theorem jE.nix{w w1:World}(h:jE w G fo fe it se ts m)(hf:aa ag w w1):jE w1 G fo fe it se ts m:=⟨h.st.nix hf,h.small⟩
theorem DM:aP iV:=ud.small
theorem mC{w:World}(h:jE w G fo fe it se ts m):Calls Tryz.prog 63 #[.agg #[I J m.kind,I J m.ev.kind,I J m.ev.a,I J m.ev.b,I J m.ev.n,V m.ev.s,V m.ev.t,V m.ev.u,I J m.err,I J m.last,I J m.snap,I J m.st.clock,U fo.1 m.st.fols.length fo.2,U fe.1 m.st.fees.length fe.2,U it.1 m.st.itms.length it.2,U se.1 m.st.seas.length se.2,I J m.st.tFol,I J m.st.tFee,I J m.st.tItm,I J m.st.tSea]] w λe w'=>e=.returned (.bool (aN m))∧aa ag w w':=by
 have KS:Hid (∀W,aa ag w W→Calls Tryz.prog 122 #[.agg #[I J m.st.clock,U fo.1 m.st.fols.length fo.2,U fe.1 m.st.fees.length fe.2,U it.1 m.st.itms.length it.2,U se.1 m.st.seas.length se.2,I J m.st.tFol,I J m.st.tFee,I J m.st.tItm,I J m.st.tSea],.agg #[I J 0,U none 0 0,U none 0 0,U none 0 0,U none 0 0,I J 0,I J 0,I J 0,I J 0]] W λe w'=>e=.returned (.bool (decide (m.st=iV)))∧aa ag W w'):=λW hW=>by
  have q:=Bb (h.st.nix hW) (aY.zero W λ_=>False) h.small DM;exact q
 have HE:Hid (aN m=(decide (m.snap=0)&&decide (m.st=iV))):=rfl;clear h;generalize decide (m.st=iV)=q at *
 by_cases h0:m.snap=0
 ·have e0:(m.snap==0)=true:=beq_iff_eq.2 h0
  have xa:Hid (aN m=q):=by unfold Hid;rw[HE.out,decide_eq_true h0,Bool.true_and]
  clear h0 HE;go_enter Tryz.func63,Tryz.ntmps63;go_wp2_with (first|(go_at_call 122;refine(KS.out _ ((fR w).alloc _)).mono ?_;rintro e w1 ⟨rfl,hf⟩;have Z1:Hid (aa ag w w1):=((fR w).alloc _).trans hf;clear hf)|fail);go_ret;exact⟨af xa.out.symm,Z1.out⟩
 ·have e0:(m.snap==0)=false:=beq_eq_false_iff_ne.2 h0
  have xa:Hid (aN m=false):=by unfold Hid;rw[HE.out,decide_eq_false h0];rfl
  clear h0 HE;go_enter Tryz.func63,Tryz.ntmps63;go_wp2;go_ret;exact⟨af xa.out.symm,(fR w).alloc _⟩
theorem aF.first{w:World}{s n:Nat}{xs:List Value}(h:aF w G s v n xs)(hk:k≤n):aF w G s v k (xs.take (k * s)):=by
 have h1:=h.rd.1;refine⟨⟨?_,λh0=>?_⟩,h.nil,Nat.le_trans hk h.cap,h.max⟩
 ·rw[List.length_take,h1]
  exact Nat.min_eq_left (Nat.mul_le_mul_right _ hk)
 ·obtain⟨a,e,h2,h3,h4⟩:=h.rd.2 (by omega)
  refine⟨a,e,h2,h3,λj u hu=>h4 j u ?_⟩;rw[List.getElem?_take] at hu;split at hu
  ·exact hu
  ·cases hu
theorem EvsAll.first{w:World}{l:List Ev}(h:aF w G 7 v l.length (l.flatMap Ev.cells))(hk:k≤l.length):aF w G 7 v (l.take k).length ((l.take k).flatMap Ev.cells):=by
 have q:=h.first hk
 rw[gy Ev.clen] at q;rw[List.length_take,Nat.min_eq_left hk];exact q
structure dZ(w:World)(g:Nat)(G:Nat→Prop)(Aa:Option Addr)(ca:Nat)(Aw:Option Addr)(cw:Nat)(a:Au):Prop where
 blk:aj w g 71 #[U Aa a.all.length ca,I J a.last,U Aw a.ws.length cw]
 all:aF w G 7 (Aa,ca) a.all.length (a.all.flatMap Ev.cells)
 ws:aF w G 3 (Aw,cw) a.ws.length (a.ws.flatMap Wd.cells)
 off:∀k,G k→¬k=g
 num:∀e∈a.all,bn e.a∧bn e.b
theorem dZ.nix{w w1:World}{a:Au}(h:dZ w g G Aa ca Aw cw a)(hf:aa ag w w1):dZ w1 g G Aa ca Aw cw a:=⟨h.blk.frm hf id,h.all.nix hf,h.ws.nix hf,h.off,h.num⟩
theorem DN{w:World}{a:Au}(h:dZ w g G Aa ca Aw cw a)(hl:a.last≤a.all.length)(hn:a.all.length≤100000):
  Calls Tryz.prog 115 #[O (some ⟨g,0,none⟩)] w λe w'=>∃gs M,e=.returned (O (some ⟨gs,0,none⟩))∧aH w' gs M (bG iV (a.all.take a.last))∧aa ag w w'∧∀k,SF gs M k→w.heap.size≤k:=by
 have KF:Hid (∀W,aa ag w W→Calls Tryz.prog 19 #[U Aa a.last ca] W λe w'=>∃gs M,e=.returned (O (some ⟨gs,0,none⟩))∧aH w' gs M (bG iV (a.all.take a.last))∧aa ag W w'∧∀k,SF gs M k→W.heap.size≤k):=λW hW=>by
  have q:=wL (a.all.take a.last) (EvsAll.first (h.all.nix hW) hl) (λe he=>h.num e (List.mem_of_mem_take he)) (by rw[List.length_take];omega);rw[List.length_take,Nat.min_eq_left hl] at q;exact q
 have HC:Hid (∀W,aa ag w W→W.cell? ⟨g,0,none⟩=some (U Aa a.all.length ca)∧W.cell? ⟨g,1,none⟩=some (I J a.last)):=λW hW=>⟨(h.blk.frm hW id).cell 0,(h.blk.frm hW id).cell 1⟩
 have cm:a.all.length≤ca:=h.all.cap;have hmx:ca≤maxLen:=h.all.max;have hnil:Aa=none→ca=0:=h.all.nil;clear h;generalize bG iV (a.all.take a.last)=y at *;generalize a.all.length=n at *;generalize a.last=k at *;have wJ:(0:Int)≤(k:Int):=by omega
 have I5:(k:Int)≤(ca:Int):=by omega
 have Il:(k:Int)≤(n:Int):=by omega
 have hi4:(n:Int)≤(ca:Int):=by omega
 go_enter Tryz.func115,Tryz.ntmps115;go_wp2
 go_region_held3 (λW=>W.cell? ⟨g,0,none⟩=some (U Aa n ca)∧W.cell? ⟨g,1,none⟩=some (I J k)) ((refine HC.out _ ?_;repeat' (first|with_reducible exact aa.refl _ _|with_reducible exact Y1.out|with_reducible apply aa.drew)))
  (first
   | (go_at_call 19;refine(KF.out _ (fR _).drew).mono ?_;rintro e w1 ⟨gs,M,rfl,hs,hf,hg⟩;have HS:=h_ hs;have Y1:Hid (aa ag w w1):=(fR _).drew.trans hf;have HG:=h_ hg;clear hs hf hg))
 all_goals
  go_wp2;go_ret;exact⟨gs,M,rfl,HS.out,Y1.out,HG.out⟩
theorem DR{w:World}{a:Au}(h:dZ w g G Aa ca Aw cw a)(hne:a.ws≠[]):
  Calls Tryz.prog 116 #[O (some ⟨g,0,none⟩)] w λe w'=>e=.returned (.bool (mN a))∧aa ag w w':=by
 obtain⟨al,la,ws⟩:=a
 cases ws with
 | nil=>exact absurd rfl hne
 | cons x r=>
 obtain⟨b,off,hA,-,hbl,hcell⟩:=h.ws.at_ Wd.clen (by decide) (by simp);dsimp only at hA;subst hA;have x0:=hcell 0 (by simp) 0 _ rfl;have q2:=h.blk.cell 2;have HE:Hid (mN ⟨al,la,x::r⟩=decide (x.mode=1)):=rfl;simp at x0 q2;clear h hne hcell;have hl:(0:Int)<((r.length:Int)+1):=by omega
 go_enter Tryz.func116,Tryz.ntmps116;go_wp2;go_ret;exact⟨af (by rw[HE.out];rfl),aa.refl _ _⟩
structure Tl where
 s:St
 all:List Ev
 mv:List Mv
 sure:Int
structure Uy(y:Int)(t:Tl):Prop where
 sy:t.sure=0∨t.sure=y
 fold:t.s=bG iV t.all
 ok:gN t.s
 run:OZ pK t.mv=some ⟨t.all,t.all.length,[⟨1,t.sure,0⟩]⟩
 lo:0≤t.sure
 hi:t.sure≤t.all.length
 len:t.mv.length≤t.all.length+if t.sure=0 then 0 else 1
structure WD where
 mode:Int
 all:List Ev
 last:Nat
 sure:Int
 snap:Int
instance:DecidableEq WD:=λx y=>decidable_of_iff (x.mode=y.mode∧x.all=y.all∧x.last=y.last∧x.sure=y.sure∧x.snap=y.snap) ⟨λ⟨h1,h2,h3,h4,h5⟩=>by cases x;cases y;simp_all,λh=>by subst h;simp⟩
def SJ:WD:=⟨1,[],0,0,0⟩
def pZ(w:WD):St:=bG iV (w.all.take w.last)
def gw(w:WD)(b:Bool):List WD:=if b=true then [w] else []
def iB(w:WD)(m:Mv):List WD:=
 if aN m=false∨(m.err≠0∧m.last≠0) then []
 else if w.mode=3 then gw w (decide (m.err=6))
 else if aM m.ev=false then gw w (decide (m.err=140))
 else if aG (pZ w) m.ev=false then gw w (decide (m.err=330))
 else if w.mode=1 then
  if m.err=30 then [⟨3,w.all.take w.last++[m.ev],w.last,w.sure,w.snap⟩]
  else gw ⟨1,w.all.take w.last++[m.ev],w.last+1,w.sure,w.snap⟩ (decide (m.err=0)&&decide (m.last=w.last+1))
 else gw ⟨3,w.all,w.last,w.sure,w.snap⟩ (decide (m.err=30))
def jM(w:WD)(m:Mv):List WD:=
 if m.err=6∧w.mode=3 then [w]
 else if m.err=30∧w.mode≠3 then [⟨3,w.all,w.last,w.sure,w.snap⟩]
 else if m.err=0∧w.mode=1 then [⟨w.mode,w.all,w.last,w.last,w.snap⟩]
 else []
def gJ(w:WD)(m:Mv):List WD:=
 if w.mode=3 then gw w (decide (m.err=6))
 else if (w.last:Int)=w.snap then gw w (decide (m.err=1))
 else if m.err=0∧w.mode=1 then [⟨w.mode,w.all,w.last,w.last,w.last⟩]
 else if m.err=30∧w.mode=2 then [w]
 else if m.err=30 then [⟨2,w.all,w.last,w.sure,w.snap⟩,⟨3,w.all,w.last,w.sure,w.snap⟩,⟨2,w.all,w.last,w.last,w.last⟩,⟨3,w.all,w.last,w.last,w.last⟩]
 else []
def gm(w:WD)(m:Mv):List WD:=
 if m.err=30∧m.last=0∧aN m=true then [⟨3,w.all,w.last,w.sure,w.snap⟩]
 else if m.err≠0∨m.last<w.sure∨(w.all.length:Int)<m.last∨m.snap≠w.snap∨m.st≠bG iV (w.all.take m.last.toNat) then []
 else [⟨1,w.all.take m.last.toNat,m.last.toNat,m.last,w.snap⟩]
def bz(m:Mv)(w:WD):List WD:=
 if m.kind=1 then iB w m
 else if m.kind=2 then if m.ev=mh∧aN m=true∧m.last=0 then jM w m else []
 else if m.kind=3 then if m.ev=mh∧aN m=true∧m.last=0 then gJ w m else []
 else if m.kind=4 then if m.ev=mh then gm w m else []
 else []
def ny(l:List WD)(x:WD):List WD:=if x∈l then l else l++[x]
def xw(m:Mv)(ws:List WD):List WD:=(ws.flatMap (bz m)).foldl ny []
def mD(all:List Ev)(last:Nat)(w:Wd):WD:=⟨w.mode,all,last,w.sure,w.snap⟩
theorem Ez{all:List Ev}{last:Nat}{w:Wd}{l:List Wd}:mD all last w∈l.map (mD all last)↔w∈l:=by
 constructor
 ·intro h
  obtain⟨y,hy,e⟩:=List.mem_map.1 h
  have:y=w:=by
   cases y;cases w
   simp only[mD,WD.mk.injEq] at e;obtain⟨e1,-,-,e2,e3⟩:=e;subst e1 e2 e3;rfl
  rw[←this];exact hy
 ·exact λh=>List.mem_map_of_mem h
theorem yq(all:List Ev)(last:Nat):∀(m l:List Wd),(m.map (mD all last)).foldl ny (l.map (mD all last))=(m.foldl kO l).map (mD all last)
 | [],l=>rfl
 | x::m,l=>by
   rw[List.map_cons,List.foldl_cons,List.foldl_cons]
   have:ny (l.map (mD all last)) (mD all last x)=(kO l x).map (mD all last):=by
    unfold ny kO
    by_cases h:x∈l
    ·rw[if_pos h,if_pos (Ez.2 h)]
    ·rw[if_neg h,if_neg (λh2=>h (Ez.1 h2)),List.map_append]
     rfl
   rw[this];exact yq all last m (kO l x)
theorem wW{a b:List Ev}(h:∀w∈ws,bz m (mD a n w)=(f w).map (mD b k)):xw m (ws.map (mD a n))=(kq f ws).map (mD b k):=by
 have h1:(ws.map (mD a n)).flatMap (bz m)=(ws.flatMap f).map (mD b k):=by
  induction ws with
  | nil=>rfl
  | cons w ws ih=>
    rw[List.map_cons,List.flatMap_cons,List.flatMap_cons,List.map_append,h w (by simp),ih λy hy=>h y (by simp[hy])]
 unfold xw kq;rw[h1];exact yq b k _ []
theorem rK{a:List Ev}(h:∀w∈ws,bz m (mD a n w)=[]):xw m (ws.map (mD a n))=[]:=by
 have h1:(ws.map (mD a n)).flatMap (bz m)=[]:=by
  induction ws with
  | nil=>rfl
  | cons w ws ih=>rw[List.map_cons,List.flatMap_cons,h w (by simp),ih λy hy=>h y (by simp[hy])];rfl
 unfold xw;rw[h1];rfl
theorem mO(a:List Ev)(n:Nat)(w:Wd)(b:Bool):gw (mD a n w) b=(cd w b).map (mD a n):=by
 unfold gw cd
 cases b<;>rfl
def yr(r:Option Au):List WD:=match r with|none=>[]|some b=>b.ws.map (mD b.all b.last)
theorem un(a:Au)(ws:List Wd):yr (lD a ws)=ws.map (mD a.all a.last):=by
 unfold lD
 by_cases h:ws=[]
 ·rw[if_pos h,h];rfl
 ·rw[if_neg h];rfl
theorem MX{a:Au}(h:lz a)(hk:m.kind=1):xw m (a.ws.map (mD a.all a.last))=yr (l8 a m):=by
 have ht:¬((true:Bool)=false):=by simp
 have GR:(false:Bool)=false:=rfl;have I0:¬((false:Bool)=true):=by simp
 have h30:¬((30:Int)≠30):=by simp
 have h140:(140:Int)≠30:=by decide
 have h330:(330:Int)≠30:=by decide
 by_cases c:aN m=false∨(m.err≠0∧m.last≠0)
 ·have e1:l8 a m=none:=by unfold l8;rw[if_pos c]
  rw[e1];refine rK λw hw=>?_
  unfold bz;rw[if_pos hk];unfold iB;rw[if_pos c]
 ·obtain⟨want,hwant⟩:∃want,pA a m=want:=⟨_,rfl⟩
  obtain⟨done,hdone⟩:∃done,(mN a&&decide (want=30)&&decide (m.err=0)&&decide (m.last=a.last+1))=done:=⟨_,rfl⟩;obtain⟨all,hall⟩:∃all,(if mN a=true∧want=30 then a.all.take a.last++[m.ev] else a.all)=all:=⟨_,rfl⟩;obtain⟨last,hlast⟩:∃last,(if done=true then a.last+1 else a.last)=last:=⟨_,rfl⟩
  have e1:l8 a m=if kq (nx want done m.err) a.ws=[] then none else some ⟨all,last,kq (nx want done m.err) a.ws⟩:=by
   unfold l8;rw[if_neg c];dsimp only;rw[hwant,hdone,hall,hlast]
  have key:∀w∈a.ws,bz m (mD a.all a.last w)=(nx want done m.err w).map (mD all last):=by
   intro w hw;unfold bz;rw[if_pos hk];unfold iB;rw[if_neg c];have hst:pZ (mD a.all a.last w)=bG iV (a.all.take a.last):=rfl;have hmd:(mD a.all a.last w).mode=w.mode:=rfl;have Cg:(mD a.all a.last w).last=a.last:=rfl;have GL:(mD a.all a.last w).all=a.all:=rfl;have hsu:(mD a.all a.last w).sure=w.sure:=rfl;have Bh:(mD a.all a.last w).snap=w.snap:=rfl;rw[hst,hmd,Cg,GL,hsu,Bh];unfold pA at hwant;rcases h.shape with ⟨w0,e,hm1⟩|⟨hne,hm,-⟩
   ·have hl:mN a=true:=by unfold mN;rw[e];simp[hm1]
    rw[e] at hw;obtain rfl:=List.mem_singleton.1 hw;rw[hl] at hdone hall;have hm3:¬w.mode=3:=by omega
    rw[if_neg hm3];unfold nx;rw[if_neg hm3]
    cases he:aM m.ev with
    | false=>
      rw[he,if_pos GR] at hwant;subst hwant;simp at hdone;subst hdone;simp at hall hlast;subst hall hlast;rw[if_pos GR,if_pos h140]
      exact mO _ _ _ _
    | true=>
      rw[he,if_neg ht] at hwant;rw[if_neg ht]
      cases hf:aG (bG iV (a.all.take a.last)) m.ev with
      | false=>
        rw[hf,if_pos GR] at hwant;subst hwant;simp at hdone;subst hdone;simp at hall hlast;subst hall hlast;rw[if_pos GR,if_pos h330]
        exact mO _ _ _ _
      | true=>
        rw[hf,if_neg ht] at hwant;subst hwant;rw[if_neg ht,if_pos hm1,if_neg h30];simp only[and_self,if_true] at hall;subst hall
        by_cases he3:m.err=30
        ·have:done=false:=by rw[←hdone,he3];simp
         subst this;simp at hlast;subst hlast;rw[if_pos he3,he3];simp[cd,mD]
        ·rw[if_neg he3]
         by_cases hd:m.err=0∧m.last=(a.last:Int)+1
         ·have:done=true:=by rw[←hdone,hd.1,hd.2];simp
          subst this;simp at hlast;subst hlast;rw[hd.1,hd.2];simp[gw,mD,hm1]
         ·have:done=false:=by
           rw[←hdone]
           by_cases h0:m.err=0
           ·have:¬m.last=(a.last:Int)+1:=λe=>hd ⟨h0,e⟩
            simp[this]
           ·simp[h0]
          subst this
          have h2:(decide (m.err=0)&&decide (m.last=(a.last:Int)+1))=false:=by
           by_cases h0:m.err=0
           ·have:¬m.last=(a.last:Int)+1:=λe=>hd ⟨h0,e⟩
            simp[this]
           ·simp[h0]
          rw[h2];simp[gw,cd,he3]
   ·have hl:mN a=false:=by
     unfold mN
     cases hws:a.ws with
     | nil=>rfl
     | cons w1 r=>
       have:=hm w1 (by rw[hws];simp);simp only;exact decide_eq_false (by omega)
    have Jt:=hm w hw;rw[hl] at hdone hall;simp at hdone hall;subst hdone hall;simp at hlast;subst hlast;unfold nx
    by_cases h3:w.mode=3
    ·rw[if_pos h3,if_pos h3]
     exact mO _ _ _ _
    ·rw[if_neg h3,if_neg h3]
     cases he:aM m.ev with
     | false=>
       rw[he,if_pos GR] at hwant;subst hwant;rw[if_pos GR,if_pos h140]
       exact mO _ _ _ _
     | true=>
       rw[he,if_neg ht] at hwant;rw[if_neg ht]
       cases hf:aG (bG iV (a.all.take a.last)) m.ev with
       | false=>
         rw[hf,if_pos GR] at hwant;subst hwant;rw[if_pos GR,if_pos h330]
         exact mO _ _ _ _
       | true=>
         rw[hf,if_neg ht] at hwant;subst hwant;have hm1:¬w.mode=1:=by omega
         rw[if_neg ht,if_neg hm1,if_neg h30,if_neg I0];exact mO a.all a.last {w with mode:=3} _
  rw[e1,wW key]
  by_cases hg:kq (nx want done m.err) a.ws=[]
  ·rw[if_pos hg,hg];rfl
  ·rw[if_neg hg];rfl
theorem Kq{a:Au}(h:lz a)(hk:∀w,bz m w=jM w m):xw m (a.ws.map (mD a.all a.last))=yr (lD a (kq (lC a.last m.err) a.ws)):=by
 rw[un];refine wW λw hw=>?_
 rw[hk]
 have hm:w.mode=1∨w.mode=2∨w.mode=3:=by
  rcases h.shape with ⟨w0,e,hm1⟩|⟨hne,hm,-⟩
  ·rw[e] at hw
   obtain rfl:=List.mem_singleton.1 hw;exact .inl hm1
  ·exact .inr (hm w hw)
 unfold jM lC;have hmd:(mD a.all a.last w).mode=w.mode:=rfl;rw[hmd]
 by_cases h3:w.mode=3
 ·have p2:¬(m.err=30∧w.mode≠3):=λe=>e.2 h3
  have p3:¬(m.err=0∧w.mode=1):=λe=>by omega
  rw[if_pos h3,if_neg p2,if_neg p3]
  by_cases h6:m.err=6
  ·have p1:m.err=6∧w.mode=3:=⟨h6,h3⟩
   rw[if_pos p1,h6];rfl
  ·have p1:¬(m.err=6∧w.mode=3):=λe=>h6 e.1
   rw[if_neg p1];simp[cd,h6]
 ·have p1:¬(m.err=6∧w.mode=3):=λe=>h3 e.2
  rw[if_neg h3,if_neg p1]
  by_cases h0:m.err=0
  ·have p2:¬(m.err=30∧w.mode≠3):=λe=>by omega
   rw[if_pos h0,if_neg p2]
   by_cases h1:w.mode=1
   ·have p3:m.err=0∧w.mode=1:=⟨h0,h1⟩
    rw[if_pos p3];simp[cd,h1,mD]
   ·have p3:¬(m.err=0∧w.mode=1):=λe=>h1 e.2
    rw[if_neg p3];simp[cd,h1]
  ·have p3:¬(m.err=0∧w.mode=1):=λe=>h0 e.1
   rw[if_neg h0,if_neg p3]
   by_cases h30:m.err=30
   ·have p2:m.err=30∧w.mode≠3:=⟨h30,h3⟩
    rw[if_pos p2,h30];rfl
   ·have p2:¬(m.err=30∧w.mode≠3):=λe=>h30 e.1
    rw[if_neg p2];simp[cd,h30]
theorem Kr{a:Au}(h:lz a)(hk:∀w,bz m w=gJ w m):xw m (a.ws.map (mD a.all a.last))=yr (lD a (kq (gl a.last m.err) a.ws)):=by
 rw[un];refine wW λw hw=>?_
 rw[hk];unfold gJ gl;have hmd:(mD a.all a.last w).mode=w.mode:=rfl;have Cg:(mD a.all a.last w).last=a.last:=rfl;have Bh:(mD a.all a.last w).snap=w.snap:=rfl;rw[hmd,Cg,Bh]
 by_cases h3:w.mode=3
 ·rw[if_pos h3,if_pos h3]
  exact mO _ _ _ _
 ·rw[if_neg h3,if_neg h3]
  by_cases hs:(a.last:Int)=w.snap
  ·have hs2:w.snap=(a.last:Int):=hs.symm
   rw[if_pos hs,if_pos hs2];exact mO _ _ _ _
  ·have hs2:¬w.snap=(a.last:Int):=λe=>hs e.symm
   rw[if_neg hs,if_neg hs2]
   by_cases h0:m.err=0
   ·have n1:¬(m.err=30∧w.mode=2):=λe=>by omega
    have n2:¬m.err=30:=by omega
    rw[if_pos h0,if_neg n1,if_neg n2]
    by_cases h1:w.mode=1
    ·have p1:m.err=0∧w.mode=1:=⟨h0,h1⟩
     rw[if_pos p1];simp[cd,h1,mD]
    ·have p1:¬(m.err=0∧w.mode=1):=λe=>h1 e.2
     rw[if_neg p1];simp[cd,h1]
   ·have p1:¬(m.err=0∧w.mode=1):=λe=>h0 e.1
    rw[if_neg p1,if_neg h0]
    by_cases h30:m.err=30
    ·have p2:¬m.err≠30:=λe=>e h30
     rw[if_neg p2,if_pos h30]
     by_cases h2:w.mode=2
     ·have p3:m.err=30∧w.mode=2:=⟨h30,h2⟩
      rw[if_pos p3,if_pos h2];rfl
     ·have p3:¬(m.err=30∧w.mode=2):=λe=>h2 e.2
      rw[if_neg p3,if_neg h2];rfl
    ·have p2:m.err≠30:=h30
     have p3:¬(m.err=30∧w.mode=2):=λe=>h30 e.1
     rw[if_neg p3,if_neg h30,if_pos p2];rfl
theorem Ks{a:Au}(h:lz a)(hs:∀w∈a.ws,0≤w.sure)(hk:∀w,bz m w=gm w m):xw m (a.ws.map (mD a.all a.last))=yr (rj a m):=by
 unfold rj
 by_cases c1:m.err=30∧m.last=0∧aN m=true
 ·rw[if_pos c1,un]
  refine wW λw hw=>?_
  rw[hk];unfold gm;rw[if_pos c1];rfl
 ·rw[if_neg c1]
  have hop:∀w,bz m w=if m.err≠0∨m.last<w.sure∨(w.all.length:Int)<m.last∨m.snap≠w.snap∨m.st≠bG iV (w.all.take m.last.toNat) then [] else [⟨1,w.all.take m.last.toNat,m.last.toNat,m.last,w.snap⟩]:=λw=>by
   rw[hk];unfold gm;rw[if_neg c1]
  by_cases c2:m.err≠0∨m.last<0∨(a.all.length:Int)<m.last
  ·rw[if_pos c2]
   refine rK λw hw=>?_
   rw[hop];refine if_pos ?_;rcases c2 with c2|c2|c2
   ·exact .inl c2
   ·exact .inr (.inl (by have:=hs w hw;show m.last<w.sure;omega))
   ·exact .inr (.inr (.inl c2))
  ·rw[if_neg c2]
   by_cases c3:m.st≠bG iV (a.all.take m.last.toNat)
   ·rw[if_pos c3]
    refine rK λw hw=>?_
    rw[hop];exact if_pos (.inr (.inr (.inr (.inr c3))))
   ·rw[if_neg c3]
    have key:xw m (a.ws.map (mD a.all a.last))=(kq (l9 m.last m.snap) a.ws).map (mD (a.all.take m.last.toNat) m.last.toNat):=by
     refine wW λw hw=>?_
     rw[hop];unfold l9 cd;have Bh:(mD a.all a.last w).snap=w.snap:=rfl;have hsu:(mD a.all a.last w).sure=w.sure:=rfl;have GL:(mD a.all a.last w).all=a.all:=rfl;rw[Bh,hsu,GL]
     by_cases h1:w.sure≤m.last∧m.snap=w.snap
     ·rw[if_neg (λh=>by
       rcases h with h|h|h|h|h
       ·exact c2 (.inl h)
       ·omega
       ·exact c2 (.inr (.inr h))
       ·exact h h1.2
       ·exact c3 h),if_pos (by simp[h1.1,h1.2])]
      rfl
     ·rw[if_pos (by
       by_cases h2:w.sure≤m.last
       ·exact .inr (.inr (.inr (.inl λe=>h1 ⟨h2,e⟩)))
       ·exact .inr (.inl (by omega))),if_neg (by
        intro e;simp only[Bool.and_eq_true,decide_eq_true_eq] at e;exact h1 e)]
      rfl
    rw[key]
    by_cases hg:kq (l9 m.last m.snap) a.ws=[]
    ·rw[if_pos hg,hg];rfl
    ·rw[if_neg hg];rfl
theorem ID{a:Au}(h:lz a)(hs:∀w∈a.ws,0≤w.sure):xw m (a.ws.map (mD a.all a.last))=yr (ng a m):=by
 unfold ng
 by_cases k1:m.kind=1
 ·rw[if_pos k1]
  exact MX h k1
 ·rw[if_neg k1]
  by_cases c1:m.ev≠mh
  ·rw[if_pos c1]
   refine rK λw hw=>?_
   unfold bz;rw[if_neg k1];have c2:¬m.ev=mh:=c1;simp[c2]
  ·rw[if_neg c1]
   have c2:m.ev=mh:=Decidable.not_not.1 c1
   by_cases k4:m.kind=4
   ·rw[if_pos k4]
    exact Ks h hs λw=>by unfold bz;rw[if_neg k1,if_neg (by omega),if_neg (by omega),if_pos k4,if_pos c2]
   ·rw[if_neg k4]
    by_cases c3:aN m=false∨m.last≠0
    ·rw[if_pos c3]
     refine rK λw hw=>?_
     have c4:¬(m.ev=mh∧aN m=true∧m.last=0):=λe=>by
      rcases c3 with c3|c3
      ·rw[c3] at e;exact absurd e.2.1 (by simp)
      ·exact c3 e.2.2
     unfold bz;rw[if_neg k1]
     by_cases k2:m.kind=2
     ·rw[if_pos k2,if_neg c4]
     ·rw[if_neg k2]
      by_cases k3:m.kind=3
      ·rw[if_pos k3,if_neg c4]
      ·rw[if_neg k3,if_neg k4]
    ·rw[if_neg c3]
     have c4:m.ev=mh∧aN m=true∧m.last=0:=⟨c2,by
      cases hp:aN m
      ·exact absurd (.inl hp) c3
      ·rfl,Decidable.not_not.1 λe=>c3 (.inr e)⟩
     by_cases k2:m.kind=2
     ·rw[if_pos k2]
      exact Kq h λw=>by unfold bz;rw[if_neg k1,if_pos k2,if_pos c4]
     ·rw[if_neg k2]
      by_cases k3:m.kind=3
      ·rw[if_pos k3]
       exact Kr h λw=>by unfold bz;rw[if_neg k1,if_neg k2,if_pos k3,if_pos c4]
      ·rw[if_neg k3]
       refine rK λw hw=>?_
       unfold bz;rw[if_neg k1,if_neg k2,if_neg k3,if_neg k4]
theorem yt{w y:WD}{b:Bool}(h:y∈gw w b):y=w:=by
 unfold gw at h;split at h
 ·simpa using h
 ·cases h
theorem DT{w y:WD}(hw:0≤w.sure)(hy:y∈bz m w):0≤y.sure:=by
 unfold bz at hy;split at hy
 ·unfold iB at hy
  repeat' split at hy
  all_goals first
   | (cases hy;done)
   | (rw[yt hy];exact hw)
   | (rw[List.mem_singleton.1 hy];exact hw)
 split at hy
 ·split at hy
  ·unfold jM at hy
   repeat' split at hy
   all_goals first
    | (cases hy;done)
    | (rw[List.mem_singleton.1 hy];exact hw)
    | (rw[List.mem_singleton.1 hy];exact Int.natCast_nonneg _)
  ·cases hy
 split at hy
 ·split at hy
  ·unfold gJ at hy
   repeat' split at hy
   all_goals first
    | (cases hy;done)
    | (rw[yt hy];exact hw)
    | (rw[List.mem_singleton.1 hy];exact hw)
    | (rw[List.mem_singleton.1 hy];exact Int.natCast_nonneg _)
    | (simp only[List.mem_cons,List.not_mem_nil,or_false] at hy
       rcases hy with rfl|rfl|rfl|rfl<;>first|exact hw|exact Int.natCast_nonneg _)
  ·cases hy
 split at hy
 ·split at hy
  ·unfold gm at hy
   split at hy
   ·rw[List.mem_singleton.1 hy];exact hw
   split at hy
   ·cases hy
   ·rename_i h1
    rw[List.mem_singleton.1 hy];have h2:¬m.last<w.sure:=λe=>h1 (.inr (.inl e))
    show 0≤m.last
    omega
  ·cases hy
 ·cases hy
theorem IE{l:List WD}{x y:WD}(h:y∈ny l x):y∈l∨y=x:=by
 unfold ny at h;split at h
 ·exact .inl h
 ·simpa using h
theorem yu:∀(m l:List WD) (y:WD),y∈m.foldl ny l→y∈l∨y∈m
 | [],l,y,h=>.inl h
 | x::m,l,y,h=>by
   rw[List.foldl_cons] at h;rcases yu m _ y h with h|h
   ·rcases IE h with h|rfl
    ·exact .inl h
    ·exact .inr (by simp)
   ·exact .inr (by simp[h])
end Go.Proofs.YtaecjmiobllhmaaGreat
