/-
  Plain: what is seen of a store: moves, worlds, how far moves can be, as the program finds it. No program in sight.
-/
import Derived.Test.YtdihmpakglakdaaGreatGa10
import Derived.Test.YtdihmpakglakdaaGreatGa16
import Derived.Test.YtdihmpakglakdaaGreatGa32
import Derived.Deep.RegionHeld3
import Derived.Test.YtdihmpakglakdaaGreatGa25
set_option linter.unusedVariables false
set_option linter.unusedSimpArgs false
set_option maxRecDepth 100000
set_option maxHeartbeats 16000000
namespace Go.Proofs.YtdihmpakglakdaaGreat
open Go.RowKit Go.Lib
structure Mv where
 kind:Int
 ev:Ev
 err:Int
 last:Int
 snap:Int
 st:St
structure Wd where
 mode:Int
 sure:Int
 snap:Int
instance:DecidableEq Wd:=fun x y=>decidable_of_iff (x.mode=y.mode∧x.sure=y.sure∧x.snap=y.snap) ⟨fun ⟨h1,h2,h3⟩=>by cases x;cases y;simp_all,fun h=>by subst h;simp⟩
structure Au where
 all:List Ev
 last:Nat
 ws:List Wd
def ev0:Ev:=⟨0,0,0,0,eS,eS,eS⟩
def au0:Au:=⟨[],0,[⟨1,0,0⟩]⟩
def addW(l:List Wd)(x:Wd):List Wd:=if x ∈ l then l else l++[x]
def goW(f:Wd→List Wd)(ws:List Wd):List Wd:=(ws.flatMap f).foldl addW []
def onlyW(w:Wd)(b:Bool):List Wd:=if b=true then [w] else []
def plainM(m:Mv):Bool:=decide (m.snap=0)&&decide (m.st=st0)
def liveA(a:Au):Bool:=match a.ws with | []=>false | w::_=>decide (w.mode=1)
def wantA(a:Au)(m:Mv):Int:=if evOk m.ev=false then 140 else if fits (foldE st0 (a.all.take a.last)) m.ev=false then 330 else 30
def putW(want:Int)(done:Bool)(err:Int)(w:Wd):List Wd:=
 if w.mode=3 then onlyW w (decide (err=6))
 else if want≠30 then onlyW w (decide (err=want))
 else if done=true then [w]
 else onlyW {w with mode:=3} (decide (err=30))
def putA(a:Au)(m:Mv):Option Au:=
 if plainM m=false∨(m.err≠0∧m.last≠0) then none
 else
  let want:=wantA a m
  let done:=liveA a&&decide (want=30)&&decide (m.err=0)&&decide (m.last=a.last+1)
  let ws:=goW (putW want done m.err) a.ws
  if ws=[] then none else some ⟨if liveA a=true∧want=30 then a.all.take a.last++[m.ev] else a.all,if done=true then a.last+1 else a.last,ws⟩
def syncW(last err:Int)(w:Wd):List Wd:=
 if w.mode=3 then onlyW w (decide (err=6))
 else if err=0 then onlyW {w with sure:=last} (decide (w.mode=1))
 else onlyW {w with mode:=3} (decide (err=30))
def compW(last err:Int)(w:Wd):List Wd:=
 if w.mode=3 then onlyW w (decide (err=6))
 else if w.snap=last then onlyW w (decide (err=1))
 else if err=0 then onlyW ⟨w.mode,last,last⟩ (decide (w.mode=1))
 else if err≠30 then []
 else if w.mode=2 then [w]
 else [⟨2,w.sure,w.snap⟩,⟨3,w.sure,w.snap⟩,⟨2,last,last⟩,⟨3,last,last⟩]
def openW(last snap:Int)(w:Wd):List Wd:=onlyW ⟨1,last,w.snap⟩ (decide (w.sure≤last)&&decide (snap=w.snap))
def withW(a:Au)(ws:List Wd):Option Au:=if ws=[] then none else some {a with ws:=ws}
def openA(a:Au)(m:Mv):Option Au:=
 if m.err=30∧m.last=0∧plainM m=true then withW a (goW (fun w=>[⟨3,w.sure,w.snap⟩]) a.ws)
 else if m.err≠0∨m.last<0∨(a.all.length:Int)<m.last then none
 else if m.st≠foldE st0 (a.all.take m.last.toNat) then none
 else if goW (openW m.last m.snap) a.ws=[] then none
 else some ⟨a.all.take m.last.toNat,m.last.toNat,goW (openW m.last m.snap) a.ws⟩
def stepA(a:Au)(m:Mv):Option Au:=
 if m.kind=1 then putA a m
 else if m.ev≠ev0 then none
 else if m.kind=4 then openA a m
 else if plainM m=false∨m.last≠0 then none
 else if m.kind=2 then withW a (goW (syncW a.last m.err) a.ws)
 else if m.kind=3 then withW a (goW (compW a.last m.err) a.ws)
 else none
def chkA:Au→List Mv→Nat
 | _,[]=>0
 | a,m::l=>match stepA a m with
   | none=>0
   | some b=>chkA b l+1
def runA:Au→List Mv→Option Au
 | a,[]=>some a
 | a,m::l=>match stepA a m with
   | none=>none
   | some b=>runA b l
theorem chkA_le:∀ (l:List Mv) (a:Au),chkA a l≤l.length
 | [],_=>Nat.le_refl _
 | m::l,a=>by
   unfold chkA;split
   ·exact Nat.zero_le _
   ·have:=chkA_le l (by assumption)
    simp only[List.length_cons];omega
theorem chkA_run:∀ (l:List Mv) (a:Au),chkA a l=l.length↔(runA a l).isSome=true
 | [],_=>by simp[chkA,runA]
 | m::l,a=>by
   unfold chkA runA;split
   ·simp
   ·rename_i b hb
    rw[← chkA_run l b];simp
theorem chkA_take:∀ (l:List Mv) (a:Au) (n:Nat),n≤l.length→chkA a (l.take n)=min n (chkA a l)
 | [],_,n,h=>by
   obtain rfl:n=0:=by simpa using h
   rfl
 | m::l,a,0,_=>by simp[chkA]
 | m::l,a,n+1,h=>by
   rw[List.take_succ_cons];unfold chkA
   cases hs:stepA a m with
   | none=>simp
   | some b=>
     simp only;rw[chkA_take l b n (by simpa using h)];omega
theorem addW_len(l:List Wd)(x:Wd):(addW l x).length≤l.length+1:=by
 unfold addW;split
 ·omega
 ·simp
theorem addW_mem{l:List Wd}{x y:Wd}:y ∈ addW l x↔y ∈ l∨y=x:=by
 unfold addW;split
 ·constructor
  ·exact fun h=>.inl h
  ·rintro(h | rfl)
   ·exact h
   ·assumption
 ·simp
theorem addF_len:∀ (m l:List Wd),(m.foldl addW l).length≤l.length+m.length
 | [],l=>Nat.le_refl _
 | x::m,l=>by
   have h1:=addF_len m (addW l x);have h2:=addW_len l x;simp only[List.foldl_cons,List.length_cons];omega
theorem addF_mem:∀ (m l:List Wd) (y:Wd),y ∈ m.foldl addW l↔y ∈ l∨y ∈ m
 | [],l,y=>by simp
 | x::m,l,y=>by
   simp only[List.foldl_cons,List.mem_cons];rw[addF_mem m,addW_mem];constructor
   ·rintro((h | h) | h)
    ·exact .inl h
    ·exact .inr (.inl h)
    ·exact .inr (.inr h)
   ·rintro(h | h | h)
    ·exact .inl (.inl h)
    ·exact .inl (.inr h)
    ·exact .inr h
theorem goW_mem{f:Wd→List Wd}{ws:List Wd}{y:Wd}:y ∈ goW f ws↔∃ w ∈ ws,y ∈ f w:=by
 unfold goW;rw[addF_mem];simp
theorem flatW_len{f:Wd→List Wd}{k:Nat}:∀ (ws:List Wd),(∀ w ∈ ws,(f w).length≤k)→(ws.flatMap f).length≤ws.length * k
 | [],_=>by simp
 | w::ws,hf=>by
   have:=hf w (by simp);have h3:=flatW_len ws fun y hy=>hf y (by simp[hy])
   rw[List.flatMap_cons,List.length_append,List.length_cons,Nat.add_mul];omega
theorem goW_len{f:Wd→List Wd}{k:Nat}(ws:List Wd)(hf:∀ w ∈ ws,(f w).length≤k):(goW f ws).length≤ws.length * k:=by
 have h1:=addF_len (ws.flatMap f) [];have h2:=flatW_len ws hf;unfold goW;simp only[List.length_nil] at h1;omega
theorem goW_one{f:Wd→List Wd}{x:Wd}:∀ (ws:List Wd),(∀ w ∈ ws,∀ y ∈ f w,y=x)→goW f ws=[]∨goW f ws=[x]:=by
 intro ws h
 have key:∀ (m:List Wd),(∀ y ∈ m,y=x)→∀ l,(l=[]∨l=[x])→m.foldl addW l=[]∨m.foldl addW l=[x]:=by
  intro m
  induction m with
  | nil=>exact fun _ l hl=>hl
  | cons y m ih=>
    intro hm l hl;obtain rfl:=hm y (by simp);refine ih (fun z hz=>hm z (by simp[hz])) _ ?_;rcases hl with rfl | rfl
    ·exact .inr (by simp[addW])
    ·exact .inr (by simp[addW])
 exact key _ (fun y hy=>by
  obtain⟨w,hw,hy⟩:=List.mem_flatMap.1 hy;exact h w hw y hy) [] (.inl rfl)
theorem onlyW_len(w:Wd)(b:Bool):(onlyW w b).length≤1:=by
 unfold onlyW;split<;>simp
theorem onlyW_mem{w y:Wd}{b:Bool}(h:y ∈ onlyW w b):y=w∧b=true:=by
 unfold onlyW at h;split at h
 ·exact⟨by simpa using h,by assumption⟩
 ·cases h
structure AuOk(a:Au):Prop where
 le:a.last≤a.all.length
 shape:(∃ w,a.ws=[w]∧w.mode=1)∨(a.ws≠[]∧(∀ w ∈ a.ws,w.mode=2∨w.mode=3)∧a.ws.length≤4)
theorem AuOk.ne{a:Au}(h:AuOk a):a.ws≠[]:=by
 rcases h.shape with ⟨w,e,-⟩ | h
 ·rw[e];simp
 ·exact h.1
theorem AuOk.len{a:Au}(h:AuOk a):a.ws.length≤4:=by
 rcases h.shape with ⟨w,e,-⟩ | h
 ·rw[e];simp
 ·exact h.2.2
theorem au0_ok:AuOk au0:=⟨by simp[au0],.inl ⟨_,rfl,rfl⟩⟩
theorem withW_some{a b:Au}{ws:List Wd}(h:withW a ws=some b):ws≠[]∧b={a with ws:=ws}:=by
 unfold withW at h;split at h
 ·cases h
 ·exact⟨by assumption,by injection h with h;exact h.symm⟩
def Shp(ws:List Wd):Prop:=(∃ w,ws=[w]∧w.mode=1)∨(ws≠[]∧(∀ w ∈ ws,w.mode=2∨w.mode=3)∧ws.length≤4)
theorem shp_one{f:Wd→List Wd}{ws:List Wd}(h:Shp ws)(h1:∀ w ∈ ws,(f w).length≤1)(h0:∀ w,w.mode=1→∀ y ∈ f w,y.mode=1∨y.mode=3)(h2:∀ w,w.mode=2∨w.mode=3→∀ y ∈ f w,y.mode=2∨y.mode=3)(hne:goW f ws≠[]):Shp (goW f ws):=by
 have hl:=goW_len ws h1;rcases h with ⟨w,rfl,hw⟩ | ⟨-,hm,h4⟩
 ·have hl1:(goW f [w]).length=1:=by
   have:(goW f [w]).length≠0:=fun e=>hne (List.eq_nil_of_length_eq_zero e)
   simp only[List.length_cons,List.length_nil] at hl;omega
  obtain⟨y,hy⟩:=List.length_eq_one_iff.1 hl1;have hy1:y ∈ goW f [w]:=by rw[hy];simp
  obtain⟨w',hw',hy2⟩:=goW_mem.1 hy1;obtain rfl:=List.mem_singleton.1 hw';rw[hy];rcases h0 w' hw y hy2 with he | he
  ·exact .inl ⟨y,rfl,he⟩
  ·exact .inr ⟨by simp,by simp[he],by simp⟩
 ·exact .inr ⟨hne,fun y hy=>by
   obtain⟨w,hw,hy⟩:=goW_mem.1 hy;exact h2 w (hm w hw) y hy,by omega⟩
theorem putW_len(want:Int)(done:Bool)(err:Int)(w:Wd):(putW want done err w).length≤1:=by
 unfold putW
 repeat' split
 all_goals first | exact onlyW_len _ _ | simp
theorem syncW_len(last err:Int)(w:Wd):(syncW last err w).length≤1:=by
 unfold syncW
 repeat' split
 all_goals exact onlyW_len _ _
theorem compW_len(last err:Int)(w:Wd):(compW last err w).length≤4:=by
 unfold compW
 repeat' split
 all_goals first | exact Nat.le_trans (onlyW_len _ _) (by decide) | simp
theorem stepA_ok{a b:Au}{m:Mv}(h:AuOk a)(hs:stepA a m=some b):AuOk b:=by
 have hsh:Shp a.ws:=h.shape;unfold stepA at hs;split at hs
 ·unfold putA at hs
  split at hs
  ·cases hs
  ·simp only at hs
   split at hs
   ·cases hs
   ·rename_i hne
    injection hs with hs;subst hs;refine⟨?_,shp_one hsh (fun _ _=>putW_len _ _ _ _) ?_ ?_ hne⟩
    ·simp only
     have h1:=h.le
     by_cases hl:liveA a=true∧wantA a m=30
     ·rw[if_pos hl]
      simp only[List.length_append,List.length_take,List.length_cons,List.length_nil];split<;>omega
     ·rw[if_neg hl]
      have:(liveA a&&decide (wantA a m=30)&&decide (m.err=0)&&decide (m.last=(a.last:Int)+1))=false:=by
       cases hla:liveA a
       ·simp
       ·have:¬wantA a m=30:=fun e=>hl ⟨hla,e⟩
        simp[this]
      rw[this];exact h1
    ·intro w hw y hy
     unfold putW at hy
     repeat' split at hy
     ·rw[(onlyW_mem hy).1];exact .inl hw
     ·rw[(onlyW_mem hy).1];exact .inl hw
     ·rw[List.mem_singleton.1 hy];exact .inl hw
     ·rw[(onlyW_mem hy).1];exact .inr rfl
    ·intro w hw y hy
     unfold putW at hy
     repeat' split at hy
     ·rw[(onlyW_mem hy).1];exact hw
     ·rw[(onlyW_mem hy).1];exact hw
     ·rw[List.mem_singleton.1 hy];exact hw
     ·rw[(onlyW_mem hy).1];exact .inr rfl
 split at hs
 ·cases hs
 split at hs
 ·unfold openA at hs
  split at hs
  ·obtain⟨h1,rfl⟩:=withW_some hs
   exact⟨h.le,shp_one hsh (fun _ _=>by simp) (fun w _ y hy=>by rw[List.mem_singleton.1 hy];exact .inr rfl) (fun w _ y hy=>by rw[List.mem_singleton.1 hy];exact .inr rfl) h1⟩
  split at hs
  ·cases hs
  split at hs
  ·cases hs
  split at hs
  ·cases hs
  ·rename_i h1 h2 h3
   injection hs with hs;subst hs;refine⟨by simp only[List.length_take];omega,.inl ?_⟩
   rcases goW_one (f:=openW m.last m.snap) (x:=⟨1,m.last,m.snap⟩) a.ws (fun w _ y hy=>by
    have:=onlyW_mem hy;simp only[Bool.and_eq_true,decide_eq_true_eq] at this;rw[this.1,this.2.2]) with h4 | h4
   ·exact absurd h4 h3
   ·exact⟨_,h4,rfl⟩
 split at hs
 ·cases hs
 split at hs
 ·obtain⟨h1,rfl⟩:=withW_some hs
  refine⟨h.le,shp_one hsh (fun _ _=>syncW_len _ _ _) (fun w hw y hy=>?_) (fun w hw y hy=>?_) h1⟩
  ·unfold syncW at hy
   repeat' split at hy
   ·rw[(onlyW_mem hy).1];exact .inl hw
   ·rw[(onlyW_mem hy).1];exact .inl hw
   ·rw[(onlyW_mem hy).1];exact .inr rfl
  ·unfold syncW at hy
   repeat' split at hy
   ·rw[(onlyW_mem hy).1];exact hw
   ·have:=onlyW_mem hy
    have:=of_decide_eq_true this.2;omega
   ·rw[(onlyW_mem hy).1];exact .inr rfl
 split at hs
 ·obtain⟨h1,rfl⟩:=withW_some hs
  refine⟨h.le,?_⟩;rcases hsh with ⟨w,he,hw⟩ | ⟨-,hm,h4⟩
  ·simp only[he] at h1 ⊢
   have e1:goW (compW a.last m.err) [w]=(compW a.last m.err w).foldl addW []:=by simp[goW]
   rw[e1] at h1 ⊢;unfold compW at h1 ⊢;rw[if_neg (by omega)] at h1 ⊢
   by_cases c1:w.snap=(a.last:Int)
   ·rw[if_pos c1] at h1 ⊢
    unfold onlyW at h1 ⊢;split
    ·exact .inl ⟨w,by simp[addW],hw⟩
    ·rename_i h5
     simp[h5] at h1
   ·rw[if_neg c1] at h1 ⊢
    by_cases c2:m.err=0
    ·rw[if_pos c2]
     unfold onlyW;rw[if_pos (by simp[hw])];exact .inl ⟨_,rfl,hw⟩
    ·rw[if_neg c2] at h1 ⊢
     by_cases c3:m.err≠30
     ·rw[if_pos c3] at h1
      exact absurd rfl h1
     ·rw[if_neg c3,if_neg (by omega)] at h1 ⊢
      have hl:=addF_len [⟨2,w.sure,w.snap⟩,⟨3,w.sure,w.snap⟩,⟨2,(a.last:Int),(a.last:Int)⟩,⟨3,(a.last:Int),(a.last:Int)⟩] [];refine .inr ⟨h1,fun y hy=>?_,by simpa using hl⟩;rw[addF_mem] at hy;simp only[List.not_mem_nil,List.mem_cons,false_or,or_false] at hy;rcases hy with rfl | rfl | rfl | rfl<;>first | exact .inl rfl | exact .inr rfl
  ·have f1:∀ w ∈ a.ws,(compW a.last m.err w).length≤1∧∀ y ∈ compW a.last m.err w,y.mode=2∨y.mode=3:=by
    intro w hw;have hw1:=hm w hw;unfold compW;split
    ·exact⟨onlyW_len _ _,fun y hy=>by rw[(onlyW_mem hy).1];exact hw1⟩
    split
    ·exact⟨onlyW_len _ _,fun y hy=>by rw[(onlyW_mem hy).1];exact hw1⟩
    split
    ·exact⟨onlyW_len _ _,fun y hy=>by rw[(onlyW_mem hy).1];exact hw1⟩
    split
    ·exact⟨by simp,fun y hy=>by cases hy⟩
    split
    ·exact⟨by simp,fun y hy=>by rw[List.mem_singleton.1 hy];exact hw1⟩
    ·omega
   have hl:=goW_len a.ws fun w hw=>(f1 w hw).1
   exact .inr ⟨h1,fun y hy=>by
    obtain⟨w,hw,hy⟩:=goW_mem.1 hy;exact(f1 w hw).2 y hy,by show (goW (compW (a.last:Int) m.err) a.ws).length≤4;omega⟩
 ·cases hs
theorem stepA_len{a b:Au}{m:Mv}(hs:stepA a m=some b):b.all.length≤a.all.length+1:=by
 unfold stepA at hs;split at hs
 ·unfold putA at hs
  split at hs
  ·cases hs
  ·simp only at hs
   split at hs
   ·cases hs
   ·injection hs with hs
    subst hs;simp only;split
    ·simp only[List.length_append,List.length_take,List.length_cons,List.length_nil]
     omega
    ·omega
 split at hs
 ·cases hs
 split at hs
 ·unfold openA at hs
  split at hs
  ·obtain⟨h1,rfl⟩:=withW_some hs
   exact Nat.le_succ _
  split at hs
  ·cases hs
  split at hs
  ·cases hs
  split at hs
  ·cases hs
  ·injection hs with hs
   subst hs;simp only[List.length_take];omega
 split at hs
 ·cases hs
 split at hs
 ·obtain⟨h1,rfl⟩:=withW_some hs
  exact Nat.le_succ _
 split at hs
 ·obtain⟨h1,rfl⟩:=withW_some hs
  exact Nat.le_succ _
 ·cases hs
def Wd.cells(w:Wd):List Value:=[.int .i64 w.mode,.int .i64 w.sure,.int .i64 w.snap]
theorem Wd.clen(w:Wd):w.cells.length=3:=rfl
theorem lit_wd(w W:World)(hf:Frm Nix w W)(e:Wd):SlIn (W.alloc (.cells e.cells.toArray 77)) (fun k=>w.heap.size≤k) 3 (some ⟨W.heap.size,0,none⟩,1) 1 ([e].flatMap Wd.cells):=by
 have q:=(RowK.lit (s:=3) 77 hf 1 e.cells rfl (by unfold maxLen;omega)).sl
 simpa using q
def WsOut(w:World)(l:List Wd)(e:Ending)(w':World):Prop:=
 ∃ v:Sl,e=.returned (.slice v.1 l.length v.2)∧SlIn w' (fun k=>w.heap.size≤k) 3 v l.length (l.flatMap Wd.cells)∧Frm Nix w w'
theorem only_any(x:Wd)(b:Bool)(w:World):Calls Tryz.prog 143 #[.agg #[.int .i64 x.mode,.int .i64 x.sure,.int .i64 x.snap],.bool b] w (WsOut w (onlyW x b)):=by
 have HL:=h_ (lit_wd w (w.alloc (.cells #[.int .i64 x.mode,.int .i64 x.sure,.int .i64 x.snap] 77)) ((fR w).alloc _) x)
 cases b with
 | false=>
   go_enter Tryz.func143,Tryz.ntmps143;go_wp2;go_ret
   exact⟨(none,0),rfl,SlIn.none_ _ _ _,(fR w).alloc _⟩
 | true=>
   go_enter Tryz.func143,Tryz.ntmps143;go_wp2;go_ret;exact⟨(some ⟨w.heap.size+1,0,none⟩,1),rfl,by have q:=HL.out;rw[show (w.alloc (.cells #[.int .i64 x.mode,.int .i64 x.sure,.int .i64 x.snap] 77)).heap.size=w.heap.size+1 by simp] at q;exact q,((fR w).alloc _).alloc _⟩
structure MvIn(w:World)(G:Nat→Prop)(fo fe it se:Sl)(ts:List (Sl×Itm))(m:Mv):Prop where
 st:StIn w G fo fe it se ts m.st
 small:StSmall m.st
theorem MvIn.nix{w w1:World}{G:Nat→Prop}{fo fe it se:Sl}{ts:List (Sl×Itm)}{m:Mv}(h:MvIn w G fo fe it se ts m)(hf:Frm Nix w w1):MvIn w1 G fo fe it se ts m:=⟨h.st.nix hf,h.small⟩
theorem small0:StSmall st0:=st0_ok.small
theorem plain_any{w:World}{G:Nat→Prop}{fo fe it se:Sl}{ts:List (Sl×Itm)}{m:Mv}(h:MvIn w G fo fe it se ts m):Calls Tryz.prog 84 #[.agg #[.int .i64 m.kind,.int .i64 m.ev.kind,.int .i64 m.ev.a,.int .i64 m.ev.b,.int .i64 m.ev.n,.string m.ev.s,.string m.ev.t,.string m.ev.u,.int .i64 m.err,.int .i64 m.last,.int .i64 m.snap,.int .i64 m.st.clock,.slice fo.1 m.st.fols.length fo.2,.slice fe.1 m.st.fees.length fe.2,.slice it.1 m.st.itms.length it.2,.slice se.1 m.st.seas.length se.2,.int .i64 m.st.tFol,.int .i64 m.st.tFee,.int .i64 m.st.tItm,.int .i64 m.st.tSea]] w fun e w'=>e=.returned (.bool (plainM m))∧Frm Nix w w':=by
 have KS:Hid (∀ W,Frm Nix w W→Calls Tryz.prog 146 #[.agg #[.int .i64 m.st.clock,.slice fo.1 m.st.fols.length fo.2,.slice fe.1 m.st.fees.length fe.2,.slice it.1 m.st.itms.length it.2,.slice se.1 m.st.seas.length se.2,.int .i64 m.st.tFol,.int .i64 m.st.tFee,.int .i64 m.st.tItm,.int .i64 m.st.tSea],.agg #[.int .i64 0,.slice none 0 0,.slice none 0 0,.slice none 0 0,.slice none 0 0,.int .i64 0,.int .i64 0,.int .i64 0,.int .i64 0]] W fun e w'=>e=.returned (.bool (decide (m.st=st0)))∧Frm Nix W w'):=fun W hW=>by
  have q:=Same_any (h.st.nix hW) (StIn.zero W fun _=>False) h.small small0;exact q
 have HE:Hid (plainM m=(decide (m.snap=0)&&decide (m.st=st0))):=rfl;clear h;generalize decide (m.st=st0)=q at *
 by_cases h0:m.snap=0
 ·have e0:(m.snap==0)=true:=beq_iff_eq.2 h0
  have HE2:Hid (plainM m=q):=by unfold Hid;rw[HE.out,decide_eq_true h0,Bool.true_and]
  clear h0 HE;go_enter Tryz.func84,Tryz.ntmps84;go_wp2_with (first | (go_at_call 146;refine(KS.out _ ((fR w).alloc _)).mono ?_;rintro e w1 ⟨rfl,hf⟩;have Z1:Hid (Frm Nix w w1):=((fR w).alloc _).trans hf;clear hf) | fail);go_ret;exact⟨ret_bool HE2.out.symm,Z1.out⟩
 ·have e0:(m.snap==0)=false:=beq_eq_false_iff_ne.2 h0
  have HE2:Hid (plainM m=false):=by unfold Hid;rw[HE.out,decide_eq_false h0];rfl
  clear h0 HE;go_enter Tryz.func84,Tryz.ntmps84;go_wp2;go_ret;exact⟨ret_bool HE2.out.symm,(fR w).alloc _⟩
theorem SlIn.first{w:World}{G:Nat→Prop}{s n:Nat}{v:Sl}{xs:List Value}(h:SlIn w G s v n xs){k:Nat}(hk:k≤n):SlIn w G s v k (xs.take (k * s)):=by
 have h1:=h.rd.1;refine⟨⟨?_,fun h0=>?_⟩,h.nil,Nat.le_trans hk h.cap,h.max⟩
 ·rw[List.length_take,h1]
  exact Nat.min_eq_left (Nat.mul_le_mul_right _ hk)
 ·obtain⟨a,e,h2,h3,h4⟩:=h.rd.2 (by omega)
  refine⟨a,e,h2,h3,fun j u hu=>h4 j u ?_⟩;rw[List.getElem?_take] at hu;split at hu
  ·exact hu
  ·cases hu
theorem EvsAll.first{w:World}{G:Nat→Prop}{v:Sl}{l:List Ev}(h:SlIn w G 7 v l.length (l.flatMap Ev.cells)){k:Nat}(hk:k≤l.length):SlIn w G 7 v (l.take k).length ((l.take k).flatMap Ev.cells):=by
 have q:=h.first hk
 rw[flat_take Ev.clen] at q;rw[List.length_take,Nat.min_eq_left hk];exact q
structure AuAt(w:World)(g:Nat)(G:Nat→Prop)(Aa:Option Addr)(ca:Nat)(Aw:Option Addr)(cw:Nat)(a:Au):Prop where
 blk:Blk w g 80 #[.slice Aa a.all.length ca,.int .i64 a.last,.slice Aw a.ws.length cw]
 all:SlIn w G 7 (Aa,ca) a.all.length (a.all.flatMap Ev.cells)
 ws:SlIn w G 3 (Aw,cw) a.ws.length (a.ws.flatMap Wd.cells)
 off:∀ k,G k→¬k=g
 num:∀ e ∈ a.all,I64 e.a∧I64 e.b
theorem AuAt.nix{w w1:World}{g:Nat}{G:Nat→Prop}{Aa Aw:Option Addr}{ca cw:Nat}{a:Au}(h:AuAt w g G Aa ca Aw cw a)(hf:Frm Nix w w1):AuAt w1 g G Aa ca Aw cw a:=⟨h.blk.frm hf id,h.all.nix hf,h.ws.nix hf,h.off,h.num⟩
theorem aState_any{w:World}{g:Nat}{G:Nat→Prop}{Aa Aw:Option Addr}{ca cw:Nat}{a:Au}(h:AuAt w g G Aa ca Aw cw a)(hl:a.last≤a.all.length)(hn:a.all.length≤100000):
  Calls Tryz.prog 139 #[.pointer (some ⟨g,0,none⟩)] w fun e w'=>∃ gs M,e=.returned (.pointer (some ⟨gs,0,none⟩))∧StAt w' gs M (foldE st0 (a.all.take a.last))∧Frm Nix w w'∧∀ k,SF gs M k→w.heap.size≤k:=by
 have KF:Hid (∀ W,Frm Nix w W→Calls Tryz.prog 24 #[.slice Aa a.last ca] W fun e w'=>∃ gs M,e=.returned (.pointer (some ⟨gs,0,none⟩))∧StAt w' gs M (foldE st0 (a.all.take a.last))∧Frm Nix W w'∧∀ k,SF gs M k→W.heap.size≤k):=fun W hW=>by
  have q:=Fold_any (a.all.take a.last) (EvsAll.first (h.all.nix hW) hl) (fun e he=>h.num e (List.mem_of_mem_take he)) (by rw[List.length_take];omega);rw[List.length_take,Nat.min_eq_left hl] at q;exact q
 have HC:Hid (∀ W,Frm Nix w W→W.cell? ⟨g,0,none⟩=some (.slice Aa a.all.length ca)∧W.cell? ⟨g,1,none⟩=some (.int .i64 a.last)):=fun W hW=>⟨(h.blk.frm hW id).cell 0,(h.blk.frm hW id).cell 1⟩
 have hcap:a.all.length≤ca:=h.all.cap;have hmx:ca≤maxLen:=h.all.max;have hnil:Aa=none→ca=0:=h.all.nil;clear h;generalize foldE st0 (a.all.take a.last)=y at *;generalize a.all.length=n at *;generalize a.last=k at *;have hi1:(0:Int)≤(k:Int):=by omega
 have hi2:(k:Int)≤(ca:Int):=by omega
 have hi3:(k:Int)≤(n:Int):=by omega
 have hi4:(n:Int)≤(ca:Int):=by omega
 go_enter Tryz.func139,Tryz.ntmps139;go_wp2
 go_region_held3 (fun W=>W.cell? ⟨g,0,none⟩=some (.slice Aa n ca)∧W.cell? ⟨g,1,none⟩=some (.int .i64 k)) ((refine HC.out _ ?_;repeat' (first | with_reducible exact Frm.refl _ _ | with_reducible exact Y1.out | with_reducible apply Frm.drew)))
  (first
   | (go_at_call 24;refine(KF.out _ (fR _).drew).mono ?_;rintro e w1 ⟨gs,M,rfl,hs,hf,hg⟩;have HS:=h_ hs;have Y1:Hid (Frm Nix w w1):=(fR _).drew.trans hf;have HG:=h_ hg;clear hs hf hg))
 all_goals
  go_wp2;go_ret;exact⟨gs,M,rfl,HS.out,Y1.out,HG.out⟩
theorem aLives_any{w:World}{g:Nat}{G:Nat→Prop}{Aa Aw:Option Addr}{ca cw:Nat}{a:Au}(h:AuAt w g G Aa ca Aw cw a)(hne:a.ws≠[]):
  Calls Tryz.prog 140 #[.pointer (some ⟨g,0,none⟩)] w fun e w'=>e=.returned (.bool (liveA a))∧Frm Nix w w':=by
 obtain⟨al,la,ws⟩:=a
 cases ws with
 | nil=>exact absurd rfl hne
 | cons x r=>
 obtain⟨b,off,hA,-,hbl,hcell⟩:=h.ws.at_ Wd.clen (by decide) (by simp);dsimp only at hA;subst hA;have x0:=hcell 0 (by simp) 0 _ rfl;have q2:=h.blk.cell 2;have HE:Hid (liveA ⟨al,la,x::r⟩=decide (x.mode=1)):=rfl;simp at x0 q2;clear h hne hcell;have hl:(0:Int)<((r.length:Int)+1):=by omega
 go_enter Tryz.func140,Tryz.ntmps140;go_wp2;go_ret;exact⟨ret_bool (by rw[HE.out];rfl),Frm.refl _ _⟩
end Go.Proofs.YtdihmpakglakdaaGreat
