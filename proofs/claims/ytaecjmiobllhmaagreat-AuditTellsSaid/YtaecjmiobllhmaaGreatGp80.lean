/- Words. -/
import Derived.Test.YtaecjmiobllhmaaGreatGp10
import Derived.Test.YtaecjmiobllhmaaGreatGp15
import Derived.Test.YtaecjmiobllhmaaGreatGp30
import Derived.Deep.RegionHeld3
import Derived.Test.YtaecjmiobllhmaaGreatGp24
set_option linter.unusedVariables false
set_option linter.unusedSimpArgs false
set_option maxRecDepth 100000
set_option maxHeartbeats 16000000
namespace Go.Proofs.YtaecjmiobllhmaaGreat
open Go.RowKit Go.Lib
structure Mv where
 kind:Int
 ev:Ev
 err:Int
 last:Int
 snap:Int
 st:St
structure Wd where
 mode:Int
 sure:Int
 snap:Int
instance:DecidableEq Wd:=λx y=>decidable_of_iff (x.mode=y.mode∧x.sure=y.sure∧x.snap=y.snap) ⟨λ⟨h1,h2,h3⟩=>by cases x;cases y;simp_all,λh=>by subst h;simp⟩
structure Au where
 all:List Ev
 last:Nat
 ws:List Wd
def ev0:Ev:=⟨0,0,0,0,eS,eS,eS⟩
def au0:Au:=⟨[],0,[⟨1,0,0⟩]⟩
def addW(l:List Wd)(x:Wd):List Wd:=if x∈l then l else l++[x]
def goW(f:Wd→List Wd)(ws:List Wd):List Wd:=(ws.flatMap f).foldl addW []
def onlyW(w:Wd)(b:Bool):List Wd:=if b=true then [w] else []
def plainM(m:Mv):Bool:=decide (m.snap=0)&&decide (m.st=st0)
def liveA(a:Au):Bool:=match a.ws with | []=>false | w::_=>decide (w.mode=1)
def wantA(a:Au)(m:Mv):Int:=if evOk m.ev=false then 140 else if fits (foldE st0 (a.all.take a.last)) m.ev=false then 330 else 30
def putW(want:Int)(done:Bool)(err:Int)(w:Wd):List Wd:=
 if w.mode=3 then onlyW w (decide (err=6))
 else if want≠30 then onlyW w (decide (err=want))
 else if done=true then [w]
 else onlyW {w with mode:=3} (decide (err=30))
def putA(a:Au)(m:Mv):Option Au:=
 if plainM m=false∨(m.err≠0∧m.last≠0) then none
 else
  let want:=wantA a m
  let done:=liveA a&&decide (want=30)&&decide (m.err=0)&&decide (m.last=a.last+1)
  let ws:=goW (putW want done m.err) a.ws
  if ws=[] then none else some ⟨if liveA a=true∧want=30 then a.all.take a.last++[m.ev] else a.all,if done=true then a.last+1 else a.last,ws⟩
def syncW(last err:Int)(w:Wd):List Wd:=
 if w.mode=3 then onlyW w (decide (err=6))
 else if err=0 then onlyW {w with sure:=last} (decide (w.mode=1))
 else onlyW {w with mode:=3} (decide (err=30))
def compW(last err:Int)(w:Wd):List Wd:=
 if w.mode=3 then onlyW w (decide (err=6))
 else if w.snap=last then onlyW w (decide (err=1))
 else if err=0 then onlyW ⟨w.mode,last,last⟩ (decide (w.mode=1))
 else if err≠30 then []
 else if w.mode=2 then [w]
 else [⟨2,w.sure,w.snap⟩,⟨3,w.sure,w.snap⟩,⟨2,last,last⟩,⟨3,last,last⟩]
def openW(last snap:Int)(w:Wd):List Wd:=onlyW ⟨1,last,w.snap⟩ (decide (w.sure≤last)&&decide (snap=w.snap))
def withW(a:Au)(ws:List Wd):Option Au:=if ws=[] then none else some {a with ws:=ws}
def openA(a:Au)(m:Mv):Option Au:=
 if m.err=30∧m.last=0∧plainM m=true then withW a (goW (λw=>[⟨3,w.sure,w.snap⟩]) a.ws)
 else if m.err≠0∨m.last<0∨(a.all.length:Int)<m.last then none
 else if m.st≠foldE st0 (a.all.take m.last.toNat) then none
 else if goW (openW m.last m.snap) a.ws=[] then none
 else some ⟨a.all.take m.last.toNat,m.last.toNat,goW (openW m.last m.snap) a.ws⟩
def stepA(a:Au)(m:Mv):Option Au:=
 if m.kind=1 then putA a m
 else if m.ev≠ev0 then none
 else if m.kind=4 then openA a m
 else if plainM m=false∨m.last≠0 then none
 else if m.kind=2 then withW a (goW (syncW a.last m.err) a.ws)
 else if m.kind=3 then withW a (goW (compW a.last m.err) a.ws)
 else none
def chkA:Au→List Mv→Nat
 | _,[]=>0
 | a,m::l=>match stepA a m with
   | none=>0
   | some b=>chkA b l+1
def runA:Au→List Mv→Option Au
 | a,[]=>some a
 | a,m::l=>match stepA a m with
   | none=>none
   | some b=>runA b l
theorem chkA_run:∀(l:List Mv) (a:Au),chkA a l=l.length↔(runA a l).isSome=true
 | [],_=>by simp[chkA,runA]
 | m::l,a=>by
   unfold chkA runA;split
   ·simp
   ·rename_i b hb
    rw[←chkA_run l b];simp
theorem addW_len(l:List Wd)(x:Wd):(addW l x).length≤l.length+1:=by
 unfold addW;split
 ·omega
 ·simp
theorem addW_mem{l:List Wd}{x y:Wd}:y∈addW l x↔y∈l∨y=x:=by
 unfold addW;split
 ·constructor
  ·exact λh=>.inl h
  ·rintro(h | rfl)
   ·exact h
   ·assumption
 ·simp
theorem addF_len:∀(m l:List Wd),(m.foldl addW l).length≤l.length+m.length
 | [],l=>Nat.le_refl _
 | x::m,l=>by
   have h1:=addF_len m (addW l x);have h2:=addW_len l x;simp only[List.foldl_cons,List.length_cons];omega
theorem addF_mem:∀(m l:List Wd) (y:Wd),y∈m.foldl addW l↔y∈l∨y∈m
 | [],l,y=>by simp
 | x::m,l,y=>by
   simp only[List.foldl_cons,List.mem_cons];rw[addF_mem m,addW_mem];constructor
   ·rintro((h | h) | h)
    ·exact .inl h
    ·exact .inr (.inl h)
    ·exact .inr (.inr h)
   ·rintro(h | h | h)
    ·exact .inl (.inl h)
    ·exact .inl (.inr h)
    ·exact .inr h
theorem goW_mem{f:Wd→List Wd}{ws:List Wd}{y:Wd}:y∈goW f ws↔∃w∈ws,y∈f w:=by
 unfold goW;rw[addF_mem];simp
theorem flatW_len{f:Wd→List Wd}{k:Nat}:∀(ws:List Wd),(∀w∈ws,(f w).length≤k)→(ws.flatMap f).length≤ws.length * k
 | [],_=>by simp
 | w::ws,hf=>by
   have:=hf w (by simp);have h3:=flatW_len ws λy hy=>hf y (by simp[hy])
   rw[List.flatMap_cons,List.length_append,List.length_cons,Nat.add_mul];omega
theorem goW_len{f:Wd→List Wd}{k:Nat}(ws:List Wd)(hf:∀w∈ws,(f w).length≤k):(goW f ws).length≤ws.length * k:=by
 have h1:=addF_len (ws.flatMap f) [];have h2:=flatW_len ws hf;unfold goW;simp only[List.length_nil] at h1;omega
theorem goW_one{f:Wd→List Wd}{x:Wd}:∀(ws:List Wd),(∀w∈ws,∀y∈f w,y=x)→goW f ws=[]∨goW f ws=[x]:=by
 intro ws h
 have key:∀(m:List Wd),(∀y∈m,y=x)→∀l,(l=[]∨l=[x])→m.foldl addW l=[]∨m.foldl addW l=[x]:=by
  intro m
  induction m with
  | nil=>exact λ_ l hl=>hl
  | cons y m ih=>
    intro hm l hl;obtain rfl:=hm y (by simp);refine ih (λz hz=>hm z (by simp[hz])) _ ?_;rcases hl with rfl | rfl
    ·exact .inr (by simp[addW])
    ·exact .inr (by simp[addW])
 exact key _ (λy hy=>by
  obtain⟨w,hw,hy⟩:=List.mem_flatMap.1 hy;exact h w hw y hy) [] (.inl rfl)
theorem onlyW_len(w:Wd)(b:Bool):(onlyW w b).length≤1:=by
 unfold onlyW;split<;>simp
theorem onlyW_mem{w y:Wd}{b:Bool}(h:y∈onlyW w b):y=w∧b=true:=by
 unfold onlyW at h;split at h
 ·exact⟨by simpa using h,by assumption⟩
 ·cases h
structure AuOk(a:Au):Prop where
 le:a.last≤a.all.length
 shape:(∃w,a.ws=[w]∧w.mode=1)∨(a.ws≠[]∧(∀w∈a.ws,w.mode=2∨w.mode=3)∧a.ws.length≤4)
theorem AuOk.ne{a:Au}(h:AuOk a):a.ws≠[]:=by
 rcases h.shape with ⟨w,e,-⟩ | h
 ·rw[e];simp
 ·exact h.1
theorem AuOk.len{a:Au}(h:AuOk a):a.ws.length≤4:=by
 rcases h.shape with ⟨w,e,-⟩ | h
 ·rw[e];simp
 ·exact h.2.2
theorem au0_ok:AuOk au0:=⟨by simp[au0],.inl ⟨_,rfl,rfl⟩⟩
theorem withW_some{a b:Au}{ws:List Wd}(h:withW a ws=some b):ws≠[]∧b={a with ws:=ws}:=by
 unfold withW at h;split at h
 ·cases h
 ·exact⟨by assumption,by injection h with h;exact h.symm⟩
def Shp(ws:List Wd):Prop:=(∃w,ws=[w]∧w.mode=1)∨(ws≠[]∧(∀w∈ws,w.mode=2∨w.mode=3)∧ws.length≤4)
theorem shp_one{f:Wd→List Wd}{ws:List Wd}(h:Shp ws)(h1:∀w∈ws,(f w).length≤1)(h0:∀w,w.mode=1→∀y∈f w,y.mode=1∨y.mode=3)(h2:∀w,w.mode=2∨w.mode=3→∀y∈f w,y.mode=2∨y.mode=3)(hne:goW f ws≠[]):Shp (goW f ws):=by
 have hl:=goW_len ws h1;rcases h with ⟨w,rfl,hw⟩ | ⟨-,hm,h4⟩
 ·have hl1:(goW f [w]).length=1:=by
   have:(goW f [w]).length≠0:=λe=>hne (List.eq_nil_of_length_eq_zero e)
   simp only[List.length_cons,List.length_nil] at hl;omega
  obtain⟨y,hy⟩:=List.length_eq_one_iff.1 hl1;have hy1:y∈goW f [w]:=by rw[hy];simp
  obtain⟨w',hw',hy2⟩:=goW_mem.1 hy1;obtain rfl:=List.mem_singleton.1 hw';rw[hy];rcases h0 w' hw y hy2 with he | he
  ·exact .inl ⟨y,rfl,he⟩
  ·exact .inr ⟨by simp,by simp[he],by simp⟩
 ·exact .inr ⟨hne,λy hy=>by
   obtain⟨w,hw,hy⟩:=goW_mem.1 hy;exact h2 w (hm w hw) y hy,by omega⟩
theorem putW_len(want:Int)(done:Bool)(err:Int)(w:Wd):(putW want done err w).length≤1:=by
 unfold putW
 repeat' split
 all_goals first | exact onlyW_len _ _ | simp
theorem syncW_len(last err:Int)(w:Wd):(syncW last err w).length≤1:=by
 unfold syncW
 repeat' split
 all_goals exact onlyW_len _ _
theorem compW_len(last err:Int)(w:Wd):(compW last err w).length≤4:=by
 unfold compW
 repeat' split
 all_goals first | exact Nat.le_trans (onlyW_len _ _) (by decide) | simp
theorem stepA_ok{a b:Au}{m:Mv}(h:AuOk a)(hs:stepA a m=some b):AuOk b:=by
 have hsh:Shp a.ws:=h.shape;unfold stepA at hs;split at hs
 ·unfold putA at hs
  split at hs
  ·cases hs
  ·simp only at hs
   split at hs
   ·cases hs
   ·rename_i hne
    injection hs with hs;subst hs;refine⟨?_,shp_one hsh (λ_ _=>putW_len _ _ _ _) ?_ ?_ hne⟩
    ·simp only
     have h1:=h.le
     by_cases hl:liveA a=true∧wantA a m=30
     ·rw[if_pos hl]
      simp only[List.length_append,List.length_take,List.length_cons,List.length_nil];split<;>omega
     ·rw[if_neg hl]
      have:(liveA a&&decide (wantA a m=30)&&decide (m.err=0)&&decide (m.last=(a.last:Int)+1))=false:=by
       cases hla:liveA a
       ·simp
       ·have:¬wantA a m=30:=λe=>hl ⟨hla,e⟩
        simp[this]
      rw[this];exact h1
    ·intro w hw y hy
     unfold putW at hy
     repeat' split at hy
     ·rw[(onlyW_mem hy).1];exact .inl hw
     ·rw[(onlyW_mem hy).1];exact .inl hw
     ·rw[List.mem_singleton.1 hy];exact .inl hw
     ·rw[(onlyW_mem hy).1];exact .inr rfl
    ·intro w hw y hy
     unfold putW at hy
     repeat' split at hy
     ·rw[(onlyW_mem hy).1];exact hw
     ·rw[(onlyW_mem hy).1];exact hw
     ·rw[List.mem_singleton.1 hy];exact hw
     ·rw[(onlyW_mem hy).1];exact .inr rfl
 split at hs
 ·cases hs
 split at hs
 ·unfold openA at hs
  split at hs
  ·obtain⟨h1,rfl⟩:=withW_some hs
   exact⟨h.le,shp_one hsh (λ_ _=>by simp) (λw _ y hy=>by rw[List.mem_singleton.1 hy];exact .inr rfl) (λw _ y hy=>by rw[List.mem_singleton.1 hy];exact .inr rfl) h1⟩
  split at hs
  ·cases hs
  split at hs
  ·cases hs
  split at hs
  ·cases hs
  ·rename_i h1 h2 h3
   injection hs with hs;subst hs;refine⟨by simp only[List.length_take];omega,.inl ?_⟩
   rcases goW_one (f:=openW m.last m.snap) (x:=⟨1,m.last,m.snap⟩) a.ws (λw _ y hy=>by
    have:=onlyW_mem hy;simp only[Bool.and_eq_true,decide_eq_true_eq] at this;rw[this.1,this.2.2]) with h4 | h4
   ·exact absurd h4 h3
   ·exact⟨_,h4,rfl⟩
 split at hs
 ·cases hs
 split at hs
 ·obtain⟨h1,rfl⟩:=withW_some hs
  refine⟨h.le,shp_one hsh (λ_ _=>syncW_len _ _ _) (λw hw y hy=>?_) (λw hw y hy=>?_) h1⟩
  ·unfold syncW at hy
   repeat' split at hy
   ·rw[(onlyW_mem hy).1];exact .inl hw
   ·rw[(onlyW_mem hy).1];exact .inl hw
   ·rw[(onlyW_mem hy).1];exact .inr rfl
  ·unfold syncW at hy
   repeat' split at hy
   ·rw[(onlyW_mem hy).1];exact hw
   ·have:=onlyW_mem hy
    have:=of_decide_eq_true this.2;omega
   ·rw[(onlyW_mem hy).1];exact .inr rfl
 split at hs
 ·obtain⟨h1,rfl⟩:=withW_some hs
  refine⟨h.le,?_⟩;rcases hsh with ⟨w,he,hw⟩ | ⟨-,hm,h4⟩
  ·simp only[he] at h1 ⊢
   have e1:goW (compW a.last m.err) [w]=(compW a.last m.err w).foldl addW []:=by simp[goW]
   rw[e1] at h1 ⊢;unfold compW at h1 ⊢;rw[if_neg (by omega)] at h1 ⊢
   by_cases c1:w.snap=(a.last:Int)
   ·rw[if_pos c1] at h1 ⊢
    unfold onlyW at h1 ⊢;split
    ·exact .inl ⟨w,by simp[addW],hw⟩
    ·rename_i h5
     simp[h5] at h1
   ·rw[if_neg c1] at h1 ⊢
    by_cases c2:m.err=0
    ·rw[if_pos c2]
     unfold onlyW;rw[if_pos (by simp[hw])];exact .inl ⟨_,rfl,hw⟩
    ·rw[if_neg c2] at h1 ⊢
     by_cases c3:m.err≠30
     ·rw[if_pos c3] at h1
      exact absurd rfl h1
     ·rw[if_neg c3,if_neg (by omega)] at h1 ⊢
      have hl:=addF_len [⟨2,w.sure,w.snap⟩,⟨3,w.sure,w.snap⟩,⟨2,(a.last:Int),(a.last:Int)⟩,⟨3,(a.last:Int),(a.last:Int)⟩] [];refine .inr ⟨h1,λy hy=>?_,by simpa using hl⟩;rw[addF_mem] at hy;simp only[List.not_mem_nil,List.mem_cons,false_or,or_false] at hy;rcases hy with rfl | rfl | rfl | rfl<;>first | exact .inl rfl | exact .inr rfl
  ·have f1:∀w∈a.ws,(compW a.last m.err w).length≤1∧∀y∈compW a.last m.err w,y.mode=2∨y.mode=3:=by
    intro w hw;have hw1:=hm w hw;unfold compW;split
    ·exact⟨onlyW_len _ _,λy hy=>by rw[(onlyW_mem hy).1];exact hw1⟩
    split
    ·exact⟨onlyW_len _ _,λy hy=>by rw[(onlyW_mem hy).1];exact hw1⟩
    split
    ·exact⟨onlyW_len _ _,λy hy=>by rw[(onlyW_mem hy).1];exact hw1⟩
    split
    ·exact⟨by simp,λy hy=>by cases hy⟩
    split
    ·exact⟨by simp,λy hy=>by rw[List.mem_singleton.1 hy];exact hw1⟩
    ·omega
   have hl:=goW_len a.ws λw hw=>(f1 w hw).1
   exact .inr ⟨h1,λy hy=>by
    obtain⟨w,hw,hy⟩:=goW_mem.1 hy;exact(f1 w hw).2 y hy,by show (goW (compW (a.last:Int) m.err) a.ws).length≤4;omega⟩
 ·cases hs
theorem stepA_len{a b:Au}{m:Mv}(hs:stepA a m=some b):b.all.length≤a.all.length+1:=by
 unfold stepA at hs;split at hs
 ·unfold putA at hs
  split at hs
  ·cases hs
  ·simp only at hs
   split at hs
   ·cases hs
   ·injection hs with hs
    subst hs;simp only;split
    ·simp only[List.length_append,List.length_take,List.length_cons,List.length_nil]
     omega
    ·omega
 split at hs
 ·cases hs
 split at hs
 ·unfold openA at hs
  split at hs
  ·obtain⟨h1,rfl⟩:=withW_some hs
   exact Nat.le_succ _
  split at hs
  ·cases hs
  split at hs
  ·cases hs
  split at hs
  ·cases hs
  ·injection hs with hs
   subst hs;simp only[List.length_take];omega
 split at hs
 ·cases hs
 split at hs
 ·obtain⟨h1,rfl⟩:=withW_some hs
  exact Nat.le_succ _
 split at hs
 ·obtain⟨h1,rfl⟩:=withW_some hs
  exact Nat.le_succ _
 ·cases hs
def Wd.cells(w:Wd):List Value:=[.int .i64 w.mode,.int .i64 w.sure,.int .i64 w.snap]
theorem Wd.clen(w:Wd):w.cells.length=3:=rfl
theorem lit_wd(w W:World)(hf:Frm Nix w W)(e:Wd):SlIn (W.alloc (.cells e.cells.toArray 68)) (λk=>w.heap.size≤k) 3 (some ⟨W.heap.size,0,none⟩,1) 1 ([e].flatMap Wd.cells):=by
 have q:=(RowK.lit (s:=3) 68 hf 1 e.cells rfl (by unfold maxLen;omega)).sl
 simpa using q
def WsOut(w:World)(l:List Wd)(e:Ending)(w':World):Prop:=
 ∃v:Sl,e=.returned (.slice v.1 l.length v.2)∧SlIn w' (λk=>w.heap.size≤k) 3 v l.length (l.flatMap Wd.cells)∧Frm Nix w w'
theorem only_any(x:Wd)(b:Bool)(w:World):Calls Tryz.prog 119 #[.agg #[.int .i64 x.mode,.int .i64 x.sure,.int .i64 x.snap],.bool b] w (WsOut w (onlyW x b)):=by
 have HL:=h_ (lit_wd w (w.alloc (.cells #[.int .i64 x.mode,.int .i64 x.sure,.int .i64 x.snap] 68)) ((fR w).alloc _) x)
 cases b with
 | false=>
   go_enter Tryz.func119,Tryz.ntmps119;go_wp2;go_ret
   exact⟨(none,0),rfl,SlIn.none_ _ _ _,(fR w).alloc _⟩
 | true=>
   go_enter Tryz.func119,Tryz.ntmps119;go_wp2;go_ret;exact⟨(some ⟨w.heap.size+1,0,none⟩,1),rfl,by have q:=HL.out;rw[show (w.alloc (.cells #[.int .i64 x.mode,.int .i64 x.sure,.int .i64 x.snap] 68)).heap.size=w.heap.size+1 by simp] at q;exact q,((fR w).alloc _).alloc _⟩
structure MvIn(w:World)(G:Nat→Prop)(fo fe it se:Sl)(ts:List (Sl×Itm))(m:Mv):Prop where
 st:StIn w G fo fe it se ts m.st
 small:StSmall m.st
theorem MvIn.nix{w w1:World}{G:Nat→Prop}{fo fe it se:Sl}{ts:List (Sl×Itm)}{m:Mv}(h:MvIn w G fo fe it se ts m)(hf:Frm Nix w w1):MvIn w1 G fo fe it se ts m:=⟨h.st.nix hf,h.small⟩
theorem small0:StSmall st0:=st0_ok.small
theorem plain_any{w:World}{G:Nat→Prop}{fo fe it se:Sl}{ts:List (Sl×Itm)}{m:Mv}(h:MvIn w G fo fe it se ts m):Calls Tryz.prog 63 #[.agg #[.int .i64 m.kind,.int .i64 m.ev.kind,.int .i64 m.ev.a,.int .i64 m.ev.b,.int .i64 m.ev.n,.string m.ev.s,.string m.ev.t,.string m.ev.u,.int .i64 m.err,.int .i64 m.last,.int .i64 m.snap,.int .i64 m.st.clock,.slice fo.1 m.st.fols.length fo.2,.slice fe.1 m.st.fees.length fe.2,.slice it.1 m.st.itms.length it.2,.slice se.1 m.st.seas.length se.2,.int .i64 m.st.tFol,.int .i64 m.st.tFee,.int .i64 m.st.tItm,.int .i64 m.st.tSea]] w λe w'=>e=.returned (.bool (plainM m))∧Frm Nix w w':=by
 have KS:Hid (∀W,Frm Nix w W→Calls Tryz.prog 122 #[.agg #[.int .i64 m.st.clock,.slice fo.1 m.st.fols.length fo.2,.slice fe.1 m.st.fees.length fe.2,.slice it.1 m.st.itms.length it.2,.slice se.1 m.st.seas.length se.2,.int .i64 m.st.tFol,.int .i64 m.st.tFee,.int .i64 m.st.tItm,.int .i64 m.st.tSea],.agg #[.int .i64 0,.slice none 0 0,.slice none 0 0,.slice none 0 0,.slice none 0 0,.int .i64 0,.int .i64 0,.int .i64 0,.int .i64 0]] W λe w'=>e=.returned (.bool (decide (m.st=st0)))∧Frm Nix W w'):=λW hW=>by
  have q:=Same_any (h.st.nix hW) (StIn.zero W λ_=>False) h.small small0;exact q
 have HE:Hid (plainM m=(decide (m.snap=0)&&decide (m.st=st0))):=rfl;clear h;generalize decide (m.st=st0)=q at *
 by_cases h0:m.snap=0
 ·have e0:(m.snap==0)=true:=beq_iff_eq.2 h0
  have HE2:Hid (plainM m=q):=by unfold Hid;rw[HE.out,decide_eq_true h0,Bool.true_and]
  clear h0 HE;go_enter Tryz.func63,Tryz.ntmps63;go_wp2_with (first | (go_at_call 122;refine(KS.out _ ((fR w).alloc _)).mono ?_;rintro e w1 ⟨rfl,hf⟩;have Z1:Hid (Frm Nix w w1):=((fR w).alloc _).trans hf;clear hf) | fail);go_ret;exact⟨ret_bool HE2.out.symm,Z1.out⟩
 ·have e0:(m.snap==0)=false:=beq_eq_false_iff_ne.2 h0
  have HE2:Hid (plainM m=false):=by unfold Hid;rw[HE.out,decide_eq_false h0];rfl
  clear h0 HE;go_enter Tryz.func63,Tryz.ntmps63;go_wp2;go_ret;exact⟨ret_bool HE2.out.symm,(fR w).alloc _⟩
theorem SlIn.first{w:World}{G:Nat→Prop}{s n:Nat}{v:Sl}{xs:List Value}(h:SlIn w G s v n xs){k:Nat}(hk:k≤n):SlIn w G s v k (xs.take (k * s)):=by
 have h1:=h.rd.1;refine⟨⟨?_,λh0=>?_⟩,h.nil,Nat.le_trans hk h.cap,h.max⟩
 ·rw[List.length_take,h1]
  exact Nat.min_eq_left (Nat.mul_le_mul_right _ hk)
 ·obtain⟨a,e,h2,h3,h4⟩:=h.rd.2 (by omega)
  refine⟨a,e,h2,h3,λj u hu=>h4 j u ?_⟩;rw[List.getElem?_take] at hu;split at hu
  ·exact hu
  ·cases hu
theorem EvsAll.first{w:World}{G:Nat→Prop}{v:Sl}{l:List Ev}(h:SlIn w G 7 v l.length (l.flatMap Ev.cells)){k:Nat}(hk:k≤l.length):SlIn w G 7 v (l.take k).length ((l.take k).flatMap Ev.cells):=by
 have q:=h.first hk
 rw[flat_take Ev.clen] at q;rw[List.length_take,Nat.min_eq_left hk];exact q
structure AuAt(w:World)(g:Nat)(G:Nat→Prop)(Aa:Option Addr)(ca:Nat)(Aw:Option Addr)(cw:Nat)(a:Au):Prop where
 blk:Blk w g 71 #[.slice Aa a.all.length ca,.int .i64 a.last,.slice Aw a.ws.length cw]
 all:SlIn w G 7 (Aa,ca) a.all.length (a.all.flatMap Ev.cells)
 ws:SlIn w G 3 (Aw,cw) a.ws.length (a.ws.flatMap Wd.cells)
 off:∀k,G k→¬k=g
 num:∀e∈a.all,I64 e.a∧I64 e.b
theorem AuAt.nix{w w1:World}{g:Nat}{G:Nat→Prop}{Aa Aw:Option Addr}{ca cw:Nat}{a:Au}(h:AuAt w g G Aa ca Aw cw a)(hf:Frm Nix w w1):AuAt w1 g G Aa ca Aw cw a:=⟨h.blk.frm hf id,h.all.nix hf,h.ws.nix hf,h.off,h.num⟩
theorem aState_any{w:World}{g:Nat}{G:Nat→Prop}{Aa Aw:Option Addr}{ca cw:Nat}{a:Au}(h:AuAt w g G Aa ca Aw cw a)(hl:a.last≤a.all.length)(hn:a.all.length≤100000):
  Calls Tryz.prog 115 #[.pointer (some ⟨g,0,none⟩)] w λe w'=>∃gs M,e=.returned (.pointer (some ⟨gs,0,none⟩))∧StAt w' gs M (foldE st0 (a.all.take a.last))∧Frm Nix w w'∧∀k,SF gs M k→w.heap.size≤k:=by
 have KF:Hid (∀W,Frm Nix w W→Calls Tryz.prog 19 #[.slice Aa a.last ca] W λe w'=>∃gs M,e=.returned (.pointer (some ⟨gs,0,none⟩))∧StAt w' gs M (foldE st0 (a.all.take a.last))∧Frm Nix W w'∧∀k,SF gs M k→W.heap.size≤k):=λW hW=>by
  have q:=Fold_any (a.all.take a.last) (EvsAll.first (h.all.nix hW) hl) (λe he=>h.num e (List.mem_of_mem_take he)) (by rw[List.length_take];omega);rw[List.length_take,Nat.min_eq_left hl] at q;exact q
 have HC:Hid (∀W,Frm Nix w W→W.cell? ⟨g,0,none⟩=some (.slice Aa a.all.length ca)∧W.cell? ⟨g,1,none⟩=some (.int .i64 a.last)):=λW hW=>⟨(h.blk.frm hW id).cell 0,(h.blk.frm hW id).cell 1⟩
 have hcap:a.all.length≤ca:=h.all.cap;have hmx:ca≤maxLen:=h.all.max;have hnil:Aa=none→ca=0:=h.all.nil;clear h;generalize foldE st0 (a.all.take a.last)=y at *;generalize a.all.length=n at *;generalize a.last=k at *;have hi1:(0:Int)≤(k:Int):=by omega
 have hi2:(k:Int)≤(ca:Int):=by omega
 have hi3:(k:Int)≤(n:Int):=by omega
 have hi4:(n:Int)≤(ca:Int):=by omega
 go_enter Tryz.func115,Tryz.ntmps115;go_wp2
 go_region_held3 (λW=>W.cell? ⟨g,0,none⟩=some (.slice Aa n ca)∧W.cell? ⟨g,1,none⟩=some (.int .i64 k)) ((refine HC.out _ ?_;repeat' (first | with_reducible exact Frm.refl _ _ | with_reducible exact Y1.out | with_reducible apply Frm.drew)))
  (first
   | (go_at_call 19;refine(KF.out _ (fR _).drew).mono ?_;rintro e w1 ⟨gs,M,rfl,hs,hf,hg⟩;have HS:=h_ hs;have Y1:Hid (Frm Nix w w1):=(fR _).drew.trans hf;have HG:=h_ hg;clear hs hf hg))
 all_goals
  go_wp2;go_ret;exact⟨gs,M,rfl,HS.out,Y1.out,HG.out⟩
theorem aLives_any{w:World}{g:Nat}{G:Nat→Prop}{Aa Aw:Option Addr}{ca cw:Nat}{a:Au}(h:AuAt w g G Aa ca Aw cw a)(hne:a.ws≠[]):
  Calls Tryz.prog 116 #[.pointer (some ⟨g,0,none⟩)] w λe w'=>e=.returned (.bool (liveA a))∧Frm Nix w w':=by
 obtain⟨al,la,ws⟩:=a
 cases ws with
 | nil=>exact absurd rfl hne
 | cons x r=>
 obtain⟨b,off,hA,-,hbl,hcell⟩:=h.ws.at_ Wd.clen (by decide) (by simp);dsimp only at hA;subst hA;have x0:=hcell 0 (by simp) 0 _ rfl;have q2:=h.blk.cell 2;have HE:Hid (liveA ⟨al,la,x::r⟩=decide (x.mode=1)):=rfl;simp at x0 q2;clear h hne hcell;have hl:(0:Int)<((r.length:Int)+1):=by omega
 go_enter Tryz.func116,Tryz.ntmps116;go_wp2;go_ret;exact⟨ret_bool (by rw[HE.out];rfl),Frm.refl _ _⟩
def putM(e:Ev)(n:Int):Mv:=⟨1,e,0,n,0,st0⟩
def syncM:Mv:=⟨2,ev0,0,0,0,st0⟩
def openM(last:Int)(x:St):Mv:=⟨4,ev0,0,last,0,x⟩
structure Tl where
 s:St
 all:List Ev
 mv:List Mv
 sure:Int
def tl0:Tl:=⟨st0,[],[],0⟩
def stepT(y:Int)(t:Tl)(e:Ev):Tl:=
 if fits t.s e=true then
  if (t.all.length:Int)+1=y then ⟨(applyS t.s e).1,t.all++[e],t.mv++[putM e (t.all.length+1)]++[syncM],y⟩
  else ⟨(applyS t.s e).1,t.all++[e],t.mv++[putM e (t.all.length+1)],t.sure⟩
 else ⟨(applyS t.s e).1,t.all,t.mv,t.sure⟩
def tellT(y:Int)(l:List Ev):Tl:=l.foldl (stepT y) tl0
theorem tellT_take{y:Int}{l:List Ev}{k:Nat}(h:k<l.length):tellT y (l.take (k+1))=stepT y (tellT y (l.take k)) l[k]:=by
 unfold tellT;rw[List.take_succ_eq_append_getElem h,List.foldl_append];rfl
theorem runA_cons(a:Au)(m:Mv)(l:List Mv):runA a (m::l)=match stepA a m with | none=>none | some b=>runA b l:=rfl
theorem runA_app:∀(l m:List Mv) (a:Au),runA a (l++m)=(runA a l).bind λb=>runA b m
 | [],m,a=>rfl
 | x::l,m,a=>by
   rw[List.cons_append,runA_cons,runA_cons]
   cases stepA a x with
   | none=>rfl
   | some b=>exact runA_app l m b
structure TlOk(y:Int)(t:Tl):Prop where
 sy:t.sure=0∨t.sure=y
 fold:t.s=foldE st0 t.all
 ok:StP t.s
 run:runA au0 t.mv=some ⟨t.all,t.all.length,[⟨1,t.sure,0⟩]⟩
 lo:0≤t.sure
 hi:t.sure≤t.all.length
 len:t.mv.length≤t.all.length+if t.sure=0 then 0 else 1
theorem put_step{y:Int}{t:Tl}(h:TlOk y t){e:Ev}(hf:fits t.s e=true):stepA ⟨t.all,t.all.length,[⟨1,t.sure,0⟩]⟩ (putM e (t.all.length+1))=some ⟨t.all++[e],t.all.length+1,[⟨1,t.sure,0⟩]⟩:=by
 have hw:wantA ⟨t.all,t.all.length,[⟨1,t.sure,0⟩]⟩ (putM e (t.all.length+1))=30:=by
  unfold wantA putM;simp only[List.take_length];rw[←h.fold,hf,if_neg (by rw[fits_ev hf];simp),if_neg (by simp)]
 have hp:plainM (putM e (t.all.length+1))=true:=by simp[plainM,putM]
 have hl:liveA ⟨t.all,t.all.length,[⟨1,t.sure,0⟩]⟩=true:=rfl;have e1:(putM e (t.all.length+1)).kind=1:=rfl;have e2:(putM e (t.all.length+1)).err=0:=rfl;have e3:(putM e (t.all.length+1)).last=(t.all.length:Int)+1:=rfl;have e4:(putM e (t.all.length+1)).ev=e:=rfl;unfold stepA;rw[if_pos e1];unfold putA;rw[hp,hl,hw,e2,e3,e4];simp[goW,putW,addW]
theorem sync_step(all:List Ev)(n:Nat)(s:Int):stepA ⟨all,n,[⟨1,s,0⟩]⟩ syncM=some ⟨all,n,[⟨1,n,0⟩]⟩:=by
 have hp:plainM syncM=true:=by simp[plainM,syncM]
 have e1:syncM.kind=2:=rfl;have e2:syncM.err=0:=rfl;have e3:syncM.last=0:=rfl;have e4:syncM.ev=ev0:=rfl;unfold stepA;rw[e1,e2,e3,e4,hp];simp[goW,syncW,addW,withW,onlyW]
theorem tl0_ok(y:Int):TlOk y tl0:=⟨.inl rfl,rfl,st0_ok,rfl,Int.le_refl _,Int.le_refl _,Nat.le_refl _⟩
theorem stepT_ok{y:Int}{t:Tl}(h:TlOk y t)(e:Ev):TlOk y (stepT y t e):=by
 unfold stepT
 cases hf:fits t.s e with
 | false=>
   rw[if_neg (by simp)];have:(applyS t.s e).1=t.s:=by unfold applyS;rw[hf];rfl
   rw[this]
   exact⟨h.sy,h.fold,h.ok,h.run,h.lo,h.hi,h.len⟩
 | true=>
   rw[if_pos rfl]
   have hfold:(applyS t.s e).1=foldE st0 (t.all++[e]):=by
    unfold foldE;rw[List.foldl_append];have:=h.fold;unfold foldE at this;rw[←this];rfl
   have hlen:=h.len;have hlo:=h.lo;have hhi:=h.hi
   by_cases hy:(t.all.length:Int)+1=y
   ·rw[if_pos hy]
    refine⟨.inr rfl,hfold,applyS_ok h.ok e,?_,by dsimp only;omega,by simp;omega,?_⟩
    ·dsimp only
     rw[List.append_assoc,runA_app,h.run];simp only[Option.bind,List.cons_append,List.nil_append];unfold runA;rw[put_step h hf];simp only;unfold runA;rw[sync_step];simp only;unfold runA;simp[←hy]
    ·dsimp only
     rw[if_neg (by omega)];simp only[List.length_append,List.length_cons,List.length_nil];have hs:=h.sy;split at hlen
     ·omega
     ·rcases hs with hs | hs<;>omega
   ·rw[if_neg hy]
    refine⟨h.sy,hfold,applyS_ok h.ok e,?_,hlo,by simp;omega,?_⟩
    ·dsimp only
     rw[runA_app,h.run];simp only[Option.bind];unfold runA;rw[put_step h hf];simp only;unfold runA;simp
    ·dsimp only
     simp only[List.length_append,List.length_cons,List.length_nil];omega
theorem tellT_ok(y:Int)(l:List Ev):TlOk y (tellT y l):=by
 have key:∀(l:List Ev) (t:Tl),TlOk y t→TlOk y (l.foldl (stepT y) t):=by
  intro l
  induction l with
  | nil=>exact λt h=>h
  | cons e l ih=>exact λt h=>ih _ (stepT_ok h e)
 exact key l tl0 (tl0_ok y)
theorem tellT_len(y:Int):∀(l:List Ev),(tellT y l).all.length≤l.length:=by
 have key:∀(l:List Ev) (t:Tl),(l.foldl (stepT y) t).all.length≤t.all.length+l.length:=by
  intro l
  induction l with
  | nil=>exact λt=>Nat.le_refl _
  | cons e l ih=>
    intro t;have h1:=ih (stepT y t e)
    have h2:(stepT y t e).all.length≤t.all.length+1:=by
     unfold stepT
     repeat' split
     all_goals simp
    simp only[List.foldl_cons,List.length_cons];omega
 intro l;have h0:tl0.all.length=0:=rfl;have h1:=key l tl0;unfold tellT;omega
theorem tells_may(y:Int)(l:List Ev):chkA au0 (tellT y l).mv=(tellT y l).mv.length:=by
 rw[chkA_run,(tellT_ok y l).run];rfl
theorem open_some{a:Au}{s last:Int}{x:St}:(openA ⟨a.all,a.last,[⟨1,s,0⟩]⟩ (openM last x)).isSome=(decide (s≤last)&&!decide (last<0)&&decide (last≤a.all.length)&&decide (x=foldE st0 (a.all.take last.toNat))):=by
 unfold openA;have e2:(openM last x).err=0:=rfl;have e3:(openM last x).last=last:=rfl;have e4:(openM last x).st=x:=rfl;have e5:(openM last x).snap=0:=rfl;rw[e2,e3,e4,e5,if_neg (by simp)];dsimp only
 by_cases h1:(0:Int)≠0∨last<0∨(a.all.length:Int)<last
 ·rw[if_pos h1]
  rcases h1 with h1 | h1 | h1
  ·exact absurd rfl h1
  ·simp[h1]
  ·simp[show ¬last≤(a.all.length:Int) by omega]
 ·rw[if_neg h1]
  have g1:¬last<0:=λh=>h1 (.inr (.inl h))
  have g2:last≤(a.all.length:Int):=Int.not_lt.1 λh=>h1 (.inr (.inr h))
  by_cases h2:x=foldE st0 (a.all.take last.toNat)
  ·rw[if_neg (λh=>h h2)]
   by_cases h3:s≤last
   ·simp[goW,openW,onlyW,addW,h3,g1,g2,h2]
   ·simp[goW,openW,onlyW,addW,h3,g1,g2,h2]
  ·rw[if_pos h2]
   simp[h2]
theorem tells_open(y:Int)(l:List Ev)(last:Int)(x:St):decide (chkA au0 ((tellT y l).mv++[openM last x])=((tellT y l).mv++[openM last x]).length)=(decide ((tellT y l).sure≤last)&&decide (last≤(tellT y l).all.length)&&decide (x=foldE st0 ((tellT y l).all.take last.toNat))):=by
 have h:=tellT_ok y l;generalize tellT y l=t at *
 have h1:(chkA au0 (t.mv++[openM last x])=(t.mv++[openM last x]).length)↔(openA ⟨t.all,t.all.length,[⟨1,t.sure,0⟩]⟩ (openM last x)).isSome=true:=by
  rw[chkA_run,runA_app,h.run];simp only[Option.bind];unfold runA;unfold stepA;rw[if_neg (show ¬(openM last x).kind=1 from (by decide:¬(4:Int)=1)),if_neg (show ¬(openM last x).ev≠ev0 from λh=>h rfl),if_pos (show (openM last x).kind=4 from rfl)]
  cases openA ⟨t.all,t.all.length,[⟨1,t.sure,0⟩]⟩ (openM last x) with
  | none=>simp
  | some b=>simp[runA]
 have h3:decide (chkA au0 (t.mv++[openM last x])=(t.mv++[openM last x]).length)=(openA ⟨t.all,t.all.length,[⟨1,t.sure,0⟩]⟩ (openM last x)).isSome:=by
  rw[Bool.eq_iff_iff,decide_eq_true_iff];exact h1
 rw[h3,open_some (a:=⟨t.all,t.all.length,[]⟩)];have:=h.lo;dsimp only
 by_cases h2:t.sure≤last
 ·simp[h2,show ¬last<0 by omega]
 ·simp[h2]
end Go.Proofs.YtaecjmiobllhmaaGreat
