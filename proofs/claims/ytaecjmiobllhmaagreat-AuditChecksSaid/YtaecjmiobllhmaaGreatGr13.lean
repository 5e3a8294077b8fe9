/- Words. -/
import Derived.Test.YtaecjmiobllhmaaGreatGr12
import Derived.Lib.OwnBridge
import Derived.StillTailTactics
import Derived.Deep.RegionHeld3
set_option linter.unusedVariables false
set_option linter.unusedSimpArgs false
set_option maxRecDepth 100000
set_option maxHeartbeats 16000000
namespace Go.Proofs.YtaecjmiobllhmaaGreat
open Go.Value renaming int→I,string→V,slice→U,pointer→O
open Go.IntKind renaming i64→J
open Go.RowKit Go.Lib
open Go.Sort (putRow mapBlock Holds)
variable {xs:List Value}{W:World}{cs:Array Value}{w0 w1:World}{A:Option Addr}{w':World}
section
theorem Ba(w:World)(g q:Nat)(d:Array (List UInt8)):aa (λk=>k=g) w (putRow encStr (Sort.ahead w q) g 0 d):=
 ⟨rfl,rfl,rfl,by simp[putRow,mapBlock,Sort.ahead],λk _ hn=>by
  have:g≠k:=λe=>hn e.symm
  simp[putRow,mapBlock,Sort.ahead,Array.getElem?_modify,this]⟩
def putL(cs:Array Value):Nat→List Value→Array Value
 | _,[]=>cs
 | o,v::r=>putL (cs.setIfInBounds o v) (o+1) r
theorem dN:∀(vs:List Value) (o:Nat) (cs:Array Value),(putL cs o vs).size=cs.size
 | [],_,_=>rfl
 | v::r,o,cs=>by rw[putL,dN r];simp
theorem fy:∀(vs:List Value) (o:Nat) (cs:Array Value) (j:Nat),(putL cs o vs)[j]? =if o≤j∧j<o+vs.length∧j<cs.size then vs[j-o]? else cs[j]?
 | [],o,cs,j=>by
   have:¬(o≤j∧j<o+([]:List Value).length∧j<cs.size):=by simp;omega
   rw[if_neg this]
   rfl
 | v::r,o,cs,j=>by
   rw[putL,fy r];simp only[Array.size_setIfInBounds,List.length_cons]
   by_cases h1:j=o
   ·subst h1
    rw[if_neg (by omega)]
    by_cases h2:j<cs.size
    ·rw[if_pos (by omega)]
     simp[h2]
    ·rw[if_neg (by omega)]
     simp[h2]
   ·rw[Array.getElem?_setIfInBounds_ne (Ne.symm h1)]
    by_cases h2:o+1≤j∧j<o+1+r.length∧j<cs.size
    ·rw[if_pos h2,if_pos (by omega)]
     have:j-o=(j-(o+1))+1:=by omega
     rw[this,List.getElem?_cons_succ]
    ·rw[if_neg h2,if_neg (by omega)]
theorem aj.putL{g:Nat}{t:TypeId}:∀(vs:List Value) (o:Nat) {w:World} {cs:Array Value},aj w g t cs→aj (w.setCells g o vs) g t (putL cs o vs)
 | [],_,_,_,h=>h
 | v::r,o,_,_,h=>aj.putL r (o+1) (h.set_ o v)
theorem aa.setCells{F:Nat→Prop}{w:World}{g:Nat}:∀(vs:List Value) (o:Nat) {w1:World},aa F w w1→(F g∨w.heap.size≤g)→aa F w (w1.setCells g o vs)
 | [],_,_,h,_=>h
 | v::r,o,_,h,hg=>aa.setCells r (o+1) (h.setCell (p:=⟨g,o,none⟩) hg v) hg
theorem wm{C D:Array Value}{x:Value}{i:Nat}(hi:i≤xs.length)(hs:xs.length+1≤D.size)(h1:∀j,j<i→D[j]? =xs[j]?)(h2:D[i]? =some x)(h3:∀j,i≤j→j<xs.length→D[j+1]? =xs[j]?):
  D.toList.take (xs.length+1)=xs.take i++x::xs.drop i:=by
 refine List.ext_getElem? λj=>?_
 rw[List.getElem?_take]
 by_cases hj:j<xs.length+1
 ·rw[if_pos hj,Array.getElem?_toList]
  rcases Nat.lt_trichotomy j i with h|rfl|h
  ·rw[h1 j h,List.getElem?_append_left (by simp;omega),List.getElem?_take,if_pos h]
  ·rw[h2,List.getElem?_append_right (by simp;omega)]
   have:j-(xs.take j).length=0:=by simp;omega
   rw[this];rfl
  ·obtain⟨j,rfl⟩:∃k,j=k+1:=⟨j-1,by omega⟩
   rw[h3 j (by omega) (by omega),List.getElem?_append_right (by simp;omega)];have:j+1-(xs.take i).length=(j-i)+1:=by simp;omega
   rw[this,List.getElem?_cons_succ,List.getElem?_drop]
   congr 1
   omega
 ·rw[if_neg hj,List.getElem?_eq_none (by simp;omega)]
theorem Tu(l:List ByteArray):∀v∈l.map Value.string,v.oneCell'=true:=by
 intro v hv;obtain⟨y,-,rfl⟩:=List.mem_map.1 hv;rfl
theorem xW{v:Sl}{l:List ByteArray}(hv:bF W v l)(h8:l.length≤1000):
  Calls Tryz.prog 114 #[U v.1 l.length v.2] W λe w'=>∃A c,e=.returned (U A l.length c)∧aJ 9 W w' (U A l.length c) l.length (l.map Value.string):=by
 obtain⟨A,c⟩:=v;rcases A with _|ad
 ·have h0:l.length=0:=by have:=hv.2.1 rfl;have:=hv.2.2.1;simp only at *;omega
  have hl:l=[]:=List.eq_nil_of_length_eq_zero h0;subst hl;refine(Tryz.slices_Clone_string_nil 0 c W).mono ?_;rintro e w' ⟨rfl,rfl⟩;exact⟨none,0,rfl,aJ.nil_ _ (aa.refl _ _)⟩
 ·rcases Nat.eq_zero_or_pos l.length with h0|h0
  ·have hl:l=[]:=List.eq_nil_of_length_eq_zero h0
   subst hl;refine(Tryz.slices_Clone_string_zero ad c W).mono ?_;rintro e w' ⟨v',rfl,ho,-,hb⟩;have R:aJ 9 W w' v' 0 []:=⟨ho,aa.of_below hb⟩;obtain⟨A,c,rfl,-⟩:=R.shape;exact⟨A,c,rfl,R⟩
  ·obtain⟨ad',hA,-,-,hc⟩:=hv.1.2 h0
   injection hA with hA;subst hA;obtain⟨bk,off,sp⟩:=ad
   have hsp:sp=none:=by
    have h1:=hc 0 (V l[0]) (by simp);have h2:=xO h1
    simpa [Addr.add] using h2
   subst hsp;refine(Tryz.slices_Clone_string bk off l.length c l W (Nat.le_refl _) (by omega) λj hj=>?_).mono ?_
   ·have h1:=hc j (V l[j]) (by simp)
    rw[tZ] at h1;rw[h1];simp[List.getD,List.getElem?_eq_getElem hj]
   ·rintro e w' ⟨v',rfl,ho,-,hb⟩
    rw[List.take_of_length_le (Nat.le_refl _)] at ho;have R:aJ 9 W w' v' l.length (l.map Value.string):=⟨ho,aa.of_below hb⟩;obtain⟨A,c,rfl,-⟩:=R.shape;exact⟨A,c,rfl,R⟩
theorem xX{w:World}{g:Nat}{t:TypeId}(h:aj w g t cs):w.shape? g=some (t,cs.size):=by
 unfold World.shape?;unfold aj at h;rw[h]
theorem Mb:Shelf.Ren.t Tryz.laysIns_ren 9=9:=by kernel_rfl
theorem lZ{e:TypeId}(hf:aa ag w0 w1){g:Nat}(hb:aj w1 g e cs)(hg:w0.heap.size≤g){n c:Nat}(hn:n≤c)(hc:c≤maxLen)(hs:cs.size=c)(hx:xs.length=n)(ht:cs.toList.take n=xs):
  aJ e w0 w1 (U (some ⟨g,0,none⟩) n c) n xs:=⟨⟨by omega,.inr ⟨g,c,cs,rfl,hg,hb,hn,hc,by simpa using hs,by simpa using ht⟩⟩,hf⟩
theorem s9{n:Nat}(ht:cs.toList.take n=xs){j:Nat}(hj:j<n):cs[j]? =xs[j]?:=by
 rw[←ht,List.getElem?_take,if_pos hj,Array.getElem?_toList]
theorem C5{n c i vb:Nat}{x:Value}(h:aJ 9 w0 w1 (U A n c) n xs)(hx1:∀v∈xs,v.oneCell'=true)(hx:x.oneCell'=true)(hn:n≤1000)(hi:i≤n)(PB:aj w1 vb 9 #[x])(hne:∀k,(Value.slice A n c).ownBlock=some k→vb≠k):
  Calls Tryz.prog 141 #[U A n c,I J i,U (some ⟨vb,0,none⟩) 1 1] w1 λe w'=>∃A' c',e=.returned (U A' (n+1) c')∧aJ 9 w0 w' (U A' (n+1) c') (n+1) (xs.take i++x::xs.drop i):=by
 have hl:=h.len
 have hc1:∀(j:Nat) (v:Value),[x][j]? =some v→w1.cell? ⟨vb,0+j,none⟩=some v:=by
  intro j v hj;rw[Nat.zero_add,PB.cell]
  simpa using hj
 have hf:=h.frm;have h9:=Mb;have cm:=λ(w:World) (k:Nat)=>grownCap_ge w (n+1) k 9
 have qH:=λ(w:World) (k:Nat)=>grownCap_le_maxLen w (n+1) k 9 (by unfold maxLen;omega)
 have hzs:(Builtin.zeroCells (Value.cells (Value.string {data:=#[]})):Nat→Array Value)=λk=>Builtin.zeroCells (Value.cells (Value.string {data:=#[]})) k:=rfl
 have hzl:∀k,(Builtin.zeroCells (Value.cells (Value.string {data:=#[]})) k).size=k:=λk=>by simp[Builtin.zeroCells,Value.cells]
 rcases h.own.2 with ⟨hv,R1⟩|⟨g,cap,cur,hv,hg,hh,Ci,hm,hs,ht⟩
 ·injection hv with e1 e2 e3
  subst e1 e2 e3;have GK:i=0:=by omega
  subst GK;have hx0:xs=[]:=List.eq_nil_of_length_eq_zero (by omega);subst hx0;refine(Any2.slices_Insert_string_end_grow Tryz.laysIns none 0 0 vb 0 1 1 [] [x] w1 (by omega) (by omega) (by omega) (by omega) rfl rfl (λ_=>rfl) (λa ha=>by cases ha) hc1 (λv hv=>by simp at hv;subst hv;exact hx)).mono ?_;rintro e w' ⟨rfl,rfl⟩;rw[h9];refine⟨_,_,rfl,lZ (hf.drew.alloc _) (aj.new _ _ _) hf.size (cm _ _) (qH _ _) ?_ (by simp) ?_⟩
  ·have:=cm w1 0
   simp only[Array.size_append,hzl,List.size_toArray,List.nil_append,List.length_singleton];omega
  ·simp
 ·injection hv with e1 e2 e3
  subst e1 e3;rw[Nat.mul_one] at hs ht;have hb:aj w1 g 9 cur:=hh;have vJ:=hb.lt;have Mc:=hne g (by simp[Value.ownBlock])
  have hcs:∀(j:Nat) (v:Value),xs[j]? =some v→w1.cell? ⟨g,0+j,none⟩=some v:=by
   intro j v hj;have hjn:j<n:=by have:=(List.getElem?_eq_some_iff.1 hj).1;omega
   rw[Nat.zero_add,hb.cell,s9 ht hjn,hj]
  by_cases hroom:n+1≤c
  ·have hsome:∀j,j<n+1→(w1.cell? ⟨g,0+j,none⟩).isSome=true:=by
    intro j hj;rw[Nat.zero_add,hb.cell];simp;omega
   by_cases hin:i=n
   ·subst hin
    refine(Any2.slices_Insert_string_end_room Tryz.laysIns g 0 i c vb 0 1 1 [x] w1 (by omega) hroom (by unfold maxLen at hm;omega) rfl (λj hj=>?_) (λj hj=>hb.frozen _) hc1 (λv hv=>by simp at hv;subst hv;exact hx)).mono ?_
    ·have:=hsome (i+j) (by omega)
     simpa [Nat.add_assoc] using this
    ·rintro e w' ⟨rfl,rfl⟩
     refine⟨_,_,rfl,lZ (hf.setCells _ _ (.inr hg)) (aj.putL [x] (0+i) hb) hg hroom hm (by rw[dN];exact hs) (by simp;omega) ?_⟩;rw[show i+1=xs.length+1 by omega];refine wm (C:=cur) (by omega) (by rw[dN];omega) (λj hj=>?_) ?_ (λj h1 h2=>by omega)
     ·rw[fy,if_neg (by omega),s9 ht (by omega)]
     ·rw[fy,if_pos (by simp;omega)]
      simp
   ·refine(Any2.slices_Insert_string_shift Tryz.laysIns g 0 n c i vb 0 1 1 xs [x] w1 (by omega) (by omega) hroom (by unfold maxLen at hm;omega) Mc hl rfl hcs hsome (λj hj=>hb.frozen _) hc1 hx1 (λv hv=>by simp at hv;subst hv;exact hx) _ _ _ _ (xX PB) (xX hb) (by omega) (PB.frozen _) (PB.frozen _)).mono ?_
    rintro e w' ⟨rfl,rfl⟩;refine⟨_,_,rfl,lZ ((hf.drew.setCells _ _ (.inr hg)).setCells _ _ (.inr hg)) (aj.putL [x] (0+i) (aj.putL (xs.drop i) (0+(i+1)) hb.drew)) hg hroom hm (by rw[dN,dN];exact hs) (by simp;omega) ?_⟩;rw[show n+1=xs.length+1 by omega];refine wm (C:=cur) (by omega) (by rw[dN,dN];omega) (λj hj=>?_) ?_ (λj h1 h2=>?_)
    ·rw[fy,if_neg (by omega),fy,if_neg (by omega),s9 ht (by omega)]
    ·rw[fy,if_pos (by simp[dN];omega)]
     simp
    ·rw[fy,if_neg (by simp;omega),fy,if_pos (by simp;omega),List.getElem?_drop]
     congr 1
     omega
  ·have Qm:c=n:=by omega
   subst Qm
   by_cases hin:i=c
   ·subst hin
    refine(Any2.slices_Insert_string_end_grow Tryz.laysIns (some ⟨g,0,none⟩) i i vb 0 1 1 xs [x] w1 (by omega) (by omega) (by omega) (by omega) hl rfl (λe=>by cases e) (λa ha j v hj=>?_) hc1 (λv hv=>by simp at hv;subst hv;exact hx)).mono ?_
    ·injection ha with ha
     subst ha;have:=hcs j v hj;rw[tZ];exact this
    ·rintro e w' ⟨rfl,rfl⟩
     rw[h9];refine⟨_,_,rfl,lZ (hf.drew.alloc _) (aj.new _ _ _) hf.size (cm _ _) (qH _ _) ?_ (by simp;omega) ?_⟩
     ·have:=cm w1 i
      simp only[Array.size_append,hzl,List.size_toArray,List.length_append,List.length_singleton];omega
     ·rw[Array.toList_append,List.take_append_of_le_length (by simp;omega),List.take_of_length_le (by simp;omega),List.take_of_length_le (by omega),List.drop_of_length_le (by omega)]
   ·refine(Any2.slices_Insert_string_grow Tryz.laysIns g 0 c c i vb 0 1 1 xs [x] w1 (by omega) (by omega) (by omega) (by omega) (by omega) hl rfl hcs hc1 hx1 (λv hv=>by simp at hv;subst hv;exact hx)).mono ?_
    rintro e w' ⟨rfl,rfl⟩;rw[h9];have G9:=cm w1 c;have Tv:=qH w1 c;generalize grownCap w1 (c+1) c 9=K at *
    have hsz:(List.toArray (List.take i xs)++Builtin.zeroCells (Value.cells (Value.string {data:=#[]})) (c+1-i)++Builtin.zeroCells (Value.cells (Value.string {data:=#[]})) (K-(c+1))).size=K:=by
     simp only[Array.size_append,hzl,List.size_toArray,List.length_take];omega
    have hpre:∀j,j<i→(List.toArray (List.take i xs)++Builtin.zeroCells (Value.cells (Value.string {data:=#[]})) (c+1-i)++Builtin.zeroCells (Value.cells (Value.string {data:=#[]})) (K-(c+1)))[j]? =xs[j]?:=by
     intro j hj;rw[Array.getElem?_append_left (by simp[hzl];omega),Array.getElem?_append_left (by simp;omega)];simp[List.getElem?_take,hj]
    generalize (List.toArray (List.take i xs)++Builtin.zeroCells (Value.cells (Value.string {data:=#[]})) (c+1-i)++Builtin.zeroCells (Value.cells (Value.string {data:=#[]})) (K-(c+1)))=C at *;refine⟨_,_,rfl,lZ (w1:=World.setCells (World.drew (World.setCells (World.drew (World.alloc w1 (.cells C 9))) w1.heap.size i [x])) w1.heap.size (i+1) (xs.drop i)) ((((hf.alloc _).drew.setCells _ _ (.inr hf.size)).drew).setCells _ _ (.inr hf.size)) (aj.putL (xs.drop i) (i+1) (aj.drew (aj.putL [x] i (aj.drew (aj.new w1 _ C))))) hf.size G9 Tv (by rw[dN,dN];exact hsz) (by simp;omega) ?_⟩;rw[show c+1=xs.length+1 by omega];refine wm (C:=cur) (by omega) (by rw[dN,dN];omega) (λj hj=>?_) ?_ (λj h1 h2=>?_)
    ·rw[fy,if_neg (by omega),fy,if_neg (by omega),hpre j hj]
    ·rw[fy,if_neg (by omega),fy,if_pos (by simp;omega)]
     simp
    ·rw[fy,if_pos (by rw[dN];simp;omega),List.getElem?_drop]
     congr 1
     omega
def wn(s:ByteArray):List UInt8:=s.data.toList
theorem uA(s:ByteArray):encStr (wn s)=V s:=by
 unfold encStr wn
 cases s
 rfl
theorem wu(l:List ByteArray):(l.map wn).map encStr=l.map Value.string:=by
 rw[List.map_map];exact List.map_congr_left λs _=>uA s
theorem C6{c i:Nat}{l:List ByteArray}(h:aJ 9 w0 w1 (U A l.length c) l.length (l.map Value.string))(hi:i<l.length):
  Calls Tryz.prog 142 #[U A l.length c,I J i,I J ((i:Int)+1)] w1 λe w'=>e=.returned (U A (l.length-1) c)∧aJ 9 w0 w' (U A (l.length-1) c) (l.length-1) ((l.take i++l.drop (i+1)).map Value.string):=by
 rcases h.own.2 with ⟨hv,R1⟩|⟨g,cap,cur,hv,hg,hh,Ci,hm,hs,ht⟩
 ·injection hv with e1 e2 e3
  omega
 ·injection hv with e1 e2 e3
  subst e1 e3;rw[Nat.mul_one] at hs ht;have hb:aj w1 g 9 cur:=hh
  have hH:Holds encStr w1 g 0 (l.map wn).toArray:=by
   intro j hj;simp at hj;refine⟨?_,hb.frozen _⟩;rw[Nat.zero_add,hb.cell,s9 ht hj];simp[hj,getElem!_pos,uA]
  have Tw:(l.map wn).length=l.length:=by simp
  have key:=Tryz.slices_Delete_string g 0 c i (i+1) (l.map wn) w1 hH (by omega) (by unfold maxLen at hm;omega) (by omega) (by omega);rw[Tw,show ((i+1:Nat):Int)=(i:Int)+1 by omega] at key;refine key.mono ?_;rintro e w' ⟨rfl,q,rfl⟩;have e1:i+1-i=1:=by omega
  rw[e1];refine⟨rfl,?_,h.frm.next (Ba w1 g q _) λk hk=>.inr (by omega)⟩;have hown:=h.own;rw[←wu] at hown;have:=ownsRow_putRow (q:=q) (k:=l.length-1) hown (ys:=(l.map wn).take i++(l.map wn).drop (i+1)++List.replicate 1 []) (by simp;omega) (by omega)
  have e2:((l.map wn).take i++(l.map wn).drop (i+1)++List.replicate 1 []).take (l.length-1)=(l.take i++l.drop (i+1)).map wn:=by
   rw[List.take_append_of_le_length (by simp;omega),List.take_of_length_le (by simp;omega),List.map_append,List.map_take,List.map_drop]
  rw[e2,wu] at this;exact this
theorem aJ.tags{c:Nat}{l:List ByteArray}(h:aJ 9 W w' (U A l.length c) l.length (l.map Value.string)):bF w' (A,c) l∧aa ag W w':=by
 refine⟨⟨?_,?_,?_⟩,h.frm⟩
 ·refine h.rd.mono λk hk=>?_
  rcases h.own.2 with ⟨hv,R1⟩|⟨g,cap,cur,hv,hg,hh,Ci,hm,hs,ht⟩
  ·injection hv with e1 e2 e3
   subst e1;simp[Value.ownBlock] at hk
  ·injection hv with e1 e2 e3
   subst e1;simp[Value.ownBlock] at hk;subst hk;exact⟨cur,_,hh⟩
 ·intro h0
  obtain⟨A',c',e,h1,-⟩:=h.shape;injection e with e1 e2 e3;subst e1 e3;exact h1 h0
 ·obtain⟨A',c',e,h1,h2,h3,-⟩:=h.shape
  injection e with e1 e2 e3;subst e1 e3;exact⟨h2,h3⟩
theorem Ek{α:Type}(p:α→Bool)(l:List α):l.takeWhile p=l.take (l.takeWhile p).length:=by
 conv=>rhs;rw[←List.takeWhile_append_dropWhile (p:=p) (l:=l)]
 have e:(l.takeWhile p++l.dropWhile p).takeWhile p=l.takeWhile p:=by rw[List.takeWhile_append_dropWhile]
 rw[e,List.take_append_of_le_length (Nat.le_refl _),List.take_of_length_le (Nat.le_refl _)]
theorem El{α:Type}(p:α→Bool)(l:List α):l.dropWhile p=l.drop (l.takeWhile p).length:=by
 conv=>rhs;rw[←List.takeWhile_append_dropWhile (p:=p) (l:=l)]
 have e:(l.takeWhile p++l.dropWhile p).takeWhile p=l.takeWhile p:=by rw[List.takeWhile_append_dropWhile]
 rw[e,List.drop_append_of_le_length (Nat.le_refl _),List.drop_of_length_le (Nat.le_refl _),List.nil_append]
theorem E3{l:List ByteArray}{t:ByteArray}(hp:l.Pairwise lU)(hn:(l.any λy=>decide (y=t))=false):cY l t true=l.take (bB t l)++t::l.drop (bB t l):=by
 rw[nM hp]
 have h1:l.takeWhile (λx=>decide (lU x t))=l.take (bB t l):=by
  unfold bB;exact Ek ..
 have h2:l.dropWhile (λx=>decide (lU x t))=l.drop (bB t l):=by
  unfold bB;exact El ..
 rw[h1,h2,List.filter_eq_self.2];intro y hy;have:=List.any_eq_false.1 hn y (List.mem_of_mem_drop hy)
 simpa using this
theorem xY{l:List ByteArray}{t:ByteArray}(hp:l.Pairwise lU)(hn:(l.any λy=>decide (y=t))=true):bB t l<l.length∧cY l t false=l.take (bB t l)++l.drop (bB t l+1):=by
 have hm:t∈l:=by
  obtain⟨y,hy,e⟩:=List.any_eq_true.1 hn;simp at e;exact e ▸ hy
 obtain⟨h1,h2⟩:=(sA t l hp).2 hm;refine⟨h1,?_⟩;rw[iM]
 conv=>lhs;rw[←List.take_append_drop (bB t l) l,List.filter_append,List.drop_eq_getElem_cons h1]
 have Qq:=hp
 congr 1
 ·refine List.filter_eq_self.2 λy hy=>?_
  obtain⟨j,hj,rfl⟩:=List.mem_iff_getElem.1 hy;simp at hj;have:=(pS t l hp j (by omega)).2 (by omega);rw[List.getElem_take];simp;rintro e;rw[e] at this;exact lV _ this
 ·rw[List.filter_cons,h2]
  simp;intro y hy e;subst e;obtain⟨j,hj,e⟩:=List.mem_iff_getElem.1 hy;simp at hj;rw[List.getElem_drop] at e;have:=List.pairwise_iff_getElem.1 hp (bB y l) (bB y l+1+j) h1 (by omega) (by omega);rw[h2,e] at this;exact lV _ this
theorem C7{l:List ByteArray}{t:ByteArray}{wi:Bool}(hp:l.Pairwise lU)(hn:(l.any λy=>decide (y=t))=wi):cY l t wi=l:=by
 cases wi with
 | false=>
   rw[iM];refine List.filter_eq_self.2 λy hy=>?_
   have:=List.any_eq_false.1 hn y hy
   simpa using this
 | true=>
   obtain⟨h1,h2⟩:=xY hp hn
   have e:t=l[bB t l]:=by
    have hm:t∈l:=by
     obtain⟨y,hy,e⟩:=List.any_eq_true.1 hn;simp at e;exact e ▸ hy
    exact((sA t l hp).2 hm).2.symm
   rw[nM hp];have h3:=iM l t;rw[h2] at h3
   have hw:l.takeWhile (λx=>decide (lU x t))=l.take (bB t l):=by
    unfold bB;exact Ek ..
   have hd:l.dropWhile (λx=>decide (lU x t))=l.drop (bB t l):=by
    unfold bB;exact El ..
   rw[hw,hd,List.drop_eq_getElem_cons h1,List.filter_cons,←e];simp
   have hf:(l.drop (bB t l+1)).filter (λx=>decide (x≠t))=l.drop (bB t l+1):=by
    refine List.filter_eq_self.2 λy hy=>?_
    simp;intro e';subst e';obtain⟨j,hj,e2⟩:=List.mem_iff_getElem.1 hy;simp at hj;rw[List.getElem_drop] at e2;have:=List.pairwise_iff_getElem.1 hp (bB y l) (bB y l+1+j) h1 (by omega) (by omega);rw[e2,←e] at this;exact lV _ this
   have:l=l.take (bB t l)++t::l.drop (bB t l+1):=by
    conv=>lhs;rw[←List.take_append_drop (bB t l) l,List.drop_eq_getElem_cons h1,←e]
   conv=>rhs;rw[this]
   congr 2
   rw[List.filter_eq_self] at hf ⊢;intro a ha;have:=hf a ha
   simpa using this
section
variable {w:World} {g:Nat} {M:Ms} {x:St}
theorem Ha(t:ByteArray)(l:List ByteArray)(h8:l.length≤8):(0:Int)≤bB t l∧(bB t l:Int)≤8:=by
 have:=rG t l;omega
theorem C8(h:aH w g M x)(kd a b n:Int)(s t u:ByteArray)(ha:bn a)(hn:n=0∨n=1):Calls Tryz.prog 89 #[O (some ⟨g,0,none⟩),bQ ⟨kd,a,b,n,s,t,u⟩] w λe w'=>∃v:Sl,e=.returned (NS (cY (ah x a).tags s (decide (n=1))).length v)∧bF w' v (cY (ah x a).tags s (decide (n=1)))∧aa ag w w':=by
 obtain⟨w0,hw0⟩:∃w0,w0=w.alloc (.cells #[I J kd,I J a,I J b,I J n,V s,V t,V u] 42):=⟨_,rfl⟩;have f0:aa ag w w0:=by rw[hw0];exact(fR w).alloc _
 have l5:aj w0 w.heap.size 42 #[I J kd,I J a,I J b,I J n,V s,V t,V u]:=by rw[hw0];exact aj.new w _ _
 have h0:=h.nix f0;obtain⟨c0,c1,c2,c3,c4,c5,c6,c7,c8,c9,c10,c11,c12⟩:=h0.cells;obtain⟨d0,d1,d2,d3,d4,d5,d6⟩:=az l5;obtain⟨wd,hwd⟩:∃wd,wd=w0.drew:=⟨_,rfl⟩;have R3:aH wd g M x:=by rw[hwd];exact h0.nix (fR w0).drew
 have Qr:=h_ hwd;obtain⟨v,hv,NX⟩:=R3.itmLook ha;obtain⟨o1,o2⟩:=A9 h.ok a;have KC:=h_ (xW hv (by omega));have KT:=h_ (λW (h:aH W g M x)=>Ej h ha s);have hl:(Instr.lookup 108 (.map (some M.it)) (I J a) false).run Tryz.prog wd=.ok (.agg (nr v (ah x a))) wd:=NX false;unfold nr at hl;clear NX;have Qp:=λW=>ue v (ah x a) W
 have HS:=h_ h0;have HE:=h_ l5;have HW:=h_ hw0;have HF:=h_ f0;have uS:=Ha s (ah x a).tags o2;have HI:=h_ (λ(hq:((ah x a).tags.any λy=>decide (y=s))=false)=>E3 o1 hq);have HD:=h_ (λ(hq:((ah x a).tags.any λy=>decide (y=s))=true)=>xY o1 hq);have HQ:=h_ (λwi (hq:((ah x a).tags.any λy=>decide (y=s))=wi)=>C7 (wi:=wi) o1 hq);have HL:=h_ (rG s (ah x a).tags);generalize ah x a=q at *;obtain⟨l,E4⟩:∃l,l=q.tags:=⟨_,rfl⟩;generalize bB s q.tags=p at *;obtain⟨has,hhas⟩:∃has,has=q.tags.any λy=>decide (y=s):=⟨_,rfl⟩
 rw[←hhas] at KT HI HD HQ;clear h hv o1 hw0 f0 h0 l5 hhas E4 hwd R3;unfold bQ;go_enter Tryz.func89,Tryz.ntmps89;go_wp2;rw[←HW.out]
 go_still_tail 8,(by kernel_rfl)
 change wpStill _ _ w0.drew _ _ _;rw[←Qr.out]
 repeat still_step
 refine wpStill_nil ?_;change wpList _ _ _ _ _ w0.drew;rw[←Qr.out];have hn':(n==1)=decide (n=1):=by rw[Bool.eq_iff_iff];simp
 have pT:(n==0)=!decide (n=1):=by rcases hn with rfl|rfl<;>rfl
 obtain⟨wi,Qs⟩:∃wi,wi=decide (n=1):=⟨_,rfl⟩;rw[←Qs] at hn' pT;have Tx:=h_ Qs;clear Qs;clear c0 c1 c2 c3 c4 c5 c6 c7 c8 c9 c10 c11 c12 d0 d1 d2 d3 d4 d5 d6 hl Qp HW hn
 go_wp2_with (first
  | (go_at_call 114;go_loud (refine KC.out.mono ?_;rintro e w2 ⟨A,c,rfl,hr⟩;have Md:aa ag w0 wd:=by {rw[Qr.out];exact(fR w0).drew};have hf2:=Md.trans hr.frm;have HR:=h_ (hr.since Md);clear Md;obtain⟨d0,d1,d2,d3,d4,d5,d6⟩:=az (HE.out.frm hf2 id);have kX:=h_ hf2;have Nw:=h_ (KT.out w2 (HS.out.nix hf2));clear hr hf2))
  | (go_at_call 102;refine Nw.out.mono ?_;rintro e w3 ⟨rfl,hf3⟩;have nG:=h_ (HR.out.more hf3);obtain⟨d0,d1,d2,d3,d4,d5,d6⟩:=az (HE.out.frm (kX.out.trans hf3) id);cases has<;>cases wi)
  | (go_at_call 141;refine(C5 (i:=p) (nG.out.more ((fR w3).alloc _)) (Tu _) rfl (by omega) HL.out (aj.new w3 _ _) (λk hk=>by obtain⟨A',c',e,-,-,-,h9⟩:=tR nG.out.own;rw[e] at hk;rcases A' with _|ad;·{simp[Value.ownBlock] at hk};·{obtain⟨Vb,Vc,Vd,Ve⟩:=h9 ad rfl;simp[Value.ownBlock] at hk;omega})).mono ?_;rintro e w4 ⟨A4,c4,rfl,h4⟩)
  | (go_at_call 142;refine(C6 (i:=p) nG.out (HD.out (by trivial)).1).mono ?_;rintro e w4 ⟨rfl,h4⟩))
 all_goals go_ret
 all_goals rw[←Tx.out]
 ·rw[HQ.out _ (by trivial)]
  obtain⟨t1,t2⟩:=nG.out.tags;exact⟨_,rfl,t1,HF.out.trans t2⟩
 ·have e:=HI.out (by trivial)
  have hp:=HL.out;rw[e];have Jy:(q.tags.take p++s::q.tags.drop p).length=q.tags.length+1:=by simp;omega
  have e2:(q.tags.map Value.string).take p++Value.string s::(q.tags.map Value.string).drop p=(q.tags.take p++s::q.tags.drop p).map Value.string:=by simp
  rw[e2,←Jy] at h4;rw[←Jy];obtain⟨t1,t2⟩:=h4.tags;exact⟨(A4,c4),rfl,t1,HF.out.trans t2⟩
 ·obtain⟨e1,e⟩:=HD.out (by trivial)
  rw[e];have Jy:(q.tags.take p++q.tags.drop (p+1)).length=q.tags.length-1:=by simp;omega
  rw[←Jy] at h4 ⊢;obtain⟨t1,t2⟩:=h4.tags;exact⟨_,rfl,t1,HF.out.trans t2⟩
 ·rw[HQ.out _ (by trivial)]
  obtain⟨t1,t2⟩:=nG.out.tags;exact⟨_,rfl,t1,HF.out.trans t2⟩
end
end
def ai:Nat→Code→Code
 | 0,c=>c
 | n+1,.seq _ d=>ai n d
 | _+1,c=>c
def aD:Code→Code
 | .seq c _=>c
 | c=>c
theorem aC{P:Program}{Q:Exit→Act→World→Prop}{a:Act}{w:World}{b:Code}{k k':Nat}(h:∀K:Act→World→Prop,(∀a w,(ai k' b).wp P Q a w→K a w)→(aD (ai k b)).wp P (Exit.then K Q) a w)(he:ai k b=.seq (aD (ai k b)) (ai k' b):=by kernel_rfl):(ai k b).wp P Q a w:=by
 rw[he];exact wp_seq_k h
def ae(f:Func):Code:=match f.body with|some c=>c|none=>.skip
section
theorem lt.{u}:(∀{α:Type u} {xs:List α} {i:Nat} (h:i<xs.toArray.size),xs.toArray[i]=xs[i]'(by simpa using h))∧(∀{α:Type u} (a:α) (bs:List α) (h:0<(a::bs).length),(a::bs)[0]=a)∧(∀{α:Type u} (a:α) (bs:List α) (i:Nat) (h:i+1<(a::bs).length),(a::bs)[i+1]=bs[i]'(Nat.lt_of_succ_lt_succ h))∧(∀{α:Type u} (l:List α) (i:Nat) (a:α),l.toArray.setIfInBounds i a=(l.set i a).toArray)∧(∀{α:Type u} {x:α} {xs:List α} {a:α},(x::xs).set 0 a=a::xs)∧(∀{α:Type u} {x:α} {xs:List α} {i:Nat} {a:α},(x::xs).set (i+1) a=x::xs.set i a)∧(∀(a:Act)(i:Nat)(v:Value),a.put (some i) v=⟨a.tmps.setIfInBounds i v,a.defers⟩)∧(∀(a:Act)(v:Value),a.put none v=a):=
 ⟨λ_=>rfl,λ_ _ _=>rfl,λ_ _ _ _=>rfl,λl i a=>List.setIfInBounds_toArray l i a,rfl,rfl,λ_ _ _=>rfl,λ_ _=>rfl⟩
section
variable {P:Program} {ops:Array Oper} {Q:Exit→Act→World→Prop} {md:Region.Mode} {S:World→Prop} {fuel:Nat} {listed:Array Bool} {a:Act} {w:World} {i j k:Nat} {o o2 o3:Oper} {v:Value}
theorem ww(hi:ops[i]? =some o)(hQ:∀c a w,Q (.panic c) (a.put o.dst v) w→Q (.panic c) a w)(hS:S w)
  (h:wpAnyH P md ops Q S fuel (listed.setIfInBounds i true) (a.put o.dst v) w) (hv:∀w,S w→(execOp a.eval o).run P w=.ok (.value v) w:=by intro wS hSw;(try dsimp only at hSw);go_simp;all_goals with_reducible rfl) (hb:(Region.noSelect ops&&(Region.free md ops listed i&&(Region.ready md ops listed).contains i))=true:=by kernel_rfl) (hw:Region.wanted o (yielded ops a.tmps)=true:=by rfl):wpAnyH P md ops Q S (fuel+1) listed a w:=by
 simp only[Bool.and_eq_true] at hb;exact wpAnyH_take hi hb.1 hb.2.1 hb.2.2 hQ (Or.inl ⟨hw,hv⟩) hS h
theorem tk{d:Nat}(hP:Hid (∀(e:_) (a:Act) (i:Nat) (v:Value) (w:World),Q (.panic e) (a.put (some i) v) w→Q (.panic e) a w))(hi:ops[i]? =some o)(hd:o.dst=some d)(hS:S w)
  (h:wpAnyH P md ops Q S fuel (listed.setIfInBounds i true) (a.put o.dst v) w) (hv:∀w,S w→(execOp a.eval o).run P w=.ok (.value v) w:=by intro wS hSw;(try dsimp only at hSw);go_simp;all_goals with_reducible rfl) (hb:(Region.noSelect ops&&(Region.free md ops listed i&&(Region.ready md ops listed).contains i))=true:=by kernel_rfl) (hw:Region.wanted o (yielded ops a.tmps)=true:=by rfl):wpAnyH P md ops Q S (fuel+1) listed a w:=
 ww hi (λc a w=>by rw[hd];exact hP.out c a d v w) hS h hv hb hw
theorem aw(ho:ops[i]? =some o)
  (h:∀K':Act→World→Prop,Shut (∀a w,S w→(S w→wpAnyH P md ops Q S fuel (listed.setIfInBounds i true) a w)→K' a w)→if Region.wanted o (yielded ops a.tmps)=true then Oper.wp P o a w K' Q else K' (a.put o.dst undef) w) (hr:Region.ready md ops listed=[i]:=by kernel_rfl):wpAnyH P md ops Q S (fuel+1) listed a w:=
 wpAnyH_ready hr (by simp) (AllReadyH.cons ho h AllReadyH.nil)
theorem kW(ho:ops[i]? =some o)(ho2:ops[j]? =some o2)
  (h:∀K':Act→World→Prop,Shut (∀a w,S w→(S w→wpAnyH P md ops Q S fuel (listed.setIfInBounds i true) a w)→K' a w)→if Region.wanted o (yielded ops a.tmps)=true then Oper.wp P o a w K' Q else K' (a.put o.dst undef) w)
  (h2:∀K':Act→World→Prop,Shut (∀a w,S w→(S w→wpAnyH P md ops Q S fuel (listed.setIfInBounds j true) a w)→K' a w)→if Region.wanted o2 (yielded ops a.tmps)=true then Oper.wp P o2 a w K' Q else K' (a.put o2.dst undef) w) (hr:Region.ready md ops listed=[i,j]:=by kernel_rfl):wpAnyH P md ops Q S (fuel+1) listed a w:=
 wpAnyH_ready hr (by simp) (AllReadyH.cons ho h (AllReadyH.cons ho2 h2 AllReadyH.nil))
theorem E5(ho:ops[i]? =some o)(ho2:ops[j]? =some o2)(PC:ops[k]? =some o3)
  (h:∀K':Act→World→Prop,Shut (∀a w,S w→(S w→wpAnyH P md ops Q S fuel (listed.setIfInBounds i true) a w)→K' a w)→if Region.wanted o (yielded ops a.tmps)=true then Oper.wp P o a w K' Q else K' (a.put o.dst undef) w)
  (h2:∀K':Act→World→Prop,Shut (∀a w,S w→(S w→wpAnyH P md ops Q S fuel (listed.setIfInBounds j true) a w)→K' a w)→if Region.wanted o2 (yielded ops a.tmps)=true then Oper.wp P o2 a w K' Q else K' (a.put o2.dst undef) w)
  (h3:∀K':Act→World→Prop,Shut (∀a w,S w→(S w→wpAnyH P md ops Q S fuel (listed.setIfInBounds k true) a w)→K' a w)→if Region.wanted o3 (yielded ops a.tmps)=true then Oper.wp P o3 a w K' Q else K' (a.put o3.dst undef) w) (hr:Region.ready md ops listed=[i,j,k]:=by kernel_rfl):wpAnyH P md ops Q S (fuel+1) listed a w:=
 wpAnyH_ready hr (by simp) (AllReadyH.cons ho h (AllReadyH.cons ho2 h2 (AllReadyH.cons PC h3 AllReadyH.nil)))
theorem bW{v u v':Value}{t:TypeId}{s x:Operand}{K:Act→World→Prop}{E:Prop}(hrun:∀ty,(Builtin.append_ #[t,t] ty #[v,u]).run P w=.ok v' w')
  (h:K (a.put o.dst v') w') (hgd:o.guard=none:=by rfl)
  (ho:o.op=.call {callee:=.builtin .append,args:=#[s,x],argTypes:=#[t,t]}:=by rfl) (hs:a.eval s=v:=by rfl) (hx:a.eval x=u:=by rfl):if Region.wanted o (yielded ops a.tmps)=true then Oper.wp P o a w K Q else E:=
 iC hrun hgd s x ho hs hx h
end
def ap:Code→Code
 | .seq _ d=>d
 | c=>c
def bH:Code→Code
 | .cond _ c _=>c
 | c=>c
def aT:Code→Code
 | .cond _ _ d=>d
 | c=>c
def bM:Code→Code
 | .block _ c=>c
 | c=>c
def bC:Code→Code
 | .loop c=>c
 | c=>c
end
end Go.Proofs.YtaecjmiobllhmaaGreat
