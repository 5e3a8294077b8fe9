/- Words. -/
import Derived.WalkKit
import Derived.WalkSpells
import Derived.WalkLawsBesides
import Derived.Maps.AppendAt
import Derived.Deep.AppendLies
import Derived.Deep.Draws
import Derived.Lib.Hide
import Derived.MapKept
import Derived.ChangeMaps4
import Derived.Maps.OwnOps
import Derived.BigQuiet
import Derived.KernelRfl
import Derived.Maps.Keyed
import Derived.DeepKeys4
set_option linter.unusedVariables false
set_option linter.unusedSimpArgs false
namespace Go.Proofs.YtaecjmiobllhmaaGreat
open Go.RowKit
open Go.Maps (Keyed)
variable {Q:Exit→Act→World→Prop}{g':Nat}{ops:Array Oper}{z:Value}{seen:List Nat}{v0:Value}
section
theorem sI{k:IntKind}{a b:Int}(h:a=b):Ending.returned (.int k a)=.returned (.int k b):=by rw[h]
theorem af{a b:Bool}(h:a=b):Ending.returned (.bool a)=.returned (.bool b):=by rw[h]
structure aa(F:Nat→Prop)(w w':World):Prop where
 os:w'.os=w.os
 tape:w'.tape=w.tape
 output:w'.output=w.output
 size:w.heap.size≤w'.heap.size
 block:∀k,k<w.heap.size→¬F k→w'.heap[k]? =w.heap[k]?
def ag:Nat→Prop:=λ_=>False
section
variable {F F':Nat→Prop} {w w1 w2:World}
theorem aa.refl(F:Nat→Prop)(w:World):aa F w w:=⟨rfl,rfl,rfl,Nat.le_refl _,λ_ _ _=>rfl⟩
theorem aa.next(h:aa F w w1)(k:aa F' w1 w2)(hs:∀i,F' i→F i∨w.heap.size≤i):aa F w w2:=
 ⟨k.os.trans h.os,k.tape.trans h.tape,k.output.trans h.output,Nat.le_trans h.size k.size,λi hi hn=>
  (k.block i (Nat.lt_of_lt_of_le hi h.size) (λhf=>by
   rcases hs i hf with h1|h1
   ·exact hn h1
   ·omega)).trans (h.block i hi hn)⟩
theorem aa.trans(h:aa F w w1)(k:aa F w1 w2):aa F w w2:=h.next k λ_ hi=>.inl hi
theorem aa.mono(h:aa F w w1)(hs:∀i,F i→F' i):aa F' w w1:=
 ⟨h.os,h.tape,h.output,h.size,λi hi hn=>h.block i hi (λhf=>hn (hs i hf))⟩
theorem aa.nix(h:aa ag w w1):aa F w w1:=h.mono λ_ hf=>absurd hf id
theorem aa.more(h:aa F w w1)(k:aa ag w1 w2):aa F w w2:=h.next k λ_ hf=>absurd hf id
theorem aa.drew(h:aa F w w1):aa F w w1.drew:=⟨h.os,h.tape,h.output,h.size,h.block⟩
theorem aa.drewN(h:aa F w w1)(n:Nat):aa F w (w1.drewN n):=⟨h.os,h.tape,h.output,h.size,h.block⟩
theorem aa.alloc(h:aa F w w1)(o:Obj):aa F w (w1.alloc o):=
 h.more ⟨rfl,rfl,rfl,by simp,λi hi _=>Below.heap_alloc _ _ _ hi⟩
theorem aa.setCell(h:aa F w w1){p:Addr}(hp:F p.block∨w.heap.size≤p.block)(u:Value):aa F w (w1.setCell p u):=
 h.next (F':=λi=>i=p.block) ⟨rfl,rfl,rfl,by simp[World.setCell],λi _ hn=>Below.heap_setCell _ _ _ _ hn⟩ (λi hi=>by subst hi;exact hp)
theorem aa.setBlock(h:aa F w w1){b:Nat}(hp:F b∨w.heap.size≤b)(o:Obj):aa F w (ChangeMaps.setBlock w1 b o):=
 h.next (F':=λi=>i=b) ⟨rfl,rfl,rfl,by simp[ChangeMaps.setBlock],λi _ hn=>by
  simp only[ChangeMaps.setBlock];rw[Array.getElem?_setIfInBounds_ne (Ne.symm hn)]⟩ (λi hi=>by subst hi;exact hp)
theorem aa.grown{row:Option Nat}(h:aa F w w1)(hg:w1.grownBy w2 row)(hr:∀k,row=some k→F k∨w.heap.size≤k):aa F w w2:=
 h.next (F':=λi=>row=some i) ⟨hg.os,hg.tape,hg.output,hg.size,λi hi hn=>hg.block i hi (λe=>hn e.symm)⟩ hr
theorem aa.of_below(h:Below w.heap.size w w1):aa F w w1:=⟨h.os,h.tape,h.output,h.size,λi hi _=>h.block i hi⟩
theorem aa.below{B:Nat}(h:aa F w w1)(hF:∀i,F i→B≤i)(hB:B≤w.heap.size):Below B w w1:=
 ⟨h.os,h.tape,h.output,h.size,λi hi=>h.block i (by omega) (λhf=>by have:=hF i hf;omega)⟩
theorem aa.cell(h:aa F w w1){p:Addr}(hp:p.block<w.heap.size)(hn:¬F p.block):w1.cell? p=w.cell? p:=World.cell?_of_block (h.block _ hp hn)
theorem aa.frozen(h:aa F w w1){p:Addr}(hp:p.block<w.heap.size)(hn:¬F p.block):w1.frozen? p=w.frozen? p:=World.frozen?_of_block (h.block _ hp hn)
end
structure FW(C:World→Prop) where
 w:World
 h:C w
instance (F:Nat→Prop) (w:World):Nonempty (FW (aa F w)):=⟨⟨w,aa.refl F w⟩⟩
theorem ak{P:Program}(C:World→Prop){id:Nat}{a:Act}{w:World}{l:List Oper}(hC:C w.drew)(hm:P.follows .mixedOrders=true)(hB:Region.lexB .any l.toArray=true)
  (h:wpQuiet P l.toArray (λw'=>∃x:FW C,w'=x.w) (λa'=>∀w',(∃x:FW C,w'=x.w)→Q .normal a' w') l a):(Code.region id l.toArray true).wp P Q a w:=
 wp_region_quiet (C:=λw'=>∃x:FW C,w'=x.w) hm hB ⟨⟨_,hC⟩,rfl⟩ (by simpa using h)
theorem FW.call{P:Program}{f:FuncId}{args:Array Value}{C:World→Prop}(x:FW C){v:Value}{R:World→Prop}(h:Calls P f args x.w λe w'=>e=.returned v∧R w')(hR:∀w',R w'→C w'):
  Calls P f args x.w λe w''=>e=.returned v∧∃y:FW C,w''=y.w:=
 h.mono λ_ w' ⟨he,hr⟩=>⟨he,⟨w',hR w' hr⟩,rfl⟩
def aj(w:World)(g:Nat)(t:TypeId)(cs:Array Value):Prop:=w.heap[g]? =some (.cells cs t (0,0))
section
variable {w w1:World} {g:Nat} {t:TypeId} {cs:Array Value} {F:Nat→Prop}
theorem ed{w:World}{g:Nat}{o:Obj}(h:w.heap[g]? =some o):g<w.heap.size:=(Array.getElem?_eq_some_iff.1 h).1
theorem aj.lt(h:aj w g t cs):g<w.heap.size:=ed h
theorem aj.cell(h:aj w g t cs)(i:Nat):w.cell? ⟨g,i,none⟩=cs[i]?:=cell_of_row w g i cs t (0,0) h
theorem aj.frozen(h:aj w g t cs)(i:Nat):w.frozen? ⟨g,i,none⟩=false:=by
 unfold aj at h;simp[World.frozen?,h]
theorem aj.new(w:World)(t:TypeId)(cs:Array Value):aj (w.alloc (.cells cs t)) w.heap.size t cs:=heap_alloc_new w _
theorem aj.frm(h:aj w g t cs)(hf:aa F w w1)(hn:¬F g):aj w1 g t cs:=(hf.block g h.lt hn).trans h
theorem aj.alloc(h:aj w g t cs)(o:Obj):aj (w.alloc o) g t cs:=h.frm ((aa.refl ag w).alloc o) id
theorem aj.drew(h:aj w g t cs):aj w.drew g t cs:=h
theorem aj.set_(h:aj w g t cs)(i:Nat)(u:Value):aj (w.setCell ⟨g,i,none⟩ u) g t (cs.setIfInBounds i u):=by
 unfold aj at h ⊢;simp[World.setCell,Array.getElem?_modify,h]
theorem aj.far(h:aj w g t cs){p:Addr}(hp:g≠p.block)(u:Value):aj (w.setCell p u) g t cs:=(Below.heap_setCell w p u g hp).trans h
theorem aj.ne_{t':TypeId}{cs':Array Value}(h:aj w g t cs)(h':aj w g' t' cs')(hne:t≠t'):g≠g':=by
 rintro rfl;unfold aj at h h';rw[h] at h';injection h' with h';injection h' with _ ht;exact hne ht
theorem aj.ne_obj{o:Obj}(h:aj w g t cs)(h':w.heap[g']? =some o)(hne:∀c e f,o≠.cells c e f):g≠g':=by
 rintro rfl;unfold aj at h;rw[h] at h';injection h' with h';exact hne _ _ _ h'.symm
end
theorem cq(a:Addr)(n:Nat):(a.add n).block=a.block:=by unfold Addr.add;split<;>rfl
theorem vx(a:Addr)(i j:Nat):(a.add i).add j=a.add (i+j):=by
 unfold Addr.add
 by_cases hi:i=0<;>by_cases hj:j=0<;>simp[hi,hj,Nat.add_assoc]
def Rd(w:World)(G:Nat→Prop)(size:Nat)(A:Option Addr)(n:Nat)(xs:List Value):Prop:=
 xs.length=n * size∧(0<n→∃ad,A=some ad∧G ad.block∧ad.block<w.heap.size∧∀j u,xs[j]? =some u→w.cell? (ad.add j)=some u)
section
variable {w w1:World} {G F:Nat→Prop} {size n:Nat} {A:Option Addr} {xs:List Value}
theorem Rd.none_:Rd w G size A 0 []:=⟨by simp,λh=>absurd h (by omega)⟩
theorem Rd.frm(h:Rd w G size A n xs)(hf:aa F w w1)(hd:∀k,G k→¬F k):Rd w1 G size A n xs:=
 ⟨h.1,λhn=>by
  obtain⟨ad,e,hg,hl,hc⟩:=h.2 hn;exact⟨ad,e,hg,Nat.lt_of_lt_of_le hl hf.size,λj u hu=>(hf.cell (by rw[cq];exact hl) (by rw[cq];exact hd _ hg)).trans (hc j u hu)⟩⟩
theorem Rd.mono{G':Nat→Prop}(h:Rd w G size A n xs)(hs:∀k,G k→G' k):Rd w G' size A n xs:=
 ⟨h.1,λhn=>by
  obtain⟨ad,e,hg,hl,hc⟩:=h.2 hn;exact⟨ad,e,hs _ hg,hl,hc⟩⟩
theorem Rd.at_{k:Nat}(h:Rd w G 1 A n xs)(hk:k<n):∃ad u,A=some ad∧G ad.block∧ad.block<w.heap.size∧xs[k]? =some u∧w.cell? (ad.add k)=some u:=by
 obtain⟨ad,e,hg,hl,hc⟩:=h.2 (by omega);have hx:k<xs.length:=by have:=h.1;omega
 exact⟨ad,xs[k],e,hg,hl,List.getElem?_eq_getElem hx,hc k _ (List.getElem?_eq_getElem hx)⟩
theorem Rd.cut(h:Rd w G size A n xs){k cap:Nat}(hk:k≤n)(hc:n≤cap):
  Rd w G size (if cap=k then A else A.map (·.add (k * size))) (n-k) (xs.drop (k * size)):=by
 refine⟨by rw[List.length_drop,h.1,Nat.sub_mul],λhn=>?_⟩;obtain⟨ad,rfl,hg,hl,hcell⟩:=h.2 (by omega);rw[if_neg (by omega)];refine⟨ad.add (k * size),rfl,by rw[cq];exact hg,by rw[cq];exact hl,λj u hu=>?_⟩;rw[vx];exact hcell _ u (by rw[←hu,List.getElem?_drop])
theorem Rd.take(h:Rd w G size A n xs){k:Nat}(hk:k≤n):Rd w G size A k (xs.take (k * size)):=by
 have h1:=h.1;refine⟨by rw[List.length_take,h1];exact Nat.min_eq_left (Nat.mul_le_mul_right _ hk),λhn=>?_⟩;obtain⟨ad,e,hg,hl,hc⟩:=h.2 (by omega);refine⟨ad,e,hg,hl,λj u hu=>hc j u ?_⟩;rw[List.getElem?_take] at hu;split at hu
 ·exact hu
 ·cases hu
theorem Rd.of_obj{g:Nat}{cs:Array Value}{t:TypeId}{fr:Nat×Nat}(h:w.heap[g]? =some (.cells cs t fr))(n:Nat)(hn:cs.toList.length=n * size):Rd w (λk=>k=g) size (some ⟨g,0,none⟩) n cs.toList:=
 ⟨hn,λ_=>⟨_,rfl,rfl,ed h,World.news_of_block h⟩⟩
theorem Rd.of_own{base:Nat}{e:TypeId}{c:Nat}(h:w.ownsRow base e size (.slice A n c) n xs):Rd w (λk=>(Value.slice A n c).ownBlock=some k) size A n xs:=by
 refine⟨h.1,λhn=>?_⟩;obtain⟨g,cap,hv,_,hlt⟩:=h.form hn;have hA:A=some ⟨g,0,none⟩:=by injection hv
 subst hA;exact⟨_,rfl,rfl,hlt,h.cells (g:=g) rfl⟩
end
section
variable {w w1:World} {F:Nat→Prop} {base size n:Nat} {e:TypeId} {v:Value} {xs:List Value}
theorem vd(h:w.ownsRow base e size v n xs)(hf:aa F w w1)(hd:∀k,v.ownBlock=some k→¬F k):w1.ownsRow base e size v n xs:=by
 obtain⟨h1,h2⟩:=h;refine⟨h1,?_⟩;rcases h2 with h2|⟨g,cap,cur,hv,hg,hh,r⟩
 ·exact .inl h2
 ·exact .inr ⟨g,cap,cur,hv,hg,(hf.block g (ed hh) (hd g (by subst hv;rfl))).trans hh,r⟩
theorem pL{base':Nat}(h:w.ownsRow base e size v n xs)(hb:∀k,v.ownBlock=some k→base'≤k):w.ownsRow base' e size v n xs:=by
 obtain⟨h1,h2⟩:=h;refine⟨h1,?_⟩;rcases h2 with h2|⟨g,cap,cur,hv,hg,hh,r⟩
 ·exact .inl h2
 ·exact .inr ⟨g,cap,cur,hv,hb g (by subst hv;rfl),hh,r⟩
theorem tR(h:w.ownsRow base e size v n xs):∃A c,v=.slice A n c∧(A=none→c=0)∧n≤c∧c≤maxLen∧(∀a,A=some a→a.off=0∧a.spot=none∧base≤a.block∧a.block<w.heap.size):=by
 rcases h.2 with ⟨rfl,rfl⟩|⟨g,cap,cur,rfl,hg,hh,hn,hm,_⟩
 ·exact⟨none,0,rfl,λ_=>rfl,Nat.le_refl _,Nat.zero_le _,λa ha=>by cases ha⟩
 ·refine⟨_,cap,rfl,(λh=>by cases h),hn,hm,λa ha=>?_⟩
  injection ha with ha;subst ha;exact⟨rfl,rfl,hg,ed hh⟩
theorem rX{g:Nat}{t:TypeId}{cs:Array Value}(h:w.ownsRow base e size v n xs)(hg:aj w g t cs)(hne:e≠t):v.ownBlock≠some g:=by
 rcases h.2 with ⟨rfl,_⟩|⟨g',cap,cur,rfl,_,hh,_⟩
 ·simp[Value.ownBlock]
 ·intro he
  have:g'=g:=by simpa [Value.ownBlock] using he
  subst this;exact aj.ne_ (t:=e) hh hg hne rfl
end
section
variable {P:Program} (w:World)
theorem sJ(base:Nat)(t ty e:TypeId)(i:TypeInfo)(size:Nat)(ht:P.underlying t=some (.slice e))(hi:P.info? e=some i)
  (v:Value) (n:Nat) (xs:List Value) (hown:w.ownsRow base e size v n xs) (c:Nat):(Builtin.append_ #[t,t] ty #[v,.slice none 0 c]).run P w=.ok v w:=by
 rcases hown.2 with ⟨rfl,rfl⟩|⟨g,cap,cur,rfl,_,_,Ci,_⟩
 ·simp[Builtin.append_,run_underlying ht,sizeOf,typeInfo,hi,Builtin.lenOf,Builtin.firstCells]
 ·simp[Builtin.append_,run_underlying ht,sizeOf,typeInfo,hi,Builtin.lenOf,Builtin.firstCells,Ci,storeCells]
theorem qO(base:Nat)(t e:TypeId)(i:TypeInfo)(z:Value)(size bytes:Nat)(ht:P.underlying t=some (.slice e))(hi:P.info? e=some i)(hz:i.zero=some z)
  (hsize:i.size=size) (hby:i.bytes=bytes) (hzs:z.cells.size=size) (hsz:0<size)
  (v:Value) (n:Nat) (xs:List Value) (hown:w.ownsRow base e size v n xs)
  (G:Nat→Prop) (A:Option Addr) (m c:Nat) (news:List Value) (hr:Rd w G size A m news) (h1:∀u∈news,u.oneCell'=true)
  (h63:n+m≤maxLen) (hbytes:(n+m) * bytes≤140737488355328) (hbase:base≤w.heap.size):
  ∃v' w',(∀ty,(Builtin.append_ #[t,t] ty #[v,.slice A m c]).run P w=.ok v' w')∧w'.ownsRow base e size v' (n+m) (xs++news)∧w.grownBy w' v.ownBlock∧
    (v'.ownBlock=v.ownBlock∨v'.ownBlock=some w.heap.size):=by
 rcases A with _|ad
 ·have hm:m=0:=by
   rcases Nat.eq_zero_or_pos m with h0|h0
   ·exact h0
   ·obtain⟨ad,h,_⟩:=hr.2 h0
    cases h
  subst hm;have hn:news=[]:=List.eq_nil_of_length_eq_zero (by simpa using hr.1);subst hn;exact⟨v,w,λty=>sJ w base t ty e i size ht hi v n xs hown c,by simpa using hown,World.grownBy.refl w _,.inl rfl⟩
 ·have LG:∀j u,news[j]? =some u→w.cell? (ad.add j)=some u:=by
   intro j u hu;rcases Nat.eq_zero_or_pos m with h0|h0
   ·subst h0
    have hn:news=[]:=List.eq_nil_of_length_eq_zero (by simpa using hr.1);subst hn;simp at hu
   ·obtain⟨ad',h,_,_,hc⟩:=hr.2 h0
    injection h with h;subst h;exact hc j u hu
  obtain⟨v',w',hrun,h2,h3,_,h5⟩:=run_append_own_at (P:=P) w base t 0 e i z size bytes ht hi hz hsize hby hzs hsz v n xs hown ad m c news hr.1 LG h1 h63 hbytes hbase;exact⟨v',w',λ_=>hrun,h2,h3,h5⟩
theorem aq{P:Program}{w w':World}{v u v':Value}{t:TypeId}(hrun:∀ty,(Builtin.append_ #[t,t] ty #[v,u]).run P w=.ok v' w')
 {rest:List Oper} {o:Oper} {a:Act} (hgd:o.guard=none) (s x:Operand)
  (ho:o.op=.call {callee:=.builtin .append,args:=#[s,x],argTypes:=#[t,t]}) (hs:a.eval s=v) (hx:a.eval x=u)
  (h:wpList P ops Q rest (a.put o.dst v') w'):wpList P ops Q (o::rest) a w:=
 wpList_plain hgd λ_ hK=>by
  unfold Oper.wp execOp;simp only[ho,resolve,invoke,builtin,Sem.run_bind,Sem.run_pure,Result.andThen_ok,List.map_toArray,List.map_cons,List.map_nil,hs,hx,hrun];exact hK _ _ h
end
theorem iC{P:Program}{w w':World}{v u v':Value}{t:TypeId}(hrun:∀ty,(Builtin.append_ #[t,t] ty #[v,u]).run P w=.ok v' w')
 {o:Oper} {a:Act} {K:Act→World→Prop} {E:Prop} (hgd:o.guard=none) (s x:Operand)
  (ho:o.op=.call {callee:=.builtin .append,args:=#[s,x],argTypes:=#[t,t]}) (hs:a.eval s=v) (hx:a.eval x=u)
  (h:K (a.put o.dst v') w'):if Region.wanted o (yielded ops a.tmps)=true then Oper.wp P o a w K Q else E:=by
 have hw:Region.wanted o (yielded ops a.tmps)=true:=by simp[Region.wanted,hgd]
 rw[if_pos hw];unfold Oper.wp execOp;simp only[ho,resolve,invoke,builtin,Sem.run_bind,Sem.run_pure,Result.andThen_ok,List.map_toArray,List.map_cons,List.map_nil,hs,hx,hrun];exact h
theorem cu{P:Program}{w w':World}{v u:Value}{t t2:TypeId}(hrun:∀ty,(Builtin.delete_ #[t,t2] ty #[v,u]).run P w=.ok (.tuple #[]) w')
 {rest:List Oper} {o:Oper} {a:Act} (hgd:o.guard=none) (s x:Operand)
  (ho:o.op=.call {callee:=.builtin .delete,args:=#[s,x],argTypes:=#[t,t2]}) (hs:a.eval s=v) (hx:a.eval x=u)
  (h:wpList P ops Q rest (a.put o.dst (.tuple #[])) w'):wpList P ops Q (o::rest) a w:=
 wpList_plain hgd λ_ hK=>by
  unfold Oper.wp execOp;simp only[ho,resolve,invoke,builtin,Sem.run_bind,Sem.run_pure,Result.andThen_ok,List.map_toArray,List.map_cons,List.map_nil,hs,hx,hrun];exact hK _ _ h
theorem aQ{P:Program}{w w':World}{vm vk vv:Value}{t:TypeId}(hrun:(Instr.mapUpdate t vm vk vv).run P w=.ok () w')
 {rest:List Oper} {o:Oper} {a:Act} (hgd:o.guard=none) (m x v:Operand)
  (ho:o.op=.mapUpdate t m x v) (hm:a.eval m=vm) (hx:a.eval x=vk) (hv:a.eval v=vv)
  (h:wpList P ops Q rest (a.put o.dst undef) w'):wpList P ops Q (o::rest) a w:=
 wpList_plain hgd λ_ hK=>by
  unfold Oper.wp;simp[execOp,ho,hm,hx,hv,hrun,Result.andThen];exact hK _ _ h
structure oq where
 key:ByteArray
 val:Value
 born:Nat
def oq.me(e:oq):MapEntry:=⟨.string e.key,e.val,e.born⟩
def mH(w:World)(m:Nat)(l:List oq)(clock:Nat):Prop:=w.heap[m]? =some (.map (l.map oq.me).toArray clock)
def zW(s:ByteArray):List oq→List oq
 | []=>[]
 | e::r=>if e.key=s then r else e::zW s r
def zX(s:ByteArray)(l:List oq):Bool:=l.any λe=>e.key=s
def vy(s:ByteArray)(z:Value):List oq→Value
 | []=>z
 | e::r=>if e.key=s then e.val else vy s z r
section
variable {P:Program} {w w1:World} {m t k e:TypeId} {l:List oq} {clock:Nat} {F:Nat→Prop}
theorem mH.lt(h:mH w m l clock):m<w.heap.size:=ed h
theorem mH.frm(h:mH w m l clock)(hf:aa F w w1)(hn:¬F m):mH w1 m l clock:=(hf.block m h.lt hn).trans h
theorem mH.ne_blk{g:Nat}{t:TypeId}{cs:Array Value}(h:mH w m l clock)(hb:aj w g t cs):g≠m:=hb.ne_obj h (λ_ _ _ h=>by cases h)
theorem uq(s:ByteArray):∀(l:List oq) (i:Nat),Instr.findNow .string (.string s) (l.map oq.me) i=some (match l.findIdx? (λe=>e.key=s) with|some j=>some (i+j,vy s undef l)|none=>none)
 | [],i=>rfl
 | e::r,i=>by
   simp only[List.map_cons,Instr.findNow,oq.me,Instr.sameNow,List.findIdx?_cons]
   by_cases h:s=e.key
   ·subst h
    rw[(MapKept.bytes_beq e.key e.key).2 rfl];simp[vy]
   ·have h':¬e.key=s:=λe1=>h e1.symm
    rw[show (s==e.key)=false from Bool.eq_false_iff.2 λhb=>h ((MapKept.bytes_beq _ _).1 hb)];simp only[h',decide_false];rw[uq s r (i+1)]
    cases hr:r.findIdx? (λe=>e.key=s) with
    | none=>simp
    | some j=>simp[vy,h'];omega
theorem vz(s:ByteArray)(z z':Value):∀(l:List oq),zX s l=true→vy s z l=vy s z' l
 | [],h=>by simp[zX] at h
 | e::r,h=>by
   unfold vy
   by_cases he:e.key=s
   ·simp[he]
   ·simp only[he,if_false]
    exact vz s z z' r (by simpa [zX,he] using h)
theorem xF(s:ByteArray)(z:Value):∀(l:List oq),zX s l=false→vy s z l=z
 | [],_=>rfl
 | e::r,h=>by
   unfold vy
   by_cases he:e.key=s
   ·simp[zX,he] at h
   ·simp only[he,if_false]
    exact xF s z r (by simpa [zX,he] using h)
theorem qE(hk:P.underlying k=some .string)(s:ByteArray)(l:List oq):
  (Instr.findKey k (.string s) (l.map oq.me)).run P w=.ok (match l.findIdx? (λe=>e.key=s) with|some j=>some (j,vy s undef l)|none=>none) w:=by
 simp only[Instr.findKey,Sem.run_bind,run_underlying hk,Result.andThen_ok,uq,Nat.zero_add];rfl
theorem kD(hk:P.underlying k=some .string)(s:ByteArray)(em:Bool):(Instr.checkKey em 10000 k (.string s)).run P w=.ok () w:=
 MapKept.run_checkKey hk (by simp[MapKept.IsKey]) em 9999
theorem sK(s:ByteArray)(l:List oq):zX s l=(l.findIdx? (λe=>e.key=s)).isSome:=by
 simp[zX]
theorem mH.lookup(h:mH w m l clock)(ht:P.underlying t=some (.map k e))(hk:P.underlying k=some .string)(s:ByteArray)(hz:(zeroValue e).run P w=.ok z w):
  (Instr.lookup t (.map (some m)) (.string s) false).run P w=.ok (vy s z l) w:=by
 have hf:=qE (P:=P) (w:=w) hk s l
 cases hi:l.findIdx? (λe=>e.key=s) with
 | none=>
   rw[hi] at hf;have hv:=xF s z l (by rw[sK,hi];rfl)
   simp[Instr.lookup,run_underlying ht,MapKept.run_getObj_map h,kD hk,hf,hz,hv]
 | some j=>
   rw[hi] at hf;have hv:=vz s undef z l (by rw[sK,hi];rfl);simp[Instr.lookup,run_underlying ht,MapKept.run_getObj_map h,kD hk,hf,hv]
theorem mH.len(h:mH w m l clock)(ht:P.underlying t=some (.map k e))(ty:TypeId):(Builtin.len_ #[t] ty #[.map (some m)]).run P w=.ok (.int .i64 l.length) w:=by
 simp[Builtin.len_,run_underlying ht,MapKept.run_getObj_map h,goInt]
theorem xG(s:ByteArray):∀l:List oq,l.findIdx? (λe=>e.key=s)=none→zW s l=l
 | [],_=>rfl
 | e::r,h=>by
   rw[List.findIdx?_cons] at h
   by_cases he:e.key=s
   ·simp[he] at h
   ·simp only[he,decide_false,Bool.false_eq_true,if_false,Option.map_eq_none_iff] at h
    simp[zW,he,xG s r h]
theorem xH(s:ByteArray):∀(l:List oq) (j:Nat),l.findIdx? (λe=>e.key=s)=some j→j<l.length∧(zW s l).map oq.me=(l.map oq.me).eraseIdx j
 | [],_,h=>by simp at h
 | e::r,j,h=>by
   rw[List.findIdx?_cons] at h
   by_cases he:e.key=s
   ·simp only[he,decide_true,if_true,Option.some.injEq] at h
    subst h;simp[zW,he]
   ·simp only[he,decide_false,Bool.false_eq_true,if_false,Option.map_eq_some_iff] at h
    obtain⟨i,hi,rfl⟩:=h;obtain⟨h0,h1⟩:=xH s r i hi;exact⟨by simpa using h0,by simp[zW,he,h1]⟩
theorem mH.put(h:mH w m l clock)(l':List oq)(clock':Nat):mH (ChangeMaps.setBlock w m (.map (l'.map oq.me).toArray clock')) m l' clock':=by
 have:=h.lt;simp[mH,ChangeMaps.setBlock,this]
theorem mH.delete(h:mH w m l clock)(ht:P.underlying t=some (.map k e))(hk:P.underlying k=some .string)(s:ByteArray)(t2:TypeId):
  ∃w',(∀ty,(Builtin.delete_ #[t,t2] ty #[.map (some m),.string s]).run P w=.ok (.tuple #[]) w')∧mH w' m (zW s l) clock∧aa (·=m) w w':=by
 have hf:=qE (P:=P) (w:=w) hk s l;refine⟨ChangeMaps.setBlock w m (.map ((zW s l).map oq.me).toArray clock),λty=>?_,h.put _ _,(aa.refl (λi=>i=m) w).setBlock (.inl rfl) _⟩
 cases hi:l.findIdx? (λe=>e.key=s) with
 | none=>
   rw[hi] at hf;rw[xG s l hi]
   simp[Builtin.delete_,run_underlying ht,MapKept.run_getObj_map h,kD hk,hf,MapKept.run_setObj_map _ h,ChangeMaps.setBlock]
 | some j=>
   rw[hi] at hf;obtain⟨_,h1⟩:=xH s l j hi;rw[h1];simp[Builtin.delete_,run_underlying ht,MapKept.run_getObj_map h,kD hk,hf,MapKept.run_setObj_map _ h,ChangeMaps.setBlock]
def kL(w:World)(r m clock:Nat)(seen:List Nat):Prop:=w.heap[r]? =some (.mapIter (some m) clock seen.toArray clock)
theorem kL.lt{r:Nat}(h:kL w r m clock seen):r<w.heap.size:=ed h
theorem kL.frm{r:Nat}(h:kL w r m clock seen)(hf:aa F w w1)(hn:¬F r):kL w1 r m clock seen:=(hf.block r h.lt hn).trans h
theorem kL.ne_blk{r g:Nat}{t:TypeId}{cs:Array Value}(h:kL w r m clock seen)(hb:aj w g t cs):g≠r:=hb.ne_obj h (λ_ _ _ h=>by cases h)
theorem mH.range(h:mH w m l clock)(ht:P.underlying t=some (.map k e)):
  (Instr.range t (.map (some m))).run P w=.ok (.pointer (some ⟨w.heap.size,0,none⟩)) (w.alloc (.mapIter (some m) clock #[] clock)):=by
 simp[Instr.range,run_underlying ht,MapKept.run_getObj_map h,newObj,Sem.run]
theorem mU{r:Nat}(h:kL w r m clock seen):(getObj r).run P w=.ok (.mapIter (some m) clock seen.toArray clock) w:=by
 unfold kL at h;simp[getObj,Sem.run,h]
def kQ(seen:List Nat)(l:List oq):List oq:=l.filter λe=>!seen.contains e.born
theorem zY(seen:List Nat)(l:List oq):(l.map oq.me).toArray.filter (λe=>!seen.toArray.contains e.born)=((kQ seen l).map oq.me).toArray:=by
 simp[kQ,List.filter_map,Function.comp_def];rfl
theorem I7(clock:Nat)(l:List oq)(hb:∀e∈l,e.born<clock):((l.map oq.me).toArray.filter λe=>decide (e.born<clock))=(l.map oq.me).toArray:=by
 simp[List.filter_map]
 congr 1
 exact List.filter_eq_self.2 λe he=>decide_eq_true (hb e he)
theorem I8(clock:Nat)(l:List oq)(hb:∀e∈l,e.born<clock):((l.map oq.me).toArray.filter λe=>decide (e.born≥clock))=#[]:=by
 simp;exact λe he=>hb e he
theorem D7(clock:Nat)(l:List oq)(hb:∀e∈l,e.born<clock):(!(l.map oq.me).toArray.isEmpty&&(l.map oq.me).toArray.all λe=>decide (e.born≥clock))=false:=by
 cases l with
 | nil=>rfl
 | cons e r=>
   have:=hb e (by simp);have h:¬clock≤e.me.born:=by show ¬clock≤e.born;omega
   simp[h]
theorem mH.next_over{r:Nat}(h:mH w m l clock)(hi:kL w r m clock seen)(hb:∀e∈l,e.born<clock)(hl:kQ seen l=[])(ty:TypeId):
  (Instr.next (.pointer (some ⟨r,0,none⟩)) false ty).run P w=.ok (.tuple #[.bool false]) w:=by
 have e1:(kQ seen l).map oq.me=[]:=by rw[hl];rfl
 have hall:=D7 clock l hb;simp only[Instr.next,Sem.run_bind,mU hi,Result.andThen_ok,MapKept.run_getObj_map h,Bool.and_assoc,hall,Bool.and_false];rw[zY,e1];simp[choose,Sem.run,Question.forced]
theorem xd(n:Nat)(hn:0<n):∃(i d:Nat),i<n∧(choose (.mapNext n)).run P w=.ok i (w.drewN d):=by
 by_cases h1:n≤1
 ·exact⟨0,0,hn,by simp[choose,Sem.run,Question.forced,h1,World.drewN_zero]⟩
 ·exact⟨w.tape w.drawn (.mapNext n) % n,1,Nat.mod_lt _ hn,by simp[choose,Sem.run,Question.forced,h1,Question.cut];rfl⟩
theorem uN{r:Nat}(o:Obj)(h:kL w r m clock seen)(d:Nat):(setObj r o).run P (w.drewN d)=.ok () (ChangeMaps.setBlock (w.drewN d) r o):=by
 unfold kL at h;simp[setObj,Sem.run,h,ChangeMaps.setBlock]
theorem mH.next_some{r:Nat}(h:mH w m l clock)(hi:kL w r m clock seen)(hb:∀e∈l,e.born<clock)(hl:kQ seen l≠[]):
  ∃e w',e∈kQ seen l∧(∀ty,(Instr.next (.pointer (some ⟨r,0,none⟩)) false ty).run P w=.ok (.tuple #[.bool true,.string e.key,e.val]) w')∧kL w' r m clock (seen++[e.born])∧aa (·=r) w w':=by
 have hall:=D7 clock l hb;have hb':∀e∈kQ seen l,e.born<clock:=λe he=>hb e (List.mem_filter.1 he).1
 have LH:0<(kQ seen l).length:=by
  rcases hx:kQ seen l with _|⟨a,b⟩
  ·exact absurd hx hl
  ·simp
 obtain⟨i,d,hlt,hch⟩:=xd (P:=P) (w:=w) (kQ seen l).length LH;have hge:(kQ seen l)[i]? =some (kQ seen l)[i]:=List.getElem?_eq_getElem hlt;refine⟨(kQ seen l)[i],ChangeMaps.setBlock (w.drewN d) r (.mapIter (some m) clock (seen.toArray.push (kQ seen l)[i].born) clock),List.getElem_mem hlt,?_,?_,((aa.refl (λi=>i=r) w).drewN d).setBlock (.inl rfl) _⟩
 ·intro ty
  have Gx:((if ((kQ seen l).map oq.me).toArray.isEmpty then #[none] else #[])++(((kQ seen l).map oq.me).toArray++(#[]:Array MapEntry)).map some:Array (Option MapEntry))=((kQ seen l).map (λe=>some e.me)).toArray:=by
   have:((kQ seen l).map oq.me).toArray.isEmpty=false:=by
    rcases hx:kQ seen l with _|⟨a,b⟩
    ·exact absurd hx hl
    ·rfl
   rw[this];simp
  simp only[Instr.next,Sem.run_bind,mU hi,Result.andThen_ok,MapKept.run_getObj_map h,Bool.and_assoc,hall,Bool.and_false];rw[zY,I7 clock _ hb',I8 clock _ hb',Gx];simp only[List.size_toArray,List.length_map];simp only[Bool.false_eq_true,if_false,Result.andThen_ok,Sem.run_bind,hch]
  have hg:((kQ seen l).map (λe=>some e.me)).toArray[i]? =some (some (kQ seen l)[i].me):=by
   simp[hge]
  rw[hg];simp only[Sem.run_bind,uN _ hi,Result.andThen_ok];rfl
 ·have:=hi.lt
  simp[kL,ChangeMaps.setBlock,this]
theorem mH.entry{r:Nat}{e1:oq}(h:mH w m l clock)(hi:kL w r m clock (seen++[e1.born]))(he:e1∈l)(hn:(l.map (·.born)).Nodup):
  (Instr.entry (.pointer (some ⟨r,0,none⟩))).run P w=.ok (.tuple #[.string e1.key,e1.val]) w:=by
 have Gy:(l.map oq.me).toArray.find? (λx=>x.born==e1.born)=some e1.me:=by
  clear h hi
  induction l with
  | nil=>cases he
  | cons a r ih=>
    simp only[List.map_cons,List.nodup_cons] at hn;rcases List.mem_cons.1 he with rfl|he
    ·simp[oq.me]
    ·have hne:a.born≠e1.born:=λe=>hn.1 (by rw[e];exact List.mem_map.2 ⟨e1,he,rfl⟩)
     have:=ih he hn.2;simp only[List.find?_toArray,List.map_cons] at this ⊢;rw[List.find?_cons_of_neg (by simpa [oq.me] using hne)];exact this
 simp only[Instr.entry,Sem.run_bind,mU hi,Result.andThen_ok];simp[MapKept.run_getObj_map h,Gy,oq.me]
end
theorem fR(w:World):aa ag w w:=aa.refl ag w
theorem h_{p:Prop}(h:p):Hid p:=Lib.hid h
end
section
structure GE where
 key:Value
 val:Value
 born:Nat
def GE.me(e:GE):MapEntry:=⟨e.key,e.val,e.born⟩
def GE.kv(e:GE):Value×Value:=(e.key,e.val)
def lF(w:World)(m:Nat)(R:List GE)(clock:Nat):Prop:=w.heap[m]? =some (.map (R.map GE.me).toArray clock)
def D8(P:Program)(k:TypeId)(x:Value):Prop:=∃l,keyOf P k x=some l
structure K7(P:Program)(k:TypeId)(R:List GE)(clock:Nat):Prop where
 born:∀e∈R,e.born<clock
 borns:(R.map (·.born)).Nodup
 keys:(R.map (·.key)).Nodup
 isK:∀e∈R,D8 P k e.key
def aO(P:Program)(k:TypeId)(w:World)(m:Nat)(L:List (Value×Value)):Prop:=∃R clock,lF w m R clock∧K7 P k R clock∧(R.map GE.kv).Perm L
theorem sM{x a b:Value}:∀{L:List (Value×Value)},(L.map (·.1)).Nodup→(x,a)∈L→(x,b)∈L→a=b
 | [],_,ha,_=>by cases ha
 | p::r,h,ha,hb=>by
   simp only[List.map_cons,List.nodup_cons] at h;rcases List.mem_cons.1 ha with ha|ha
   ·rcases List.mem_cons.1 hb with hb|hb
    ·rw[←ha] at hb
     exact(congrArg (·.2) hb).symm
    ·have:=List.mem_map_of_mem (f:=λy:Value×Value=>y.1) hb
     rw[←ha] at h;exact absurd this h.1
   ·rcases List.mem_cons.1 hb with hb|hb
    ·have:=List.mem_map_of_mem (f:=λy:Value×Value=>y.1) ha
     rw[←hb] at h;exact absurd this h.1
    ·exact sM h.2 ha hb
theorem vB{α:Type}(f:α→α)(a:α)(B:List α):∀A:List α,(A++a::B).modify A.length f=A++f a::B
 | []=>by simp
 | x::A=>by simp[vB f a B A]
theorem tS{α:Type}(a:α)(B:List α):∀A:List α,(A++a::B).eraseIdx A.length=A++B
 | []=>by simp
 | x::A=>by simp[tS a B A]
section
variable {P:Program} {w w1:World} {m r t k et:TypeId} {R:List GE} {clock:Nat} {F:Nat→Prop} {L L':List (Value×Value)} {x v:Value}
theorem lF.lt(h:lF w m R clock):m<w.heap.size:=ed h
theorem lF.frm(h:lF w m R clock)(hf:aa F w w1)(hn:¬F m):lF w1 m R clock:=(hf.block m h.lt hn).trans h
theorem lF.ne_blk{g:Nat}{t:TypeId}{cs:Array Value}(h:lF w m R clock)(hb:aj w g t cs):g≠m:=hb.ne_obj h (λ_ _ _ h=>by cases h)
theorem lF.put(h:lF w m R clock)(R':List GE)(clock':Nat):lF (ChangeMaps.setBlock w m (.map (R'.map GE.me).toArray clock')) m R' clock':=by
 have:=h.lt;simp[lF,ChangeMaps.setBlock,this]
theorem aO.lt(h:aO P k w m L):m<w.heap.size:=by
 obtain⟨R,clock,h,-⟩:=h;exact h.lt
theorem aO.frm(h:aO P k w m L)(hf:aa F w w1)(hn:¬F m):aO P k w1 m L:=by
 obtain⟨R,clock,h,h2⟩:=h;exact⟨R,clock,h.frm hf hn,h2⟩
theorem aO.ne_blk{g:Nat}{t:TypeId}{cs:Array Value}(h:aO P k w m L)(hb:aj w g t cs):g≠m:=by
 obtain⟨R,clock,h,h2⟩:=h;exact h.ne_blk hb
theorem aO.perm(h:aO P k w m L)(hp:L.Perm L'):aO P k w m L':=by
 obtain⟨R,clock,h,h2,h3⟩:=h;exact⟨R,clock,h,h2,h3.trans hp⟩
theorem aO.keys(h:aO P k w m L):(L.map (·.1)).Nodup:=by
 obtain⟨R,clock,h,h2,h3⟩:=h;have h4:=h2.keys;have e:R.map (·.key)=(R.map GE.kv).map (·.1):=by simp[GE.kv,Function.comp_def]
 rw[e] at h4;exact(h3.map (·.1)).nodup_iff.1 h4
theorem aO.isK(h:aO P k w m L):∀p∈L,D8 P k p.1:=by
 obtain⟨R,clock,h,h2,h3⟩:=h;intro p hp;obtain⟨e,he,rfl⟩:=List.mem_map.1 (h3.mem_iff.2 hp);exact h2.isK e he
theorem K7.find(K:Keyed P k)(h:K7 P k R clock)(hx:D8 P k x):
  ((Instr.findKey k x (R.map GE.me)).run P w=.ok none w∧∀e∈R,e.key≠x)∨∃j e,(Instr.findKey k x (R.map GE.me)).run P w=.ok (some (j,e.val)) w∧R[j]? =some e∧e.key=x:=by
 obtain⟨lx,hx⟩:=hx
 rcases K.find w hx (R.map GE.me) (λe he=>by
  obtain⟨a,ha,rfl⟩:=List.mem_map.1 he;exact h.isK a ha) with ⟨h1,h2⟩|⟨j,e,h1,h2,h3⟩
 ·exact .inl ⟨h1,λe he=>h2 e.me (List.mem_map.2 ⟨e,he,rfl⟩)⟩
 ·rw[List.getElem?_map] at h2
  obtain⟨a,ha,rfl⟩:=Option.map_eq_some_iff.1 h2;exact .inr ⟨j,a,h1,ha,h3⟩
theorem nz(K:Keyed P k)(hx:D8 P k x)(em:Bool):(Instr.checkKey em 10000 k x).run P w=.ok () w:=by
 obtain⟨lx,hx⟩:=hx;exact K.check w em hx
theorem aO.lookup_yes(K:Keyed P k)(h:aO P k w m L)(ht:P.underlying t=some (.map k et))(hm:(x,v)∈L)(ok:Bool):
  (Instr.lookup t (.map (some m)) x ok).run P w=.ok (if ok=true then .tuple #[v,.bool true] else v) w:=by
 have hx:=h.isK _ hm;have hk:=h.keys;obtain⟨R,clock,h1,h2,h3⟩:=h;rcases h2.find K hx (w:=w) with ⟨-,hn⟩|⟨j,e,hf,hj,he⟩
 ·obtain⟨e,he,hev⟩:=List.mem_map.1 (h3.mem_iff.2 hm)
  exact absurd (congrArg (·.1) hev) (hn e he)
 ·have hv:e.val=v:=by
   have m1:(e.key,e.val)∈L:=h3.mem_iff.1 (List.mem_map.2 ⟨e,List.mem_of_getElem? hj,rfl⟩);rw[he] at m1;exact sM hk m1 hm
  simp[Instr.lookup,run_underlying ht,MapKept.run_getObj_map h1,nz K hx,hf,hv]
theorem aO.lookup_no(K:Keyed P k)(h:aO P k w m L)(ht:P.underlying t=some (.map k et))(hx:D8 P k x)(hn:∀p∈L,p.1≠x)(hz:(zeroValue et).run P w=.ok z w)(ok:Bool):
  (Instr.lookup t (.map (some m)) x ok).run P w=.ok (if ok=true then .tuple #[z,.bool false] else z) w:=by
 obtain⟨R,clock,h1,h2,h3⟩:=h;rcases h2.find K hx (w:=w) with ⟨hf,-⟩|⟨j,e,hf,hj,he⟩
 ·simp[Instr.lookup,run_underlying ht,MapKept.run_getObj_map h1,nz K hx,hf,hz]
 ·exact absurd he (hn (e.key,e.val) (h3.mem_iff.1 (List.mem_map.2 ⟨e,List.mem_of_getElem? hj,rfl⟩)))
theorem aO.len(h:aO P k w m L)(ht:P.underlying t=some (.map k et))(ty:TypeId):(Builtin.len_ #[t] ty #[.map (some m)]).run P w=.ok (.int .i64 L.length) w:=by
 obtain⟨R,clock,h1,h2,h3⟩:=h;have e:R.length=L.length:=by simpa using h3.length_eq
 simp[Builtin.len_,run_underlying ht,MapKept.run_getObj_map h1,goInt,e]
theorem aO.update_new(K:Keyed P k)(h:aO P k w m L)(ht:P.underlying t=some (.map k et))(hx:D8 P k x)(hn:∀p∈L,p.1≠x)(v:Value):
  ∃w',(Instr.mapUpdate t (.map (some m)) x v).run P w=.ok () w'∧aO P k w' m ((x,v)::L)∧aa (·=m) w w':=by
 obtain⟨R,clock,h1,h2,h3⟩:=h;have RL:∀e∈R,e.key≠x:=λe he=>hn (e.key,e.val) (h3.mem_iff.1 (List.mem_map.2 ⟨e,he,rfl⟩))
 refine⟨ChangeMaps.setBlock w m (.map ((R++[(⟨x,v,clock⟩:GE)]).map GE.me).toArray (clock+1)),?_,⟨R++[(⟨x,v,clock⟩:GE)],clock+1,h1.put _ _,?_,?_⟩,(aa.refl (λi=>i=m) w).setBlock (.inl rfl) _⟩
 ·rcases h2.find K hx (w:=w) with ⟨hf,-⟩|⟨j,e,hf,hj,he⟩
  ·simp[Instr.mapUpdate,run_underlying ht,MapKept.run_getObj_map h1,nz K hx,hf,MapKept.run_setObj_map _ h1,ChangeMaps.setBlock,GE.me]
  ·exact absurd he (RL e (List.mem_of_getElem? hj))
 ·refine⟨λe he=>?_,?_,?_,λe he=>?_⟩
  ·rcases List.mem_append.1 he with he|he
   ·exact Nat.lt_succ_of_lt (h2.born e he)
   ·simp at he;subst he;exact Nat.lt_succ_self _
  ·rw[List.map_append]
   refine List.nodup_append.2 ⟨h2.borns,by simp,λa ha b hb=>?_⟩;simp at hb;subst hb;obtain⟨e,he,rfl⟩:=List.mem_map.1 ha;exact Nat.ne_of_lt (h2.born e he)
  ·rw[List.map_append]
   refine List.nodup_append.2 ⟨h2.keys,by simp,λa ha b hb=>?_⟩;simp at hb;subst hb;obtain⟨e,he,rfl⟩:=List.mem_map.1 ha;exact RL e he
  ·rcases List.mem_append.1 he with he|he
   ·exact h2.isK e he
   ·simp at he;subst he;exact hx
 ·rw[List.map_append]
  exact(List.perm_append_comm).trans (by simpa [GE.kv] using h3)
theorem aO.update_old(K:Keyed P k){rest:List (Value×Value)}(h:aO P k w m L)(ht:P.underlying t=some (.map k et))(hp:L.Perm ((x,v0)::rest))(v:Value):
  ∃w',(Instr.mapUpdate t (.map (some m)) x v).run P w=.ok () w'∧aO P k w' m ((x,v)::rest)∧aa (·=m) w w':=by
 have hm:(x,v0)∈L:=hp.mem_iff.2 (List.mem_cons_self ..);have hx:=h.isK _ hm;have hk:=h.keys;obtain⟨R,clock,h1,h2,h3⟩:=h;rcases h2.find K hx (w:=w) with ⟨hf,hn⟩|⟨j,e,hf,hj,he⟩
 ·obtain⟨e,he,hev⟩:=List.mem_map.1 (h3.mem_iff.2 hm)
  exact absurd (congrArg (·.1) hev) (hn e he)
 ·have uO:j<R.length:=(List.getElem?_eq_some_iff.1 hj).1
  have I9:R[j]=e:=(List.getElem?_eq_some_iff.1 hj).2
  have hv:e.val=v0:=by
   have m1:(e.key,e.val)∈L:=h3.mem_iff.1 (List.mem_map.2 ⟨e,List.mem_of_getElem? hj,rfl⟩);rw[he] at m1;exact sM hk m1 hm
  have lT:R=R.take j++e::R.drop (j+1):=by
   rw[←I9,List.getElem_cons_drop,List.take_append_drop]
  obtain⟨A,hA⟩:∃A,A=R.take j:=⟨_,rfl⟩;obtain⟨B,hB⟩:∃B,B=R.drop (j+1):=⟨_,rfl⟩;rw[←hA,←hB] at lT;have NE:A.length=j:=by rw[hA,List.length_take];omega
  have hmod:(R.map GE.me).modify j (λy=>{y with key:=x,val:=v})=(A++(⟨x,v,e.born⟩:GE)::B).map GE.me:=by
   rw[lT,←NE,List.map_append,List.map_append,List.map_cons,List.map_cons];have:A.length=(A.map GE.me).length:=by simp
   rw[this,vB];simp[GE.me]
  refine⟨ChangeMaps.setBlock w m (.map ((A++(⟨x,v,e.born⟩:GE)::B).map GE.me).toArray clock),?_,⟨A++(⟨x,v,e.born⟩:GE)::B,clock,h1.put _ _,?_,?_⟩,(aa.refl (λi=>i=m) w).setBlock (.inl rfl) _⟩
  ·obtain⟨lx,hlx⟩:=hx
   have h4:(((R.map GE.me).toArray[j]?).map (·.key)).getD x=x:=by
    simp[hj,GE.me,he]
   simp only[Instr.mapUpdate,Sem.run_bind,run_underlying ht,Result.andThen_ok,MapKept.run_getObj_map h1,nz K ⟨lx,hlx⟩,hf,h4,K.stays w hlx];rw[MapKept.run_setObj_map _ h1,←hmod];simp[ChangeMaps.setBlock]
  ·have g1:=h2.born
   have g2:=h2.borns;have g3:=h2.keys;have g4:=h2.isK;rw[lT] at g1 g2 g3 g4;refine⟨λy hy=>?_,by simpa using g2,by rw[List.map_append,List.map_cons] at g3 ⊢;rw[he] at g3;exact g3,λy hy=>?_⟩
   ·rcases List.mem_append.1 hy with hy|hy
    ·exact g1 y (List.mem_append_left _ hy)
    ·rcases List.mem_cons.1 hy with rfl|hy
     ·exact g1 e (List.mem_append_right _ (List.mem_cons_self ..))
     ·exact g1 y (List.mem_append_right _ (List.mem_cons_of_mem _ hy))
   ·rcases List.mem_append.1 hy with hy|hy
    ·exact g4 y (List.mem_append_left _ hy)
    ·rcases List.mem_cons.1 hy with rfl|hy
     ·exact hx
     ·exact g4 y (List.mem_append_right _ (List.mem_cons_of_mem _ hy))
  ·rw[lT] at h3
   have p1:((x,v0)::(A++B).map GE.kv).Perm ((x,v0)::rest):=by
    refine List.Perm.trans ?_ (h3.trans hp);rw[List.map_append,List.map_append,List.map_cons];have:e.kv=(x,v0):=by unfold GE.kv;rw[he,hv]
    rw[this];exact List.perm_middle.symm
   have p2:=List.Perm.cons_inv p1;rw[List.map_append,List.map_cons];refine List.perm_middle.trans ?_;rw[←List.map_append];exact p2.cons (x,v)
theorem aO.delete_yes(K:Keyed P k){rest:List (Value×Value)}(h:aO P k w m L)(ht:P.underlying t=some (.map k et))(hp:L.Perm ((x,v0)::rest))(t2:TypeId):
  ∃w',(∀ty,(Builtin.delete_ #[t,t2] ty #[.map (some m),x]).run P w=.ok (.tuple #[]) w')∧aO P k w' m rest∧aa (·=m) w w':=by
 have hm:(x,v0)∈L:=hp.mem_iff.2 (List.mem_cons_self ..);have hx:=h.isK _ hm;have hk:=h.keys;obtain⟨R,clock,h1,h2,h3⟩:=h;rcases h2.find K hx (w:=w) with ⟨hf,hn⟩|⟨j,e,hf,hj,he⟩
 ·obtain⟨e,he,hev⟩:=List.mem_map.1 (h3.mem_iff.2 hm)
  exact absurd (congrArg (·.1) hev) (hn e he)
 ·have uO:j<R.length:=(List.getElem?_eq_some_iff.1 hj).1
  have I9:R[j]=e:=(List.getElem?_eq_some_iff.1 hj).2
  have hv:e.val=v0:=by
   have m1:(e.key,e.val)∈L:=h3.mem_iff.1 (List.mem_map.2 ⟨e,List.mem_of_getElem? hj,rfl⟩);rw[he] at m1;exact sM hk m1 hm
  have lT:R=R.take j++e::R.drop (j+1):=by
   rw[←I9,List.getElem_cons_drop,List.take_append_drop]
  obtain⟨A,hA⟩:∃A,A=R.take j:=⟨_,rfl⟩;obtain⟨B,hB⟩:∃B,B=R.drop (j+1):=⟨_,rfl⟩;rw[←hA,←hB] at lT;have NE:A.length=j:=by rw[hA,List.length_take];omega
  have LI:(R.map GE.me).eraseIdx j=(A++B).map GE.me:=by
   rw[lT,←NE,List.map_append,List.map_append,List.map_cons];have:A.length=(A.map GE.me).length:=by simp
   rw[this,tS]
  have xe:(A++B).Sublist R:=by
   rw[lT];exact(List.Sublist.refl A).append (List.sublist_cons_self e B)
  refine⟨ChangeMaps.setBlock w m (.map ((A++B).map GE.me).toArray clock),λty=>?_,⟨A++B,clock,h1.put _ _,?_,?_⟩,(aa.refl (λi=>i=m) w).setBlock (.inl rfl) _⟩
  ·rw[←LI]
   simp[Builtin.delete_,run_underlying ht,MapKept.run_getObj_map h1,nz K hx,hf,MapKept.run_setObj_map _ h1,ChangeMaps.setBlock]
  ·exact⟨λy hy=>h2.born y (xe.subset hy),(xe.map _).nodup h2.borns,(xe.map _).nodup h2.keys,λy hy=>h2.isK y (xe.subset hy)⟩
  ·rw[lT] at h3
   have p1:((x,v0)::(A++B).map GE.kv).Perm ((x,v0)::rest):=by
    refine List.Perm.trans ?_ (h3.trans hp);rw[List.map_append,List.map_append,List.map_cons];have:e.kv=(x,v0):=by unfold GE.kv;rw[he,hv]
    rw[this];exact List.perm_middle.symm
   exact List.Perm.cons_inv p1
end
section
variable {P:Program} {w w1:World} {m t k e:TypeId} {l:List GE} {clock:Nat} {F:Nat→Prop}
def kt(w:World)(r m clock:Nat)(seen:List Nat):Prop:=w.heap[r]? =some (.mapIter (some m) clock seen.toArray clock)
theorem kt.lt{r:Nat}(h:kt w r m clock seen):r<w.heap.size:=ed h
theorem kt.frm{r:Nat}(h:kt w r m clock seen)(hf:aa F w w1)(hn:¬F r):kt w1 r m clock seen:=(hf.block r h.lt hn).trans h
theorem kt.ne_blk{r g:Nat}{t:TypeId}{cs:Array Value}(h:kt w r m clock seen)(hb:aj w g t cs):g≠r:=hb.ne_obj h (λ_ _ _ h=>by cases h)
theorem lF.range(h:lF w m l clock)(ht:P.underlying t=some (.map k e)):
  (Instr.range t (.map (some m))).run P w=.ok (.pointer (some ⟨w.heap.size,0,none⟩)) (w.alloc (.mapIter (some m) clock #[] clock)):=by
 simp[Instr.range,run_underlying ht,MapKept.run_getObj_map h,newObj,Sem.run]
theorem mi{r:Nat}(h:kt w r m clock seen):(getObj r).run P w=.ok (.mapIter (some m) clock seen.toArray clock) w:=by
 unfold kt at h;simp[getObj,Sem.run,h]
def cK(seen:List Nat)(l:List GE):List GE:=l.filter λe=>!seen.contains e.born
theorem xI(seen:List Nat)(l:List GE):(l.map GE.me).toArray.filter (λe=>!seen.toArray.contains e.born)=((cK seen l).map GE.me).toArray:=by
 simp[cK,List.filter_map,Function.comp_def];rfl
theorem Gz(clock:Nat)(l:List GE)(hb:∀e∈l,e.born<clock):((l.map GE.me).toArray.filter λe=>decide (e.born<clock))=(l.map GE.me).toArray:=by
 simp[List.filter_map]
 congr 1
 exact List.filter_eq_self.2 λe he=>decide_eq_true (hb e he)
theorem GD(clock:Nat)(l:List GE)(hb:∀e∈l,e.born<clock):((l.map GE.me).toArray.filter λe=>decide (e.born≥clock))=#[]:=by
 simp;exact λe he=>hb e he
theorem zZ(clock:Nat)(l:List GE)(hb:∀e∈l,e.born<clock):(!(l.map GE.me).toArray.isEmpty&&(l.map GE.me).toArray.all λe=>decide (e.born≥clock))=false:=by
 cases l with
 | nil=>rfl
 | cons e r=>
   have:=hb e (by simp);have h:¬clock≤e.me.born:=by show ¬clock≤e.born;omega
   simp[h]
theorem lF.next_over{r:Nat}(h:lF w m l clock)(hi:kt w r m clock seen)(hb:∀e∈l,e.born<clock)(hl:cK seen l=[])(ty:TypeId):
  (Instr.next (.pointer (some ⟨r,0,none⟩)) false ty).run P w=.ok (.tuple #[.bool false]) w:=by
 have e1:(cK seen l).map GE.me=[]:=by rw[hl];rfl
 have hall:=zZ clock l hb;simp only[Instr.next,Sem.run_bind,mi hi,Result.andThen_ok,MapKept.run_getObj_map h,Bool.and_assoc,hall,Bool.and_false];rw[xI,e1];simp[choose,Sem.run,Question.forced]
theorem vC(n:Nat)(hn:0<n):∃(i d:Nat),i<n∧(choose (.mapNext n)).run P w=.ok i (w.drewN d):=by
 by_cases h1:n≤1
 ·exact⟨0,0,hn,by simp[choose,Sem.run,Question.forced,h1,World.drewN_zero]⟩
 ·exact⟨w.tape w.drawn (.mapNext n) % n,1,Nat.mod_lt _ hn,by simp[choose,Sem.run,Question.forced,h1,Question.cut];rfl⟩
theorem tT{r:Nat}(o:Obj)(h:kt w r m clock seen)(d:Nat):(setObj r o).run P (w.drewN d)=.ok () (ChangeMaps.setBlock (w.drewN d) r o):=by
 unfold kt at h;simp[setObj,Sem.run,h,ChangeMaps.setBlock]
theorem lF.next_some{r:Nat}(h:lF w m l clock)(hi:kt w r m clock seen)(hb:∀e∈l,e.born<clock)(hl:cK seen l≠[]):
  ∃e w',e∈cK seen l∧(∀ty,(Instr.next (.pointer (some ⟨r,0,none⟩)) false ty).run P w=.ok (.tuple #[.bool true,e.key,e.val]) w')∧kt w' r m clock (seen++[e.born])∧aa (·=r) w w':=by
 have hall:=zZ clock l hb;have hb':∀e∈cK seen l,e.born<clock:=λe he=>hb e (List.mem_filter.1 he).1
 have LH:0<(cK seen l).length:=by
  rcases hx:cK seen l with _|⟨a,b⟩
  ·exact absurd hx hl
  ·simp
 obtain⟨i,d,hlt,hch⟩:=vC (P:=P) (w:=w) (cK seen l).length LH;have hge:(cK seen l)[i]? =some (cK seen l)[i]:=List.getElem?_eq_getElem hlt;refine⟨(cK seen l)[i],ChangeMaps.setBlock (w.drewN d) r (.mapIter (some m) clock (seen.toArray.push (cK seen l)[i].born) clock),List.getElem_mem hlt,?_,?_,((aa.refl (λi=>i=r) w).drewN d).setBlock (.inl rfl) _⟩
 ·intro ty
  have Gx:((if ((cK seen l).map GE.me).toArray.isEmpty then #[none] else #[])++(((cK seen l).map GE.me).toArray++(#[]:Array MapEntry)).map some:Array (Option MapEntry))=((cK seen l).map (λe=>some e.me)).toArray:=by
   have:((cK seen l).map GE.me).toArray.isEmpty=false:=by
    rcases hx:cK seen l with _|⟨a,b⟩
    ·exact absurd hx hl
    ·rfl
   rw[this];simp
  simp only[Instr.next,Sem.run_bind,mi hi,Result.andThen_ok,MapKept.run_getObj_map h,Bool.and_assoc,hall,Bool.and_false];rw[xI,Gz clock _ hb',GD clock _ hb',Gx];simp only[List.size_toArray,List.length_map];simp only[Bool.false_eq_true,if_false,Result.andThen_ok,Sem.run_bind,hch]
  have hg:((cK seen l).map (λe=>some e.me)).toArray[i]? =some (some (cK seen l)[i].me):=by
   simp[hge]
  rw[hg];simp only[Sem.run_bind,tT _ hi,Result.andThen_ok];rfl
 ·have:=hi.lt
  simp[kt,ChangeMaps.setBlock,this]
def leftGN(w:World)(r:Nat)(l:List GE):Nat:=match w.heap[r]? with|some (.mapIter _ _ seen _)=>(cK seen.toList l).length|_=>0
theorem kt.leftGN{r:Nat}(h:kt w r m clock seen)(l:List GE):leftGN w r l=(cK seen l).length:=by
 unfold kt at h;simp[YtaecjmiobllhmaaGreat.leftGN,h]
theorem Cj{e:GE}(hn:(l.map (·.born)).Nodup)(he:e∈cK seen l):(cK seen l).Perm (e::cK (seen++[e.born]) l):=by
 induction l with
 | nil=>cases he
 | cons a r ih=>
   simp only[List.map_cons,List.nodup_cons] at hn
   have K8:∀sn:List Nat,cK sn (a::r)=if a.born∈sn then cK sn r else a::cK sn r:=by
    intro sn;simp[cK,List.filter_cons]
   rw[K8] at he ⊢;rw[K8]
   by_cases hs:a.born∈seen
   ·rw[if_pos hs] at he ⊢
    rw[if_pos (by simp[hs])];exact ih hn.2 he
   ·rw[if_neg hs] at he ⊢
    rcases List.mem_cons.1 he with rfl|he
    ·rw[if_pos (by simp)]
     refine List.Perm.cons _ ?_
     have:cK (seen++[e.born]) r=cK seen r:=by
      refine List.filter_congr λx hx=>?_
      have hne:x.born≠e.born:=λe1=>hn.1 (by rw[←e1];exact List.mem_map.2 ⟨x,hx,rfl⟩)
      simp[hne]
     rw[this]
    ·have hne:a.born≠e.born:=λe1=>hn.1 (by rw[e1];exact List.mem_map.2 ⟨e,(List.mem_filter.1 he).1,rfl⟩)
     rw[if_neg (by simp[hs,hne])];exact((ih hn.2 he).cons a).trans (List.Perm.swap _ _ _)
theorem lF.entry{r:Nat}{e1:GE}(h:lF w m l clock)(hi:kt w r m clock (seen++[e1.born]))(he:e1∈l)(hn:(l.map (·.born)).Nodup):
  (Instr.entry (.pointer (some ⟨r,0,none⟩))).run P w=.ok (.tuple #[e1.key,e1.val]) w:=by
 have Gy:(l.map GE.me).toArray.find? (λx=>x.born==e1.born)=some e1.me:=by
  clear h hi
  induction l with
  | nil=>cases he
  | cons a r ih=>
    simp only[List.map_cons,List.nodup_cons] at hn;rcases List.mem_cons.1 he with rfl|he
    ·simp[GE.me]
    ·have hne:a.born≠e1.born:=λe=>hn.1 (by rw[e];exact List.mem_map.2 ⟨e1,he,rfl⟩)
     have:=ih he hn.2;simp only[List.find?_toArray,List.map_cons] at this ⊢;rw[List.find?_cons_of_neg (by simpa [GE.me] using hne)];exact this
 simp only[Instr.entry,Sem.run_bind,mi hi,Result.andThen_ok];simp[MapKept.run_getObj_map h,Gy,GE.me]
end
end
end Go.Proofs.YtaecjmiobllhmaaGreat
