/- Words. -/
import Derived.WalkKit
import Derived.WalkSpells
import Derived.WalkLawsBesides
import Derived.Maps.AppendAt
import Derived.Deep.AppendLies
import Derived.Deep.Draws
import Derived.Lib.Hide
import Derived.MapKept
import Derived.ChangeMaps4
import Derived.Maps.OwnOps
import Derived.BigQuiet
import Derived.KernelRfl
import Derived.Maps.Keyed
import Derived.DeepKeys4
set_option linter.unusedVariables false
set_option linter.unusedSimpArgs false
namespace Go.Proofs.YtaecjmiobllhmaaGreat
open Go.RowKit
open Go.Maps (Keyed)
variable {Q:Exit→Act→World→Prop}{g':Nat}{ops:Array Oper}{z:Value}{seen:List Nat}{v0:Value}
section
theorem sF{k:IntKind}{a b:Int}(h:a=b):Ending.returned (.int k a)=.returned (.int k b):=by rw[h]
theorem af{a b:Bool}(h:a=b):Ending.returned (.bool a)=.returned (.bool b):=by rw[h]
structure aa(F:Nat→Prop)(w w':World):Prop where
 os:w'.os=w.os
 tape:w'.tape=w.tape
 output:w'.output=w.output
 size:w.heap.size≤w'.heap.size
 block:∀k,k<w.heap.size→¬F k→w'.heap[k]? =w.heap[k]?
def ac:Nat→Prop:=λ_=>False
section
variable {F F':Nat→Prop} {w w1 w2:World}
theorem aa.refl(F:Nat→Prop)(w:World):aa F w w:=⟨rfl,rfl,rfl,Nat.le_refl _,λ_ _ _=>rfl⟩
theorem aa.next(h:aa F w w1)(k:aa F' w1 w2)(hs:∀i,F' i→F i∨w.heap.size≤i):aa F w w2:=
 ⟨k.os.trans h.os,k.tape.trans h.tape,k.output.trans h.output,Nat.le_trans h.size k.size,λi hi hn=>
  (k.block i (Nat.lt_of_lt_of_le hi h.size) (λhf=>by
   rcases hs i hf with h1|h1
   ·exact hn h1
   ·omega)).trans (h.block i hi hn)⟩
theorem aa.trans(h:aa F w w1)(k:aa F w1 w2):aa F w w2:=h.next k λ_ hi=>.inl hi
theorem aa.mono(h:aa F w w1)(hs:∀i,F i→F' i):aa F' w w1:=
 ⟨h.os,h.tape,h.output,h.size,λi hi hn=>h.block i hi (λhf=>hn (hs i hf))⟩
theorem aa.nix(h:aa ac w w1):aa F w w1:=h.mono λ_ hf=>absurd hf id
theorem aa.more(h:aa F w w1)(k:aa ac w1 w2):aa F w w2:=h.next k λ_ hf=>absurd hf id
theorem aa.drew(h:aa F w w1):aa F w w1.drew:=⟨h.os,h.tape,h.output,h.size,h.block⟩
theorem aa.drewN(h:aa F w w1)(n:Nat):aa F w (w1.drewN n):=⟨h.os,h.tape,h.output,h.size,h.block⟩
theorem aa.alloc(h:aa F w w1)(o:Obj):aa F w (w1.alloc o):=
 h.more ⟨rfl,rfl,rfl,by simp,λi hi _=>Below.heap_alloc _ _ _ hi⟩
theorem aa.setCell(h:aa F w w1){p:Addr}(hp:F p.block∨w.heap.size≤p.block)(u:Value):aa F w (w1.setCell p u):=
 h.next (F':=λi=>i=p.block) ⟨rfl,rfl,rfl,by simp[World.setCell],λi _ hn=>Below.heap_setCell _ _ _ _ hn⟩ (λi hi=>by subst hi;exact hp)
theorem aa.setBlock(h:aa F w w1){b:Nat}(hp:F b∨w.heap.size≤b)(o:Obj):aa F w (ChangeMaps.setBlock w1 b o):=
 h.next (F':=λi=>i=b) ⟨rfl,rfl,rfl,by simp[ChangeMaps.setBlock],λi _ hn=>by
  simp only[ChangeMaps.setBlock];rw[Array.getElem?_setIfInBounds_ne (Ne.symm hn)]⟩ (λi hi=>by subst hi;exact hp)
theorem aa.grown{row:Option Nat}(h:aa F w w1)(hg:w1.grownBy w2 row)(hr:∀k,row=some k→F k∨w.heap.size≤k):aa F w w2:=
 h.next (F':=λi=>row=some i) ⟨hg.os,hg.tape,hg.output,hg.size,λi hi hn=>hg.block i hi (λe=>hn e.symm)⟩ hr
theorem aa.of_below(h:Below w.heap.size w w1):aa F w w1:=⟨h.os,h.tape,h.output,h.size,λi hi _=>h.block i hi⟩
theorem aa.below{B:Nat}(h:aa F w w1)(hF:∀i,F i→B≤i)(hB:B≤w.heap.size):Below B w w1:=
 ⟨h.os,h.tape,h.output,h.size,λi hi=>h.block i (by omega) (λhf=>by have:=hF i hf;omega)⟩
theorem aa.cell(h:aa F w w1){p:Addr}(hp:p.block<w.heap.size)(hn:¬F p.block):w1.cell? p=w.cell? p:=World.cell?_of_block (h.block _ hp hn)
theorem aa.frozen(h:aa F w w1){p:Addr}(hp:p.block<w.heap.size)(hn:¬F p.block):w1.frozen? p=w.frozen? p:=World.frozen?_of_block (h.block _ hp hn)
end
structure FW(C:World→Prop) where
 w:World
 h:C w
instance (F:Nat→Prop) (w:World):Nonempty (FW (aa F w)):=⟨⟨w,aa.refl F w⟩⟩
theorem au{P:Program}(C:World→Prop){id:Nat}{a:Act}{w:World}{l:List Oper}(hC:C w.drew)(hm:P.follows .mixedOrders=true)(hB:Region.lexB .any l.toArray=true)
  (h:wpQuiet P l.toArray (λw'=>∃x:FW C,w'=x.w) (λa'=>∀w',(∃x:FW C,w'=x.w)→Q .normal a' w') l a):(Code.region id l.toArray true).wp P Q a w:=
 wp_region_quiet (C:=λw'=>∃x:FW C,w'=x.w) hm hB ⟨⟨_,hC⟩,rfl⟩ (by simpa using h)
theorem FW.call{P:Program}{f:FuncId}{args:Array Value}{C:World→Prop}(x:FW C){v:Value}{R:World→Prop}(h:Calls P f args x.w λe w'=>e=.returned v∧R w')(hR:∀w',R w'→C w'):
  Calls P f args x.w λe w''=>e=.returned v∧∃y:FW C,w''=y.w:=
 h.mono λ_ w' ⟨he,hr⟩=>⟨he,⟨w',hR w' hr⟩,rfl⟩
def ai(w:World)(g:Nat)(t:TypeId)(cs:Array Value):Prop:=w.heap[g]? =some (.cells cs t (0,0))
section
variable {w w1:World} {g:Nat} {t:TypeId} {cs:Array Value} {F:Nat→Prop}
theorem fA{w:World}{g:Nat}{o:Obj}(h:w.heap[g]? =some o):g<w.heap.size:=(Array.getElem?_eq_some_iff.1 h).1
theorem ai.lt(h:ai w g t cs):g<w.heap.size:=fA h
theorem ai.cell(h:ai w g t cs)(i:Nat):w.cell? ⟨g,i,none⟩=cs[i]?:=cell_of_row w g i cs t (0,0) h
theorem ai.frozen(h:ai w g t cs)(i:Nat):w.frozen? ⟨g,i,none⟩=false:=by
 unfold ai at h;simp[World.frozen?,h]
theorem ai.new(w:World)(t:TypeId)(cs:Array Value):ai (w.alloc (.cells cs t)) w.heap.size t cs:=heap_alloc_new w _
theorem ai.frm(h:ai w g t cs)(hf:aa F w w1)(hn:¬F g):ai w1 g t cs:=(hf.block g h.lt hn).trans h
theorem ai.alloc(h:ai w g t cs)(o:Obj):ai (w.alloc o) g t cs:=h.frm ((aa.refl ac w).alloc o) id
theorem ai.drew(h:ai w g t cs):ai w.drew g t cs:=h
theorem ai.set_(h:ai w g t cs)(i:Nat)(u:Value):ai (w.setCell ⟨g,i,none⟩ u) g t (cs.setIfInBounds i u):=by
 unfold ai at h ⊢;simp[World.setCell,Array.getElem?_modify,h]
theorem ai.far(h:ai w g t cs){p:Addr}(hp:g≠p.block)(u:Value):ai (w.setCell p u) g t cs:=(Below.heap_setCell w p u g hp).trans h
theorem ai.ne_{t':TypeId}{cs':Array Value}(h:ai w g t cs)(h':ai w g' t' cs')(hne:t≠t'):g≠g':=by
 rintro rfl;unfold ai at h h';rw[h] at h';injection h' with h';injection h' with _ ht;exact hne ht
theorem ai.ne_obj{o:Obj}(h:ai w g t cs)(h':w.heap[g']? =some o)(hne:∀c e f,o≠.cells c e f):g≠g':=by
 rintro rfl;unfold ai at h;rw[h] at h';injection h' with h';exact hne _ _ _ h'.symm
end
theorem dN(a:Addr)(n:Nat):(a.add n).block=a.block:=by unfold Addr.add;split<;>rfl
theorem rM(a:Addr)(i j:Nat):(a.add i).add j=a.add (i+j):=by
 unfold Addr.add
 by_cases hi:i=0<;>by_cases hj:j=0<;>simp[hi,hj,Nat.add_assoc]
def Rd(w:World)(G:Nat→Prop)(size:Nat)(A:Option Addr)(n:Nat)(xs:List Value):Prop:=
 xs.length=n * size∧(0<n→∃ad,A=some ad∧G ad.block∧ad.block<w.heap.size∧∀j u,xs[j]? =some u→w.cell? (ad.add j)=some u)
section
variable {w w1:World} {G F:Nat→Prop} {size n:Nat} {A:Option Addr} {xs:List Value}
theorem Rd.none_:Rd w G size A 0 []:=⟨by simp,λh=>absurd h (by omega)⟩
theorem Rd.frm(h:Rd w G size A n xs)(hf:aa F w w1)(hd:∀k,G k→¬F k):Rd w1 G size A n xs:=
 ⟨h.1,λhn=>by
  obtain⟨ad,e,hg,hl,hc⟩:=h.2 hn;exact⟨ad,e,hg,Nat.lt_of_lt_of_le hl hf.size,λj u hu=>(hf.cell (by rw[dN];exact hl) (by rw[dN];exact hd _ hg)).trans (hc j u hu)⟩⟩
theorem Rd.mono{G':Nat→Prop}(h:Rd w G size A n xs)(hs:∀k,G k→G' k):Rd w G' size A n xs:=
 ⟨h.1,λhn=>by
  obtain⟨ad,e,hg,hl,hc⟩:=h.2 hn;exact⟨ad,e,hs _ hg,hl,hc⟩⟩
theorem Rd.at_{k:Nat}(h:Rd w G 1 A n xs)(hk:k<n):∃ad u,A=some ad∧G ad.block∧ad.block<w.heap.size∧xs[k]? =some u∧w.cell? (ad.add k)=some u:=by
 obtain⟨ad,e,hg,hl,hc⟩:=h.2 (by omega);have hx:k<xs.length:=by have:=h.1;omega
 exact⟨ad,xs[k],e,hg,hl,List.getElem?_eq_getElem hx,hc k _ (List.getElem?_eq_getElem hx)⟩
theorem Rd.cut(h:Rd w G size A n xs){k cap:Nat}(hk:k≤n)(hc:n≤cap):
  Rd w G size (if cap=k then A else A.map (·.add (k * size))) (n-k) (xs.drop (k * size)):=by
 refine⟨by rw[List.length_drop,h.1,Nat.sub_mul],λhn=>?_⟩;obtain⟨ad,rfl,hg,hl,hcell⟩:=h.2 (by omega);rw[if_neg (by omega)];refine⟨ad.add (k * size),rfl,by rw[dN];exact hg,by rw[dN];exact hl,λj u hu=>?_⟩;rw[rM];exact hcell _ u (by rw[←hu,List.getElem?_drop])
theorem Rd.take(h:Rd w G size A n xs){k:Nat}(hk:k≤n):Rd w G size A k (xs.take (k * size)):=by
 have h1:=h.1;refine⟨by rw[List.length_take,h1];exact Nat.min_eq_left (Nat.mul_le_mul_right _ hk),λhn=>?_⟩;obtain⟨ad,e,hg,hl,hc⟩:=h.2 (by omega);refine⟨ad,e,hg,hl,λj u hu=>hc j u ?_⟩;rw[List.getElem?_take] at hu;split at hu
 ·exact hu
 ·cases hu
theorem Rd.of_obj{g:Nat}{cs:Array Value}{t:TypeId}{fr:Nat×Nat}(h:w.heap[g]? =some (.cells cs t fr))(n:Nat)(hn:cs.toList.length=n * size):Rd w (λk=>k=g) size (some ⟨g,0,none⟩) n cs.toList:=
 ⟨hn,λ_=>⟨_,rfl,rfl,fA h,World.news_of_block h⟩⟩
theorem Rd.of_own{base:Nat}{e:TypeId}{c:Nat}(h:w.ownsRow base e size (.slice A n c) n xs):Rd w (λk=>(Value.slice A n c).ownBlock=some k) size A n xs:=by
 refine⟨h.1,λhn=>?_⟩;obtain⟨g,cap,hv,_,hlt⟩:=h.form hn;have hA:A=some ⟨g,0,none⟩:=by injection hv
 subst hA;exact⟨_,rfl,rfl,hlt,h.cells (g:=g) rfl⟩
end
section
variable {w w1:World} {F:Nat→Prop} {base size n:Nat} {e:TypeId} {v:Value} {xs:List Value}
theorem mH(h:w.ownsRow base e size v n xs)(hf:aa F w w1)(hd:∀k,v.ownBlock=some k→¬F k):w1.ownsRow base e size v n xs:=by
 obtain⟨h1,h2⟩:=h;refine⟨h1,?_⟩;rcases h2 with h2|⟨g,cap,cur,hv,hg,hh,r⟩
 ·exact .inl h2
 ·exact .inr ⟨g,cap,cur,hv,hg,(hf.block g (fA hh) (hd g (by subst hv;rfl))).trans hh,r⟩
theorem pH{base':Nat}(h:w.ownsRow base e size v n xs)(hb:∀k,v.ownBlock=some k→base'≤k):w.ownsRow base' e size v n xs:=by
 obtain⟨h1,h2⟩:=h;refine⟨h1,?_⟩;rcases h2 with h2|⟨g,cap,cur,hv,hg,hh,r⟩
 ·exact .inl h2
 ·exact .inr ⟨g,cap,cur,hv,hb g (by subst hv;rfl),hh,r⟩
theorem nw(h:w.ownsRow base e size v n xs):∃A c,v=.slice A n c∧(A=none→c=0)∧n≤c∧c≤maxLen∧(∀a,A=some a→a.off=0∧a.spot=none∧base≤a.block∧a.block<w.heap.size):=by
 rcases h.2 with ⟨rfl,rfl⟩|⟨g,cap,cur,rfl,hg,hh,hn,hm,_⟩
 ·exact⟨none,0,rfl,λ_=>rfl,Nat.le_refl _,Nat.zero_le _,λa ha=>by cases ha⟩
 ·refine⟨_,cap,rfl,(λh=>by cases h),hn,hm,λa ha=>?_⟩
  injection ha with ha;subst ha;exact⟨rfl,rfl,hg,fA hh⟩
theorem mi{g:Nat}{t:TypeId}{cs:Array Value}(h:w.ownsRow base e size v n xs)(hg:ai w g t cs)(hne:e≠t):v.ownBlock≠some g:=by
 rcases h.2 with ⟨rfl,_⟩|⟨g',cap,cur,rfl,_,hh,_⟩
 ·simp[Value.ownBlock]
 ·intro he
  have:g'=g:=by simpa [Value.ownBlock] using he
  subst this;exact ai.ne_ (t:=e) hh hg hne rfl
end
section
variable {P:Program} (w:World)
theorem sG(base:Nat)(t ty e:TypeId)(i:TypeInfo)(size:Nat)(ht:P.underlying t=some (.slice e))(hi:P.info? e=some i)
  (v:Value) (n:Nat) (xs:List Value) (hown:w.ownsRow base e size v n xs) (c:Nat):(Builtin.append_ #[t,t] ty #[v,.slice none 0 c]).run P w=.ok v w:=by
 rcases hown.2 with ⟨rfl,rfl⟩|⟨g,cap,cur,rfl,_,_,Fo,_⟩
 ·simp[Builtin.append_,run_underlying ht,sizeOf,typeInfo,hi,Builtin.lenOf,Builtin.firstCells]
 ·simp[Builtin.append_,run_underlying ht,sizeOf,typeInfo,hi,Builtin.lenOf,Builtin.firstCells,Fo,storeCells]
theorem lY(base:Nat)(t e:TypeId)(i:TypeInfo)(z:Value)(size bytes:Nat)(ht:P.underlying t=some (.slice e))(hi:P.info? e=some i)(hz:i.zero=some z)
  (hsize:i.size=size) (hby:i.bytes=bytes) (hzs:z.cells.size=size) (hsz:0<size)
  (v:Value) (n:Nat) (xs:List Value) (hown:w.ownsRow base e size v n xs)
  (G:Nat→Prop) (A:Option Addr) (m c:Nat) (news:List Value) (hr:Rd w G size A m news) (h1:∀u∈news,u.oneCell'=true)
  (h63:n+m≤maxLen) (hbytes:(n+m) * bytes≤140737488355328) (hbase:base≤w.heap.size):
  ∃v' w',(∀ty,(Builtin.append_ #[t,t] ty #[v,.slice A m c]).run P w=.ok v' w')∧w'.ownsRow base e size v' (n+m) (xs++news)∧w.grownBy w' v.ownBlock∧
    (v'.ownBlock=v.ownBlock∨v'.ownBlock=some w.heap.size):=by
 rcases A with _|ad
 ·have hm:m=0:=by
   rcases Nat.eq_zero_or_pos m with h0|h0
   ·exact h0
   ·obtain⟨ad,h,_⟩:=hr.2 h0
    cases h
  subst hm;have hn:news=[]:=List.eq_nil_of_length_eq_zero (by simpa using hr.1);subst hn;exact⟨v,w,λty=>sG w base t ty e i size ht hi v n xs hown c,by simpa using hown,World.grownBy.refl w _,.inl rfl⟩
 ·have MN:∀j u,news[j]? =some u→w.cell? (ad.add j)=some u:=by
   intro j u hu;rcases Nat.eq_zero_or_pos m with h0|h0
   ·subst h0
    have hn:news=[]:=List.eq_nil_of_length_eq_zero (by simpa using hr.1);subst hn;simp at hu
   ·obtain⟨ad',h,_,_,hc⟩:=hr.2 h0
    injection h with h;subst h;exact hc j u hu
  obtain⟨v',w',hrun,h2,h3,_,h5⟩:=run_append_own_at (P:=P) w base t 0 e i z size bytes ht hi hz hsize hby hzs hsz v n xs hown ad m c news hr.1 MN h1 h63 hbytes hbase;exact⟨v',w',λ_=>hrun,h2,h3,h5⟩
theorem aq{P:Program}{w w':World}{v u v':Value}{t:TypeId}(hrun:∀ty,(Builtin.append_ #[t,t] ty #[v,u]).run P w=.ok v' w')
 {rest:List Oper} {o:Oper} {a:Act} (hgd:o.guard=none) (s x:Operand)
  (ho:o.op=.call {callee:=.builtin .append,args:=#[s,x],argTypes:=#[t,t]}) (hs:a.eval s=v) (hx:a.eval x=u)
  (h:wpList P ops Q rest (a.put o.dst v') w'):wpList P ops Q (o::rest) a w:=
 wpList_plain hgd λ_ hK=>by
  unfold Oper.wp execOp;simp only[ho,resolve,invoke,builtin,Sem.run_bind,Sem.run_pure,Result.andThen_ok,List.map_toArray,List.map_cons,List.map_nil,hs,hx,hrun];exact hK _ _ h
end
theorem jh{P:Program}{w w':World}{v u v':Value}{t:TypeId}(hrun:∀ty,(Builtin.append_ #[t,t] ty #[v,u]).run P w=.ok v' w')
 {o:Oper} {a:Act} {K:Act→World→Prop} {E:Prop} (hgd:o.guard=none) (s x:Operand)
  (ho:o.op=.call {callee:=.builtin .append,args:=#[s,x],argTypes:=#[t,t]}) (hs:a.eval s=v) (hx:a.eval x=u)
  (h:K (a.put o.dst v') w'):if Region.wanted o (yielded ops a.tmps)=true then Oper.wp P o a w K Q else E:=by
 have hw:Region.wanted o (yielded ops a.tmps)=true:=by simp[Region.wanted,hgd]
 rw[if_pos hw];unfold Oper.wp execOp;simp only[ho,resolve,invoke,builtin,Sem.run_bind,Sem.run_pure,Result.andThen_ok,List.map_toArray,List.map_cons,List.map_nil,hs,hx,hrun];exact h
theorem dO{P:Program}{w w':World}{v u:Value}{t t2:TypeId}(hrun:∀ty,(Builtin.delete_ #[t,t2] ty #[v,u]).run P w=.ok (.tuple #[]) w')
 {rest:List Oper} {o:Oper} {a:Act} (hgd:o.guard=none) (s x:Operand)
  (ho:o.op=.call {callee:=.builtin .delete,args:=#[s,x],argTypes:=#[t,t2]}) (hs:a.eval s=v) (hx:a.eval x=u)
  (h:wpList P ops Q rest (a.put o.dst (.tuple #[])) w'):wpList P ops Q (o::rest) a w:=
 wpList_plain hgd λ_ hK=>by
  unfold Oper.wp execOp;simp only[ho,resolve,invoke,builtin,Sem.run_bind,Sem.run_pure,Result.andThen_ok,List.map_toArray,List.map_cons,List.map_nil,hs,hx,hrun];exact hK _ _ h
theorem aY{P:Program}{w w':World}{vm vk vv:Value}{t:TypeId}(hrun:(Instr.mapUpdate t vm vk vv).run P w=.ok () w')
 {rest:List Oper} {o:Oper} {a:Act} (hgd:o.guard=none) (m x v:Operand)
  (ho:o.op=.mapUpdate t m x v) (hm:a.eval m=vm) (hx:a.eval x=vk) (hv:a.eval v=vv)
  (h:wpList P ops Q rest (a.put o.dst undef) w'):wpList P ops Q (o::rest) a w:=
 wpList_plain hgd λ_ hK=>by
  unfold Oper.wp;simp[execOp,ho,hm,hx,hv,hrun,Result.andThen];exact hK _ _ h
structure nZ where
 key:ByteArray
 val:Value
 born:Nat
def nZ.me(e:nZ):MapEntry:=⟨.string e.key,e.val,e.born⟩
def mL(w:World)(m:Nat)(l:List nZ)(clock:Nat):Prop:=w.heap[m]? =some (.map (l.map nZ.me).toArray clock)
def zY(s:ByteArray):List nZ→List nZ
 | []=>[]
 | e::r=>if e.key=s then r else e::zY s r
def zZ(s:ByteArray)(l:List nZ):Bool:=l.any λe=>e.key=s
def vx(s:ByteArray)(z:Value):List nZ→Value
 | []=>z
 | e::r=>if e.key=s then e.val else vx s z r
section
variable {P:Program} {w w1:World} {m t k e:TypeId} {l:List nZ} {clock:Nat} {F:Nat→Prop}
theorem mL.lt(h:mL w m l clock):m<w.heap.size:=fA h
theorem mL.frm(h:mL w m l clock)(hf:aa F w w1)(hn:¬F m):mL w1 m l clock:=(hf.block m h.lt hn).trans h
theorem mL.ne_blk{g:Nat}{t:TypeId}{cs:Array Value}(h:mL w m l clock)(hb:ai w g t cs):g≠m:=hb.ne_obj h (λ_ _ _ h=>by cases h)
theorem uv(s:ByteArray):∀(l:List nZ) (i:Nat),Instr.findNow .string (.string s) (l.map nZ.me) i=some (match l.findIdx? (λe=>e.key=s) with|some j=>some (i+j,vx s undef l)|none=>none)
 | [],i=>rfl
 | e::r,i=>by
   simp only[List.map_cons,Instr.findNow,nZ.me,Instr.sameNow,List.findIdx?_cons]
   by_cases h:s=e.key
   ·subst h
    rw[(MapKept.bytes_beq e.key e.key).2 rfl];simp[vx]
   ·have h':¬e.key=s:=λe1=>h e1.symm
    rw[show (s==e.key)=false from Bool.eq_false_iff.2 λhb=>h ((MapKept.bytes_beq _ _).1 hb)];simp only[h',decide_false];rw[uv s r (i+1)]
    cases hr:r.findIdx? (λe=>e.key=s) with
    | none=>simp
    | some j=>simp[vx,h'];omega
theorem vy(s:ByteArray)(z z':Value):∀(l:List nZ),zZ s l=true→vx s z l=vx s z' l
 | [],h=>by simp[zZ] at h
 | e::r,h=>by
   unfold vx
   by_cases he:e.key=s
   ·simp[he]
   ·simp only[he,if_false]
    exact vy s z z' r (by simpa [zZ,he] using h)
theorem xK(s:ByteArray)(z:Value):∀(l:List nZ),zZ s l=false→vx s z l=z
 | [],_=>rfl
 | e::r,h=>by
   unfold vx
   by_cases he:e.key=s
   ·simp[zZ,he] at h
   ·simp only[he,if_false]
    exact xK s z r (by simpa [zZ,he] using h)
theorem qu(hk:P.underlying k=some .string)(s:ByteArray)(l:List nZ):
  (Instr.findKey k (.string s) (l.map nZ.me)).run P w=.ok (match l.findIdx? (λe=>e.key=s) with|some j=>some (j,vx s undef l)|none=>none) w:=by
 simp only[Instr.findKey,Sem.run_bind,run_underlying hk,Result.andThen_ok,uv,Nat.zero_add];rfl
theorem kQ(hk:P.underlying k=some .string)(s:ByteArray)(em:Bool):(Instr.checkKey em 10000 k (.string s)).run P w=.ok () w:=
 MapKept.run_checkKey hk (by simp[MapKept.IsKey]) em 9999
theorem sH(s:ByteArray)(l:List nZ):zZ s l=(l.findIdx? (λe=>e.key=s)).isSome:=by
 simp[zZ]
theorem mL.lookup(h:mL w m l clock)(ht:P.underlying t=some (.map k e))(hk:P.underlying k=some .string)(s:ByteArray)(hz:(zeroValue e).run P w=.ok z w):
  (Instr.lookup t (.map (some m)) (.string s) false).run P w=.ok (vx s z l) w:=by
 have hf:=qu (P:=P) (w:=w) hk s l
 cases hi:l.findIdx? (λe=>e.key=s) with
 | none=>
   rw[hi] at hf;have hv:=xK s z l (by rw[sH,hi];rfl)
   simp[Instr.lookup,run_underlying ht,MapKept.run_getObj_map h,kQ hk,hf,hz,hv]
 | some j=>
   rw[hi] at hf;have hv:=vy s undef z l (by rw[sH,hi];rfl);simp[Instr.lookup,run_underlying ht,MapKept.run_getObj_map h,kQ hk,hf,hv]
theorem mL.len(h:mL w m l clock)(ht:P.underlying t=some (.map k e))(ty:TypeId):(Builtin.len_ #[t] ty #[.map (some m)]).run P w=.ok (.int .i64 l.length) w:=by
 simp[Builtin.len_,run_underlying ht,MapKept.run_getObj_map h,goInt]
theorem xL(s:ByteArray):∀l:List nZ,l.findIdx? (λe=>e.key=s)=none→zY s l=l
 | [],_=>rfl
 | e::r,h=>by
   rw[List.findIdx?_cons] at h
   by_cases he:e.key=s
   ·simp[he] at h
   ·simp only[he,decide_false,Bool.false_eq_true,if_false,Option.map_eq_none_iff] at h
    simp[zY,he,xL s r h]
theorem xM(s:ByteArray):∀(l:List nZ) (j:Nat),l.findIdx? (λe=>e.key=s)=some j→j<l.length∧(zY s l).map nZ.me=(l.map nZ.me).eraseIdx j
 | [],_,h=>by simp at h
 | e::r,j,h=>by
   rw[List.findIdx?_cons] at h
   by_cases he:e.key=s
   ·simp only[he,decide_true,if_true,Option.some.injEq] at h
    subst h;simp[zY,he]
   ·simp only[he,decide_false,Bool.false_eq_true,if_false,Option.map_eq_some_iff] at h
    obtain⟨i,hi,rfl⟩:=h;obtain⟨h0,h1⟩:=xM s r i hi;exact⟨by simpa using h0,by simp[zY,he,h1]⟩
theorem mL.put(h:mL w m l clock)(l':List nZ)(clock':Nat):mL (ChangeMaps.setBlock w m (.map (l'.map nZ.me).toArray clock')) m l' clock':=by
 have:=h.lt;simp[mL,ChangeMaps.setBlock,this]
theorem mL.delete(h:mL w m l clock)(ht:P.underlying t=some (.map k e))(hk:P.underlying k=some .string)(s:ByteArray)(t2:TypeId):
  ∃w',(∀ty,(Builtin.delete_ #[t,t2] ty #[.map (some m),.string s]).run P w=.ok (.tuple #[]) w')∧mL w' m (zY s l) clock∧aa (·=m) w w':=by
 have hf:=qu (P:=P) (w:=w) hk s l;refine⟨ChangeMaps.setBlock w m (.map ((zY s l).map nZ.me).toArray clock),λty=>?_,h.put _ _,(aa.refl (λi=>i=m) w).setBlock (.inl rfl) _⟩
 cases hi:l.findIdx? (λe=>e.key=s) with
 | none=>
   rw[hi] at hf;rw[xL s l hi]
   simp[Builtin.delete_,run_underlying ht,MapKept.run_getObj_map h,kQ hk,hf,MapKept.run_setObj_map _ h,ChangeMaps.setBlock]
 | some j=>
   rw[hi] at hf;obtain⟨_,h1⟩:=xM s l j hi;rw[h1];simp[Builtin.delete_,run_underlying ht,MapKept.run_getObj_map h,kQ hk,hf,MapKept.run_setObj_map _ h,ChangeMaps.setBlock]
def kX(w:World)(r m clock:Nat)(seen:List Nat):Prop:=w.heap[r]? =some (.mapIter (some m) clock seen.toArray clock)
theorem kX.lt{r:Nat}(h:kX w r m clock seen):r<w.heap.size:=fA h
theorem kX.frm{r:Nat}(h:kX w r m clock seen)(hf:aa F w w1)(hn:¬F r):kX w1 r m clock seen:=(hf.block r h.lt hn).trans h
theorem kX.ne_blk{r g:Nat}{t:TypeId}{cs:Array Value}(h:kX w r m clock seen)(hb:ai w g t cs):g≠r:=hb.ne_obj h (λ_ _ _ h=>by cases h)
theorem mL.range(h:mL w m l clock)(ht:P.underlying t=some (.map k e)):
  (Instr.range t (.map (some m))).run P w=.ok (.pointer (some ⟨w.heap.size,0,none⟩)) (w.alloc (.mapIter (some m) clock #[] clock)):=by
 simp[Instr.range,run_underlying ht,MapKept.run_getObj_map h,newObj,Sem.run]
theorem mV{r:Nat}(h:kX w r m clock seen):(getObj r).run P w=.ok (.mapIter (some m) clock seen.toArray clock) w:=by
 unfold kX at h;simp[getObj,Sem.run,h]
def lh(seen:List Nat)(l:List nZ):List nZ:=l.filter λe=>!seen.contains e.born
theorem Ac(seen:List Nat)(l:List nZ):(l.map nZ.me).toArray.filter (λe=>!seen.toArray.contains e.born)=((lh seen l).map nZ.me).toArray:=by
 simp[lh,List.filter_map,Function.comp_def];rfl
theorem J8(clock:Nat)(l:List nZ)(hb:∀e∈l,e.born<clock):((l.map nZ.me).toArray.filter λe=>decide (e.born<clock))=(l.map nZ.me).toArray:=by
 simp[List.filter_map]
 congr 1
 exact List.filter_eq_self.2 λe he=>decide_eq_true (hb e he)
theorem J9(clock:Nat)(l:List nZ)(hb:∀e∈l,e.born<clock):((l.map nZ.me).toArray.filter λe=>decide (e.born≥clock))=#[]:=by
 simp;exact λe he=>hb e he
theorem EJ(clock:Nat)(l:List nZ)(hb:∀e∈l,e.born<clock):(!(l.map nZ.me).toArray.isEmpty&&(l.map nZ.me).toArray.all λe=>decide (e.born≥clock))=false:=by
 cases l with
 | nil=>rfl
 | cons e r=>
   have:=hb e (by simp);have h:¬clock≤e.me.born:=by show ¬clock≤e.born;omega
   simp[h]
theorem mL.next_over{r:Nat}(h:mL w m l clock)(hi:kX w r m clock seen)(hb:∀e∈l,e.born<clock)(hl:lh seen l=[])(ty:TypeId):
  (Instr.next (.pointer (some ⟨r,0,none⟩)) false ty).run P w=.ok (.tuple #[.bool false]) w:=by
 have e1:(lh seen l).map nZ.me=[]:=by rw[hl];rfl
 have hall:=EJ clock l hb;simp only[Instr.next,Sem.run_bind,mV hi,Result.andThen_ok,MapKept.run_getObj_map h,Bool.and_assoc,hall,Bool.and_false];rw[Ac,e1];simp[choose,Sem.run,Question.forced]
theorem xj(n:Nat)(hn:0<n):∃(i d:Nat),i<n∧(choose (.mapNext n)).run P w=.ok i (w.drewN d):=by
 by_cases h1:n≤1
 ·exact⟨0,0,hn,by simp[choose,Sem.run,Question.forced,h1,World.drewN_zero]⟩
 ·exact⟨w.tape w.drawn (.mapNext n) % n,1,Nat.mod_lt _ hn,by simp[choose,Sem.run,Question.forced,h1,Question.cut];rfl⟩
theorem uN{r:Nat}(o:Obj)(h:kX w r m clock seen)(d:Nat):(setObj r o).run P (w.drewN d)=.ok () (ChangeMaps.setBlock (w.drewN d) r o):=by
 unfold kX at h;simp[setObj,Sem.run,h,ChangeMaps.setBlock]
theorem mL.next_some{r:Nat}(h:mL w m l clock)(hi:kX w r m clock seen)(hb:∀e∈l,e.born<clock)(hl:lh seen l≠[]):
  ∃e w',e∈lh seen l∧(∀ty,(Instr.next (.pointer (some ⟨r,0,none⟩)) false ty).run P w=.ok (.tuple #[.bool true,.string e.key,e.val]) w')∧kX w' r m clock (seen++[e.born])∧aa (·=r) w w':=by
 have hall:=EJ clock l hb;have hb':∀e∈lh seen l,e.born<clock:=λe he=>hb e (List.mem_filter.1 he).1
 have xk:0<(lh seen l).length:=by
  rcases hx:lh seen l with _|⟨a,b⟩
  ·exact absurd hx hl
  ·simp
 obtain⟨i,d,hlt,hch⟩:=xj (P:=P) (w:=w) (lh seen l).length xk;have hge:(lh seen l)[i]? =some (lh seen l)[i]:=List.getElem?_eq_getElem hlt;refine⟨(lh seen l)[i],ChangeMaps.setBlock (w.drewN d) r (.mapIter (some m) clock (seen.toArray.push (lh seen l)[i].born) clock),List.getElem_mem hlt,?_,?_,((aa.refl (λi=>i=r) w).drewN d).setBlock (.inl rfl) _⟩
 ·intro ty
  have Hq:((if ((lh seen l).map nZ.me).toArray.isEmpty then #[none] else #[])++(((lh seen l).map nZ.me).toArray++(#[]:Array MapEntry)).map some:Array (Option MapEntry))=((lh seen l).map (λe=>some e.me)).toArray:=by
   have:((lh seen l).map nZ.me).toArray.isEmpty=false:=by
    rcases hx:lh seen l with _|⟨a,b⟩
    ·exact absurd hx hl
    ·rfl
   rw[this];simp
  simp only[Instr.next,Sem.run_bind,mV hi,Result.andThen_ok,MapKept.run_getObj_map h,Bool.and_assoc,hall,Bool.and_false];rw[Ac,J8 clock _ hb',J9 clock _ hb',Hq];simp only[List.size_toArray,List.length_map];simp only[Bool.false_eq_true,if_false,Result.andThen_ok,Sem.run_bind,hch]
  have hg:((lh seen l).map (λe=>some e.me)).toArray[i]? =some (some (lh seen l)[i].me):=by
   simp[hge]
  rw[hg];simp only[Sem.run_bind,uN _ hi,Result.andThen_ok];rfl
 ·have:=hi.lt
  simp[kX,ChangeMaps.setBlock,this]
theorem mL.entry{r:Nat}{e1:nZ}(h:mL w m l clock)(hi:kX w r m clock (seen++[e1.born]))(he:e1∈l)(hn:(l.map (·.born)).Nodup):
  (Instr.entry (.pointer (some ⟨r,0,none⟩))).run P w=.ok (.tuple #[.string e1.key,e1.val]) w:=by
 have Hr:(l.map nZ.me).toArray.find? (λx=>x.born==e1.born)=some e1.me:=by
  clear h hi
  induction l with
  | nil=>cases he
  | cons a r ih=>
    simp only[List.map_cons,List.nodup_cons] at hn;rcases List.mem_cons.1 he with rfl|he
    ·simp[nZ.me]
    ·have hne:a.born≠e1.born:=λe=>hn.1 (by rw[e];exact List.mem_map.2 ⟨e1,he,rfl⟩)
     have:=ih he hn.2;simp only[List.find?_toArray,List.map_cons] at this ⊢;rw[List.find?_cons_of_neg (by simpa [nZ.me] using hne)];exact this
 simp only[Instr.entry,Sem.run_bind,mV hi,Result.andThen_ok];simp[MapKept.run_getObj_map h,Hr,nZ.me]
end
theorem fR(w:World):aa ac w w:=aa.refl ac w
theorem h_{p:Prop}(h:p):Hid p:=Lib.hid h
end
section
structure GE where
 key:Value
 val:Value
 born:Nat
def GE.me(e:GE):MapEntry:=⟨e.key,e.val,e.born⟩
def GE.kv(e:GE):Value×Value:=(e.key,e.val)
def lM(w:World)(m:Nat)(R:List GE)(clock:Nat):Prop:=w.heap[m]? =some (.map (R.map GE.me).toArray clock)
def EK(P:Program)(k:TypeId)(x:Value):Prop:=∃l,keyOf P k x=some l
structure Mi(P:Program)(k:TypeId)(R:List GE)(clock:Nat):Prop where
 born:∀e∈R,e.born<clock
 borns:(R.map (·.born)).Nodup
 keys:(R.map (·.key)).Nodup
 isK:∀e∈R,EK P k e.key
def aV(P:Program)(k:TypeId)(w:World)(m:Nat)(L:List (Value×Value)):Prop:=∃R clock,lM w m R clock∧Mi P k R clock∧(R.map GE.kv).Perm L
theorem sI{x a b:Value}:∀{L:List (Value×Value)},(L.map (·.1)).Nodup→(x,a)∈L→(x,b)∈L→a=b
 | [],_,ha,_=>by cases ha
 | p::r,h,ha,hb=>by
   simp only[List.map_cons,List.nodup_cons] at h;rcases List.mem_cons.1 ha with ha|ha
   ·rcases List.mem_cons.1 hb with hb|hb
    ·rw[←ha] at hb
     exact(congrArg (·.2) hb).symm
    ·have:=List.mem_map_of_mem (f:=λy:Value×Value=>y.1) hb
     rw[←ha] at h;exact absurd this h.1
   ·rcases List.mem_cons.1 hb with hb|hb
    ·have:=List.mem_map_of_mem (f:=λy:Value×Value=>y.1) ha
     rw[←hb] at h;exact absurd this h.1
    ·exact sI h.2 ha hb
theorem vz{α:Type}(f:α→α)(a:α)(B:List α):∀A:List α,(A++a::B).modify A.length f=A++f a::B
 | []=>by simp
 | x::A=>by simp[vz f a B A]
theorem tN{α:Type}(a:α)(B:List α):∀A:List α,(A++a::B).eraseIdx A.length=A++B
 | []=>by simp
 | x::A=>by simp[tN a B A]
section
variable {P:Program} {w w1:World} {m r t k et:TypeId} {R:List GE} {clock:Nat} {F:Nat→Prop} {L L':List (Value×Value)} {x v:Value}
theorem lM.lt(h:lM w m R clock):m<w.heap.size:=fA h
theorem lM.frm(h:lM w m R clock)(hf:aa F w w1)(hn:¬F m):lM w1 m R clock:=(hf.block m h.lt hn).trans h
theorem lM.ne_blk{g:Nat}{t:TypeId}{cs:Array Value}(h:lM w m R clock)(hb:ai w g t cs):g≠m:=hb.ne_obj h (λ_ _ _ h=>by cases h)
theorem lM.put(h:lM w m R clock)(R':List GE)(clock':Nat):lM (ChangeMaps.setBlock w m (.map (R'.map GE.me).toArray clock')) m R' clock':=by
 have:=h.lt;simp[lM,ChangeMaps.setBlock,this]
theorem aV.lt(h:aV P k w m L):m<w.heap.size:=by
 obtain⟨R,clock,h,-⟩:=h;exact h.lt
theorem aV.frm(h:aV P k w m L)(hf:aa F w w1)(hn:¬F m):aV P k w1 m L:=by
 obtain⟨R,clock,h,h2⟩:=h;exact⟨R,clock,h.frm hf hn,h2⟩
theorem aV.ne_blk{g:Nat}{t:TypeId}{cs:Array Value}(h:aV P k w m L)(hb:ai w g t cs):g≠m:=by
 obtain⟨R,clock,h,h2⟩:=h;exact h.ne_blk hb
theorem aV.perm(h:aV P k w m L)(hp:L.Perm L'):aV P k w m L':=by
 obtain⟨R,clock,h,h2,h3⟩:=h;exact⟨R,clock,h,h2,h3.trans hp⟩
theorem aV.keys(h:aV P k w m L):(L.map (·.1)).Nodup:=by
 obtain⟨R,clock,h,h2,h3⟩:=h;have h4:=h2.keys;have e:R.map (·.key)=(R.map GE.kv).map (·.1):=by simp[GE.kv,Function.comp_def]
 rw[e] at h4;exact(h3.map (·.1)).nodup_iff.1 h4
theorem aV.isK(h:aV P k w m L):∀p∈L,EK P k p.1:=by
 obtain⟨R,clock,h,h2,h3⟩:=h;intro p hp;obtain⟨e,he,rfl⟩:=List.mem_map.1 (h3.mem_iff.2 hp);exact h2.isK e he
theorem Mi.find(K:Keyed P k)(h:Mi P k R clock)(hx:EK P k x):
  ((Instr.findKey k x (R.map GE.me)).run P w=.ok none w∧∀e∈R,e.key≠x)∨∃j e,(Instr.findKey k x (R.map GE.me)).run P w=.ok (some (j,e.val)) w∧R[j]? =some e∧e.key=x:=by
 obtain⟨lx,hx⟩:=hx
 rcases K.find w hx (R.map GE.me) (λe he=>by
  obtain⟨a,ha,rfl⟩:=List.mem_map.1 he;exact h.isK a ha) with ⟨h1,h2⟩|⟨j,e,h1,h2,h3⟩
 ·exact .inl ⟨h1,λe he=>h2 e.me (List.mem_map.2 ⟨e,he,rfl⟩)⟩
 ·rw[List.getElem?_map] at h2
  obtain⟨a,ha,rfl⟩:=Option.map_eq_some_iff.1 h2;exact .inr ⟨j,a,h1,ha,h3⟩
theorem nx(K:Keyed P k)(hx:EK P k x)(em:Bool):(Instr.checkKey em 10000 k x).run P w=.ok () w:=by
 obtain⟨lx,hx⟩:=hx;exact K.check w em hx
theorem aV.lookup_yes(K:Keyed P k)(h:aV P k w m L)(ht:P.underlying t=some (.map k et))(hm:(x,v)∈L)(ok:Bool):
  (Instr.lookup t (.map (some m)) x ok).run P w=.ok (if ok=true then .tuple #[v,.bool true] else v) w:=by
 have hx:=h.isK _ hm;have hk:=h.keys;obtain⟨R,clock,h1,h2,h3⟩:=h;rcases h2.find K hx (w:=w) with ⟨-,hn⟩|⟨j,e,hf,hj,he⟩
 ·obtain⟨e,he,hev⟩:=List.mem_map.1 (h3.mem_iff.2 hm)
  exact absurd (congrArg (·.1) hev) (hn e he)
 ·have hv:e.val=v:=by
   have m1:(e.key,e.val)∈L:=h3.mem_iff.1 (List.mem_map.2 ⟨e,List.mem_of_getElem? hj,rfl⟩);rw[he] at m1;exact sI hk m1 hm
  simp[Instr.lookup,run_underlying ht,MapKept.run_getObj_map h1,nx K hx,hf,hv]
theorem aV.lookup_no(K:Keyed P k)(h:aV P k w m L)(ht:P.underlying t=some (.map k et))(hx:EK P k x)(hn:∀p∈L,p.1≠x)(hz:(zeroValue et).run P w=.ok z w)(ok:Bool):
  (Instr.lookup t (.map (some m)) x ok).run P w=.ok (if ok=true then .tuple #[z,.bool false] else z) w:=by
 obtain⟨R,clock,h1,h2,h3⟩:=h;rcases h2.find K hx (w:=w) with ⟨hf,-⟩|⟨j,e,hf,hj,he⟩
 ·simp[Instr.lookup,run_underlying ht,MapKept.run_getObj_map h1,nx K hx,hf,hz]
 ·exact absurd he (hn (e.key,e.val) (h3.mem_iff.1 (List.mem_map.2 ⟨e,List.mem_of_getElem? hj,rfl⟩)))
theorem aV.len(h:aV P k w m L)(ht:P.underlying t=some (.map k et))(ty:TypeId):(Builtin.len_ #[t] ty #[.map (some m)]).run P w=.ok (.int .i64 L.length) w:=by
 obtain⟨R,clock,h1,h2,h3⟩:=h;have e:R.length=L.length:=by simpa using h3.length_eq
 simp[Builtin.len_,run_underlying ht,MapKept.run_getObj_map h1,goInt,e]
theorem aV.update_new(K:Keyed P k)(h:aV P k w m L)(ht:P.underlying t=some (.map k et))(hx:EK P k x)(hn:∀p∈L,p.1≠x)(v:Value):
  ∃w',(Instr.mapUpdate t (.map (some m)) x v).run P w=.ok () w'∧aV P k w' m ((x,v)::L)∧aa (·=m) w w':=by
 obtain⟨R,clock,h1,h2,h3⟩:=h;have UF:∀e∈R,e.key≠x:=λe he=>hn (e.key,e.val) (h3.mem_iff.1 (List.mem_map.2 ⟨e,he,rfl⟩))
 refine⟨ChangeMaps.setBlock w m (.map ((R++[(⟨x,v,clock⟩:GE)]).map GE.me).toArray (clock+1)),?_,⟨R++[(⟨x,v,clock⟩:GE)],clock+1,h1.put _ _,?_,?_⟩,(aa.refl (λi=>i=m) w).setBlock (.inl rfl) _⟩
 ·rcases h2.find K hx (w:=w) with ⟨hf,-⟩|⟨j,e,hf,hj,he⟩
  ·simp[Instr.mapUpdate,run_underlying ht,MapKept.run_getObj_map h1,nx K hx,hf,MapKept.run_setObj_map _ h1,ChangeMaps.setBlock,GE.me]
  ·exact absurd he (UF e (List.mem_of_getElem? hj))
 ·refine⟨λe he=>?_,?_,?_,λe he=>?_⟩
  ·rcases List.mem_append.1 he with he|he
   ·exact Nat.lt_succ_of_lt (h2.born e he)
   ·simp at he;subst he;exact Nat.lt_succ_self _
  ·rw[List.map_append]
   refine List.nodup_append.2 ⟨h2.borns,by simp,λa ha b hb=>?_⟩;simp at hb;subst hb;obtain⟨e,he,rfl⟩:=List.mem_map.1 ha;exact Nat.ne_of_lt (h2.born e he)
  ·rw[List.map_append]
   refine List.nodup_append.2 ⟨h2.keys,by simp,λa ha b hb=>?_⟩;simp at hb;subst hb;obtain⟨e,he,rfl⟩:=List.mem_map.1 ha;exact UF e he
  ·rcases List.mem_append.1 he with he|he
   ·exact h2.isK e he
   ·simp at he;subst he;exact hx
 ·rw[List.map_append]
  exact(List.perm_append_comm).trans (by simpa [GE.kv] using h3)
theorem aV.update_old(K:Keyed P k){rest:List (Value×Value)}(h:aV P k w m L)(ht:P.underlying t=some (.map k et))(hp:L.Perm ((x,v0)::rest))(v:Value):
  ∃w',(Instr.mapUpdate t (.map (some m)) x v).run P w=.ok () w'∧aV P k w' m ((x,v)::rest)∧aa (·=m) w w':=by
 have hm:(x,v0)∈L:=hp.mem_iff.2 (List.mem_cons_self ..);have hx:=h.isK _ hm;have hk:=h.keys;obtain⟨R,clock,h1,h2,h3⟩:=h;rcases h2.find K hx (w:=w) with ⟨hf,hn⟩|⟨j,e,hf,hj,he⟩
 ·obtain⟨e,he,hev⟩:=List.mem_map.1 (h3.mem_iff.2 hm)
  exact absurd (congrArg (·.1) hev) (hn e he)
 ·have xl:j<R.length:=(List.getElem?_eq_some_iff.1 hj).1
  have Ka:R[j]=e:=(List.getElem?_eq_some_iff.1 hj).2
  have hv:e.val=v0:=by
   have m1:(e.key,e.val)∈L:=h3.mem_iff.1 (List.mem_map.2 ⟨e,List.mem_of_getElem? hj,rfl⟩);rw[he] at m1;exact sI hk m1 hm
  have kY:R=R.take j++e::R.drop (j+1):=by
   rw[←Ka,List.getElem_cons_drop,List.take_append_drop]
  obtain⟨A,hA⟩:∃A,A=R.take j:=⟨_,rfl⟩;obtain⟨B,hB⟩:∃B,B=R.drop (j+1):=⟨_,rfl⟩;rw[←hA,←hB] at kY;have Mj:A.length=j:=by rw[hA,List.length_take];omega
  have hmod:(R.map GE.me).modify j (λy=>{y with key:=x,val:=v})=(A++(⟨x,v,e.born⟩:GE)::B).map GE.me:=by
   rw[kY,←Mj,List.map_append,List.map_append,List.map_cons,List.map_cons];have:A.length=(A.map GE.me).length:=by simp
   rw[this,vz];simp[GE.me]
  refine⟨ChangeMaps.setBlock w m (.map ((A++(⟨x,v,e.born⟩:GE)::B).map GE.me).toArray clock),?_,⟨A++(⟨x,v,e.born⟩:GE)::B,clock,h1.put _ _,?_,?_⟩,(aa.refl (λi=>i=m) w).setBlock (.inl rfl) _⟩
  ·obtain⟨lx,hlx⟩:=hx
   have h4:(((R.map GE.me).toArray[j]?).map (·.key)).getD x=x:=by
    simp[hj,GE.me,he]
   simp only[Instr.mapUpdate,Sem.run_bind,run_underlying ht,Result.andThen_ok,MapKept.run_getObj_map h1,nx K ⟨lx,hlx⟩,hf,h4,K.stays w hlx];rw[MapKept.run_setObj_map _ h1,←hmod];simp[ChangeMaps.setBlock]
  ·have g1:=h2.born
   have g2:=h2.borns;have g3:=h2.keys;have g4:=h2.isK;rw[kY] at g1 g2 g3 g4;refine⟨λy hy=>?_,by simpa using g2,by rw[List.map_append,List.map_cons] at g3 ⊢;rw[he] at g3;exact g3,λy hy=>?_⟩
   ·rcases List.mem_append.1 hy with hy|hy
    ·exact g1 y (List.mem_append_left _ hy)
    ·rcases List.mem_cons.1 hy with rfl|hy
     ·exact g1 e (List.mem_append_right _ (List.mem_cons_self ..))
     ·exact g1 y (List.mem_append_right _ (List.mem_cons_of_mem _ hy))
   ·rcases List.mem_append.1 hy with hy|hy
    ·exact g4 y (List.mem_append_left _ hy)
    ·rcases List.mem_cons.1 hy with rfl|hy
     ·exact hx
     ·exact g4 y (List.mem_append_right _ (List.mem_cons_of_mem _ hy))
  ·rw[kY] at h3
   have p1:((x,v0)::(A++B).map GE.kv).Perm ((x,v0)::rest):=by
    refine List.Perm.trans ?_ (h3.trans hp);rw[List.map_append,List.map_append,List.map_cons];have:e.kv=(x,v0):=by unfold GE.kv;rw[he,hv]
    rw[this];exact List.perm_middle.symm
   have p2:=List.Perm.cons_inv p1;rw[List.map_append,List.map_cons];refine List.perm_middle.trans ?_;rw[←List.map_append];exact p2.cons (x,v)
theorem aV.delete_yes(K:Keyed P k){rest:List (Value×Value)}(h:aV P k w m L)(ht:P.underlying t=some (.map k et))(hp:L.Perm ((x,v0)::rest))(t2:TypeId):
  ∃w',(∀ty,(Builtin.delete_ #[t,t2] ty #[.map (some m),x]).run P w=.ok (.tuple #[]) w')∧aV P k w' m rest∧aa (·=m) w w':=by
 have hm:(x,v0)∈L:=hp.mem_iff.2 (List.mem_cons_self ..);have hx:=h.isK _ hm;have hk:=h.keys;obtain⟨R,clock,h1,h2,h3⟩:=h;rcases h2.find K hx (w:=w) with ⟨hf,hn⟩|⟨j,e,hf,hj,he⟩
 ·obtain⟨e,he,hev⟩:=List.mem_map.1 (h3.mem_iff.2 hm)
  exact absurd (congrArg (·.1) hev) (hn e he)
 ·have xl:j<R.length:=(List.getElem?_eq_some_iff.1 hj).1
  have Ka:R[j]=e:=(List.getElem?_eq_some_iff.1 hj).2
  have hv:e.val=v0:=by
   have m1:(e.key,e.val)∈L:=h3.mem_iff.1 (List.mem_map.2 ⟨e,List.mem_of_getElem? hj,rfl⟩);rw[he] at m1;exact sI hk m1 hm
  have kY:R=R.take j++e::R.drop (j+1):=by
   rw[←Ka,List.getElem_cons_drop,List.take_append_drop]
  obtain⟨A,hA⟩:∃A,A=R.take j:=⟨_,rfl⟩;obtain⟨B,hB⟩:∃B,B=R.drop (j+1):=⟨_,rfl⟩;rw[←hA,←hB] at kY;have Mj:A.length=j:=by rw[hA,List.length_take];omega
  have MO:(R.map GE.me).eraseIdx j=(A++B).map GE.me:=by
   rw[kY,←Mj,List.map_append,List.map_append,List.map_cons];have:A.length=(A.map GE.me).length:=by simp
   rw[this,tN]
  have xm:(A++B).Sublist R:=by
   rw[kY];exact(List.Sublist.refl A).append (List.sublist_cons_self e B)
  refine⟨ChangeMaps.setBlock w m (.map ((A++B).map GE.me).toArray clock),λty=>?_,⟨A++B,clock,h1.put _ _,?_,?_⟩,(aa.refl (λi=>i=m) w).setBlock (.inl rfl) _⟩
  ·rw[←MO]
   simp[Builtin.delete_,run_underlying ht,MapKept.run_getObj_map h1,nx K hx,hf,MapKept.run_setObj_map _ h1,ChangeMaps.setBlock]
  ·exact⟨λy hy=>h2.born y (xm.subset hy),(xm.map _).nodup h2.borns,(xm.map _).nodup h2.keys,λy hy=>h2.isK y (xm.subset hy)⟩
  ·rw[kY] at h3
   have p1:((x,v0)::(A++B).map GE.kv).Perm ((x,v0)::rest):=by
    refine List.Perm.trans ?_ (h3.trans hp);rw[List.map_append,List.map_append,List.map_cons];have:e.kv=(x,v0):=by unfold GE.kv;rw[he,hv]
    rw[this];exact List.perm_middle.symm
   exact List.Perm.cons_inv p1
end
section
variable {P:Program} {w w1:World} {m t k e:TypeId} {l:List GE} {clock:Nat} {F:Nat→Prop}
def kM(w:World)(r m clock:Nat)(seen:List Nat):Prop:=w.heap[r]? =some (.mapIter (some m) clock seen.toArray clock)
theorem kM.lt{r:Nat}(h:kM w r m clock seen):r<w.heap.size:=fA h
theorem kM.frm{r:Nat}(h:kM w r m clock seen)(hf:aa F w w1)(hn:¬F r):kM w1 r m clock seen:=(hf.block r h.lt hn).trans h
theorem kM.ne_blk{r g:Nat}{t:TypeId}{cs:Array Value}(h:kM w r m clock seen)(hb:ai w g t cs):g≠r:=hb.ne_obj h (λ_ _ _ h=>by cases h)
theorem lM.range(h:lM w m l clock)(ht:P.underlying t=some (.map k e)):
  (Instr.range t (.map (some m))).run P w=.ok (.pointer (some ⟨w.heap.size,0,none⟩)) (w.alloc (.mapIter (some m) clock #[] clock)):=by
 simp[Instr.range,run_underlying ht,MapKept.run_getObj_map h,newObj,Sem.run]
theorem mj{r:Nat}(h:kM w r m clock seen):(getObj r).run P w=.ok (.mapIter (some m) clock seen.toArray clock) w:=by
 unfold kM at h;simp[getObj,Sem.run,h]
def ed(seen:List Nat)(l:List GE):List GE:=l.filter λe=>!seen.contains e.born
theorem xN(seen:List Nat)(l:List GE):(l.map GE.me).toArray.filter (λe=>!seen.toArray.contains e.born)=((ed seen l).map GE.me).toArray:=by
 simp[ed,List.filter_map,Function.comp_def];rfl
theorem Hs(clock:Nat)(l:List GE)(hb:∀e∈l,e.born<clock):((l.map GE.me).toArray.filter λe=>decide (e.born<clock))=(l.map GE.me).toArray:=by
 simp[List.filter_map]
 congr 1
 exact List.filter_eq_self.2 λe he=>decide_eq_true (hb e he)
theorem Ht(clock:Nat)(l:List GE)(hb:∀e∈l,e.born<clock):((l.map GE.me).toArray.filter λe=>decide (e.born≥clock))=#[]:=by
 simp;exact λe he=>hb e he
theorem Ad(clock:Nat)(l:List GE)(hb:∀e∈l,e.born<clock):(!(l.map GE.me).toArray.isEmpty&&(l.map GE.me).toArray.all λe=>decide (e.born≥clock))=false:=by
 cases l with
 | nil=>rfl
 | cons e r=>
   have:=hb e (by simp);have h:¬clock≤e.me.born:=by show ¬clock≤e.born;omega
   simp[h]
theorem lM.next_over{r:Nat}(h:lM w m l clock)(hi:kM w r m clock seen)(hb:∀e∈l,e.born<clock)(hl:ed seen l=[])(ty:TypeId):
  (Instr.next (.pointer (some ⟨r,0,none⟩)) false ty).run P w=.ok (.tuple #[.bool false]) w:=by
 have e1:(ed seen l).map GE.me=[]:=by rw[hl];rfl
 have hall:=Ad clock l hb;simp only[Instr.next,Sem.run_bind,mj hi,Result.andThen_ok,MapKept.run_getObj_map h,Bool.and_assoc,hall,Bool.and_false];rw[xN,e1];simp[choose,Sem.run,Question.forced]
theorem vB(n:Nat)(hn:0<n):∃(i d:Nat),i<n∧(choose (.mapNext n)).run P w=.ok i (w.drewN d):=by
 by_cases h1:n≤1
 ·exact⟨0,0,hn,by simp[choose,Sem.run,Question.forced,h1,World.drewN_zero]⟩
 ·exact⟨w.tape w.drawn (.mapNext n) % n,1,Nat.mod_lt _ hn,by simp[choose,Sem.run,Question.forced,h1,Question.cut];rfl⟩
theorem tO{r:Nat}(o:Obj)(h:kM w r m clock seen)(d:Nat):(setObj r o).run P (w.drewN d)=.ok () (ChangeMaps.setBlock (w.drewN d) r o):=by
 unfold kM at h;simp[setObj,Sem.run,h,ChangeMaps.setBlock]
theorem lM.next_some{r:Nat}(h:lM w m l clock)(hi:kM w r m clock seen)(hb:∀e∈l,e.born<clock)(hl:ed seen l≠[]):
  ∃e w',e∈ed seen l∧(∀ty,(Instr.next (.pointer (some ⟨r,0,none⟩)) false ty).run P w=.ok (.tuple #[.bool true,e.key,e.val]) w')∧kM w' r m clock (seen++[e.born])∧aa (·=r) w w':=by
 have hall:=Ad clock l hb;have hb':∀e∈ed seen l,e.born<clock:=λe he=>hb e (List.mem_filter.1 he).1
 have xk:0<(ed seen l).length:=by
  rcases hx:ed seen l with _|⟨a,b⟩
  ·exact absurd hx hl
  ·simp
 obtain⟨i,d,hlt,hch⟩:=vB (P:=P) (w:=w) (ed seen l).length xk;have hge:(ed seen l)[i]? =some (ed seen l)[i]:=List.getElem?_eq_getElem hlt;refine⟨(ed seen l)[i],ChangeMaps.setBlock (w.drewN d) r (.mapIter (some m) clock (seen.toArray.push (ed seen l)[i].born) clock),List.getElem_mem hlt,?_,?_,((aa.refl (λi=>i=r) w).drewN d).setBlock (.inl rfl) _⟩
 ·intro ty
  have Hq:((if ((ed seen l).map GE.me).toArray.isEmpty then #[none] else #[])++(((ed seen l).map GE.me).toArray++(#[]:Array MapEntry)).map some:Array (Option MapEntry))=((ed seen l).map (λe=>some e.me)).toArray:=by
   have:((ed seen l).map GE.me).toArray.isEmpty=false:=by
    rcases hx:ed seen l with _|⟨a,b⟩
    ·exact absurd hx hl
    ·rfl
   rw[this];simp
  simp only[Instr.next,Sem.run_bind,mj hi,Result.andThen_ok,MapKept.run_getObj_map h,Bool.and_assoc,hall,Bool.and_false];rw[xN,Hs clock _ hb',Ht clock _ hb',Hq];simp only[List.size_toArray,List.length_map];simp only[Bool.false_eq_true,if_false,Result.andThen_ok,Sem.run_bind,hch]
  have hg:((ed seen l).map (λe=>some e.me)).toArray[i]? =some (some (ed seen l)[i].me):=by
   simp[hge]
  rw[hg];simp only[Sem.run_bind,tO _ hi,Result.andThen_ok];rfl
 ·have:=hi.lt
  simp[kM,ChangeMaps.setBlock,this]
def leftGN(w:World)(r:Nat)(l:List GE):Nat:=match w.heap[r]? with|some (.mapIter _ _ seen _)=>(ed seen.toList l).length|_=>0
theorem kM.leftGN{r:Nat}(h:kM w r m clock seen)(l:List GE):leftGN w r l=(ed seen l).length:=by
 unfold kM at h;simp[YtaecjmiobllhmaaGreat.leftGN,h]
theorem CB{e:GE}(hn:(l.map (·.born)).Nodup)(he:e∈ed seen l):(ed seen l).Perm (e::ed (seen++[e.born]) l):=by
 induction l with
 | nil=>cases he
 | cons a r ih=>
   simp only[List.map_cons,List.nodup_cons] at hn
   have Mk:∀sn:List Nat,ed sn (a::r)=if a.born∈sn then ed sn r else a::ed sn r:=by
    intro sn;simp[ed,List.filter_cons]
   rw[Mk] at he ⊢;rw[Mk]
   by_cases hs:a.born∈seen
   ·rw[if_pos hs] at he ⊢
    rw[if_pos (by simp[hs])];exact ih hn.2 he
   ·rw[if_neg hs] at he ⊢
    rcases List.mem_cons.1 he with rfl|he
    ·rw[if_pos (by simp)]
     refine List.Perm.cons _ ?_
     have:ed (seen++[e.born]) r=ed seen r:=by
      refine List.filter_congr λx hx=>?_
      have hne:x.born≠e.born:=λe1=>hn.1 (by rw[←e1];exact List.mem_map.2 ⟨x,hx,rfl⟩)
      simp[hne]
     rw[this]
    ·have hne:a.born≠e.born:=λe1=>hn.1 (by rw[e1];exact List.mem_map.2 ⟨e,(List.mem_filter.1 he).1,rfl⟩)
     rw[if_neg (by simp[hs,hne])];exact((ih hn.2 he).cons a).trans (List.Perm.swap _ _ _)
theorem lM.entry{r:Nat}{e1:GE}(h:lM w m l clock)(hi:kM w r m clock (seen++[e1.born]))(he:e1∈l)(hn:(l.map (·.born)).Nodup):
  (Instr.entry (.pointer (some ⟨r,0,none⟩))).run P w=.ok (.tuple #[e1.key,e1.val]) w:=by
 have Hr:(l.map GE.me).toArray.find? (λx=>x.born==e1.born)=some e1.me:=by
  clear h hi
  induction l with
  | nil=>cases he
  | cons a r ih=>
    simp only[List.map_cons,List.nodup_cons] at hn;rcases List.mem_cons.1 he with rfl|he
    ·simp[GE.me]
    ·have hne:a.born≠e1.born:=λe=>hn.1 (by rw[e];exact List.mem_map.2 ⟨e1,he,rfl⟩)
     have:=ih he hn.2;simp only[List.find?_toArray,List.map_cons] at this ⊢;rw[List.find?_cons_of_neg (by simpa [GE.me] using hne)];exact this
 simp only[Instr.entry,Sem.run_bind,mj hi,Result.andThen_ok];simp[MapKept.run_getObj_map h,Hr,GE.me]
end
end
end Go.Proofs.YtaecjmiobllhmaaGreat
