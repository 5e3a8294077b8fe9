/- Words. -/
import Derived.Test.YtaecjmiobllhmaaGreatGp08
import Derived.Test.YtaecjmiobllhmaaGreatGp02
set_option linter.unusedVariables false
set_option linter.unusedSimpArgs false
namespace Go.Proofs.YtaecjmiobllhmaaGreat
section
structure Fol where
 id:Int
 inn:Int
 name:ByteArray
structure Fee where
 id:Int
 inn:Int
 url:ByteArray
 title:ByteArray
structure Itm where
 id:Int
 feed:Int
 date:Int
 guid:ByteArray
 title:ByteArray
 link:ByteArray
 read:Bool
 star:Bool
 tags:List ByteArray
structure Sea where
 id:Int
 name:ByteArray
 query:ByteArray
structure St where
 clock:Int
 fols:List Fol
 fees:List Fee
 itms:List Itm
 seas:List Sea
 tFol:Int
 tFee:Int
 tItm:Int
 tSea:Int
def st0:St:=⟨0,[],[],[],[],0,0,0,0⟩
instance:DecidableEq Fol:=λx y=>decidable_of_iff (x.id=y.id∧x.inn=y.inn∧x.name=y.name) ⟨λ⟨h1,h2,h3⟩=>by cases x;cases y;simp_all,λh=>by subst h;simp⟩
instance:DecidableEq Fee:=λx y=>decidable_of_iff (x.id=y.id∧x.inn=y.inn∧x.url=y.url∧x.title=y.title) ⟨λ⟨h1,h2,h3,h4⟩=>by cases x;cases y;simp_all,λh=>by subst h;simp⟩
instance:DecidableEq Itm:=λx y=>decidable_of_iff (x.id=y.id∧x.feed=y.feed∧x.date=y.date∧x.guid=y.guid∧x.title=y.title∧x.link=y.link∧x.read=y.read∧x.star=y.star∧x.tags=y.tags)
 ⟨λ⟨h1,h2,h3,h4,h5,h6,h7,h8,h9⟩=>by cases x;cases y;simp_all,λh=>by subst h;simp⟩
instance:DecidableEq Sea:=λx y=>decidable_of_iff (x.id=y.id∧x.name=y.name∧x.query=y.query) ⟨λ⟨h1,h2,h3⟩=>by cases x;cases y;simp_all,λh=>by subst h;simp⟩
instance:DecidableEq St:=λx y=>decidable_of_iff (x.clock=y.clock∧x.fols=y.fols∧x.fees=y.fees∧x.itms=y.itms∧x.seas=y.seas∧x.tFol=y.tFol∧x.tFee=y.tFee∧x.tItm=y.tItm∧x.tSea=y.tSea)
 ⟨λ⟨h1,h2,h3,h4,h5,h6,h7,h8,h9⟩=>by cases x;cases y;simp_all,λh=>by subst h;simp⟩
def Fol.cells(f:Fol):List Value:=[.int .i64 f.id,.int .i64 f.inn,.string f.name]
def Fee.cells(f:Fee):List Value:=[.int .i64 f.id,.int .i64 f.inn,.string f.url,.string f.title]
def Sea.cells(f:Sea):List Value:=[.int .i64 f.id,.string f.name,.string f.query]
section
variable {α:Type}
def posI(g:α→Int)(id:Int)(l:List α):Nat:=l.findIdx λx=>g x=id
def isI(g:α→Int)(id:Int)(l:List α):Bool:=l.any λx=>g x=id
def atI(g:α→Int)(id:Int)(l:List α):Option α:=l.find? λx=>g x=id
def insI(g:α→Int)(x:α)(l:List α):List α:=(l.takeWhile λy=>g y<g x)++x::l.dropWhile λy=>g y<g x
def delI(g:α→Int)(id:Int)(l:List α):List α:=l.eraseP λx=>g x=id
def updI(g:α→Int)(id:Int)(f:α→α):List α→List α
 | []=>[]
 | x::r=>if g x=id then f x::r else x::updI g id f r
end
def deepG(l:List Fol):Nat→Nat→Int→Nat
 | 0,n,id=>if id=0 then n else 8
 | k+1,n,id=>if id=0 then n else match atI Fol.id id l with
   | none=>8
   | some f=>deepG l k (n+1) f.inn
def deepS(x:St)(id:Int):Nat:=if isI Fol.id id x.fols=true then deepG x.fols 7 0 id else 0
def placeS(x:St)(url:ByteArray):Int:=match x.fees.find? λf=>f.url=url with | some f=>f.id | none=>0
def guidS(x:St)(feed:Int)(g:ByteArray):Int:=match x.itms.find? λt=>t.feed=feed∧t.guid=g with | some t=>t.id | none=>0
def namedS(x:St)(inn:Int)(name:ByteArray):Bool:=x.fols.any λf=>f.inn=inn∧f.name=name
def emptyS(x:St)(id:Int):Bool:=!(x.fols.any λf=>f.inn=id)&&!(x.fees.any λf=>f.inn=id)
def inS(x:St)(id:Int):Bool:=decide (id=0)||isI Fol.id id x.fols
def fits(x:St)(e:Ev):Bool:=
 if evOk e=false then false
 else if e.kind=1 then !isI Fol.id e.a x.fols&&decide (x.fols.length<64)&&inS x e.b&&decide (deepS x e.b<7)&&!namedS x e.b e.s
 else if e.kind=2 then isI Fol.id e.a x.fols&&emptyS x e.a
 else if e.kind=3 then !isI Fee.id e.a x.fees&&decide (x.fees.length<64)&&inS x e.b&&decide (placeS x e.s=0)
 else if e.kind=4∨e.kind=5 then isI Fee.id e.a x.fees
 else if e.kind=6 then isI Fee.id e.a x.fees&&inS x e.b
 else if e.kind=7 then !isI Itm.id e.a x.itms&&decide (x.itms.length<1024)&&isI Fee.id e.b x.fees&&decide (guidS x e.b e.s=0)
 else if e.kind=8∨e.kind=9 then isI Itm.id e.a x.itms
 else if e.kind=10 then match atI Itm.id e.a x.itms with
  | none=>false
  | some t=>decide (e.n=0)||t.tags.any (λy=>y=e.s)||decide (t.tags.length<8)
 else if e.kind=11 then !isI Sea.id e.a x.seas&&decide (x.seas.length<32)
 else if e.kind=12 then isI Sea.id e.a x.seas
 else decide (x.clock≤e.n)
def ltB(a b:ByteArray):Prop:=bys a<bys b
instance (a b:ByteArray):Decidable (ltB a b):=inferInstanceAs (Decidable (bys a<bys b))
def tagsG(t:ByteArray):Bool→List ByteArray→List ByteArray
 | done,[]=>if done=true then [] else [t]
 | done,x::r=>if done=false∧ltB t x then t::(if x=t then tagsG t true r else x::tagsG t true r) else if x=t then tagsG t done r else x::tagsG t done r
def tagsS(l:List ByteArray)(t:ByteArray)(w:Bool):List ByteArray:=tagsG t (!w) l
def madeS(x:St)(e:Ev):St:=
 if e.kind=1 then {x with fols:=insI Fol.id ⟨e.a,e.b,e.s⟩ x.fols,tFol:=max x.tFol e.a}
 else if e.kind=3 then {x with fees:=insI Fee.id ⟨e.a,e.b,e.s,e.t⟩ x.fees,tFee:=max x.tFee e.a}
 else if e.kind=7 then {x with itms:=insI Itm.id ⟨e.a,e.b,e.n,e.s,e.t,e.u,false,false,[]⟩ x.itms,tItm:=max x.tItm e.a}
 else {x with seas:=insI Sea.id ⟨e.a,e.s,e.t⟩ x.seas,tSea:=max x.tSea e.a}
def doS(x:St)(e:Ev):St:=
 if e.kind=1∨e.kind=3∨e.kind=7∨e.kind=11 then madeS x e
 else if e.kind=2 then {x with fols:=delI Fol.id e.a x.fols}
 else if e.kind=4 then {x with fees:=delI Fee.id e.a x.fees,itms:=x.itms.filter λt=>t.feed≠e.a}
 else if e.kind=12 then {x with seas:=delI Sea.id e.a x.seas}
 else if e.kind=13 then {x with clock:=e.n}
 else if e.kind=5 then {x with fees:=updI Fee.id e.a (λf=>{f with title:=e.t}) x.fees}
 else if e.kind=6 then {x with fees:=updI Fee.id e.a (λf=>{f with inn:=e.b}) x.fees}
 else if e.kind=8 then {x with itms:=updI Itm.id e.a (λt=>{t with read:=decide (e.n=1)}) x.itms}
 else if e.kind=9 then {x with itms:=updI Itm.id e.a (λt=>{t with star:=decide (e.n=1)}) x.itms}
 else {x with itms:=updI Itm.id e.a (λt=>{t with tags:=tagsS t.tags e.s (decide (e.n=1))}) x.itms}
def applyS(x:St)(e:Ev):St×Bool:=if fits x e=true then (doS x e,true) else (x,false)
def foldE(x:St)(l:List Ev):St:=l.foldl (λy e=>(applyS y e).1) x
def allG{α:Type}(p:List α→α→Bool):List α→List α→Bool
 | _,[]=>true
 | pre,a::r=>p pre a&&allG p (pre++[a]) r
def risesI{α:Type}(g:α→Int)(pre:List α)(a:α):Bool:=match pre.getLast? with | none=>true | some b=>decide (g b<g a)
def folsOk(x:St):Bool:=
 allG (λpre f=>evOk ⟨1,f.id,f.inn,0,f.name,eS,eS⟩&&decide (f.id≤x.tFol)&&risesI Fol.id pre f&&decide (deepS x f.id≤7)&&!(pre.any λg=>g.inn=f.inn∧g.name=f.name)) [] x.fols
  &&decide (x.fols.length≤64)&&decide (0≤x.tFol∧x.tFol≤1048576)
def feesOk(x:St):Bool:=
 allG (λpre f=>evOk ⟨3,f.id,f.inn,0,f.url,f.title,eS⟩&&decide (f.id≤x.tFee)&&risesI Fee.id pre f&&inS x f.inn&&!(pre.any λg=>g.url=f.url)) [] x.fees
  &&decide (x.fees.length≤64)&&decide (0≤x.tFee∧x.tFee≤1048576)
def tagsRise:List ByteArray→Bool
 | []=>true
 | [a]=>tagOk a
 | a::b::r=>tagOk a&&decide (ltB a b)&&tagsRise (b::r)
def itmsOk(x:St):Bool:=
 allG (λpre t=>evOk ⟨7,t.id,t.feed,t.date,t.guid,t.title,t.link⟩&&decide (t.id≤x.tItm)&&risesI Itm.id pre t&&isI Fee.id t.feed x.fees&&decide (t.tags.length≤8)&&tagsRise t.tags&&!(pre.any λg=>g.feed=t.feed∧g.guid=t.guid)) [] x.itms
  &&decide (x.itms.length≤1024)&&decide (0≤x.tItm∧x.tItm≤1048576)&&decide (x.tItm=0∨0<x.tFee)
def seasOk(x:St):Bool:=
 allG (λpre s=>evOk ⟨11,s.id,0,0,s.name,s.query,eS⟩&&decide (s.id≤x.tSea)&&risesI Sea.id pre s) [] x.seas
  &&decide (x.seas.length≤32)&&decide (0≤x.tSea∧x.tSea≤1048576)
def stOk(x:St):Bool:=seasOk x&&decide (0≤x.clock)&&evOk ⟨13,0,0,x.clock,eS,eS,eS⟩&&folsOk x&&feesOk x&&itmsOk x
end
section
section
variable {α:Type}
theorem allG_iff(p:List α→α→Bool):∀(l pre:List α),allG p pre l=true↔∀A a B,l=A++a::B→p (pre++A) a=true
 | [],pre=>by simp[allG]
 | b::r,pre=>by
   rw[allG,Bool.and_eq_true,allG_iff p r (pre++[b])];constructor
   ·rintro⟨h1,h2⟩ A a B e
    cases A with
    | nil=>
      simp at e;obtain⟨rfl,rfl⟩:=e
      simpa using h1
    | cons c A=>
      simp at e;obtain⟨rfl,e⟩:=e;have:=h2 A a B e
      simpa using this
   ·intro h
    refine⟨by simpa using h [] b r rfl,λA a B e=>?_⟩;have:=h (b::A) a B (by rw[e];rfl)
    simpa using this
theorem pair_iff(q:α→α→Prop):∀(l:List α),l.Pairwise q↔∀A a B,l=A++a::B→∀b∈A,q b a
 | []=>by simp
 | x::r=>by
   constructor
   ·intro h A a B e b hb
    rw[e] at h;exact(List.pairwise_append.1 h).2.2 b hb a (List.mem_cons_self ..)
   ·intro h
    refine List.pairwise_cons.2 ⟨λy hy=>?_,(pair_iff q r).2 λA a B e b hb=>h (x::A) a B (by rw[e];rfl) b (List.mem_cons_of_mem _ hb)⟩;obtain⟨A,B,e⟩:=List.append_of_mem hy;exact h (x::A) y B (by rw[e];rfl) x (List.mem_cons_self ..)
theorem rises_go(g:α→Int):∀(l pre:List α),pre.Pairwise (λa b=>g a<g b)→(∀A a B,l=A++a::B→risesI g (pre++A) a=true)→(pre++l).Pairwise (λa b=>g a<g b)
 | [],pre,hp,_=>by simpa using hp
 | a::r,pre,hp,h=>by
   have h1:=h [] a r rfl
   have h2:(pre++[a]).Pairwise (λa b=>g a<g b):=by
    refine List.pairwise_append.2 ⟨hp,by simp,λb hb c hc=>?_⟩;simp at hc;subst hc;simp only[List.append_nil] at h1;unfold risesI at h1;rcases hg:pre.getLast? with _ | z
    ·rw[List.getLast?_eq_none_iff] at hg
     subst hg
     cases hb
    ·rw[hg] at h1
     simp only[decide_eq_true_eq] at h1;obtain⟨p',rfl⟩:=List.getLast?_eq_some_iff.1 hg;rcases List.mem_append.1 hb with hb | hb
     ·have:=(List.pairwise_append.1 hp).2.2 b hb z (by simp)
      omega
     ·simp at hb
      subst hb;exact h1
   have:=rises_go g r (pre++[a]) h2 λA c B e=>by
    have:=h (a::A) c B (by rw[e];rfl)
    simpa using this
   simpa using this
theorem rises_iff(g:α→Int)(l:List α):(∀A a B,l=A++a::B→risesI g A a=true)↔l.Pairwise (λa b=>g a<g b):=by
 constructor
 ·intro h
  have:=rises_go g l [] List.Pairwise.nil (by simpa using h)
  simpa using this
 ·intro h A a B e
  unfold risesI;split
  ·rfl
  ·rename_i b hb
   exact decide_eq_true ((pair_iff _ l).1 h A a B e b (List.mem_of_getLast? hb))
theorem any_iff(q:α→α→Prop) [∀a b,Decidable (q a b)] (l:List α):(∀A a B,l=A++a::B→(A.any λb=>q b a)=false)↔l.Pairwise (λa b=>¬q a b):=by
 rw[pair_iff];constructor
 ·intro h A a B e b hb hq
  have:=List.any_eq_false.1 (h A a B e) b hb;simp at this;exact this hq
 ·intro h A a B e
  refine List.any_eq_false.2 λb hb=>?_
  simp;exact h A a B e b hb
variable {g:α→Int} {x:α} {id:Int} {l:List α}
theorem insI_cons(g:α→Int)(x y:α)(r:List α):insI g x (y::r)=if g y<g x then y::insI g x r else x::y::r:=by
 unfold insI
 by_cases h:g y<g x
 ·simp[h]
 ·simp[h]
theorem insI_perm(g:α→Int)(x:α)(l:List α):(insI g x l).Perm (x::l):=by
 unfold insI;have:=List.takeWhile_append_dropWhile (p:=λy=>decide (g y<g x)) (l:=l);refine List.perm_middle.trans ?_;rw[this]
theorem mem_insI{y:α}:y∈insI g x l↔y=x∨y∈l:=by
 rw[(insI_perm g x l).mem_iff];exact List.mem_cons
theorem insI_len(g:α→Int)(x:α)(l:List α):(insI g x l).length=l.length+1:=by
 simpa using (insI_perm g x l).length_eq
theorem insI_sorted(h:l.Pairwise λa b=>g a<g b)(hn:∀y∈l,g y≠g x):(insI g x l).Pairwise λa b=>g a<g b:=by
 induction l with
 | nil=>simp[insI]
 | cons y r ih=>
   rw[insI_cons];obtain⟨h1,h2⟩:=List.pairwise_cons.1 h;split
   ·rename_i hlt
    refine List.pairwise_cons.2 ⟨λz hz=>?_,ih h2 λz hz=>hn z (List.mem_cons_of_mem _ hz)⟩;rcases mem_insI.1 hz with rfl | hz
    ·exact hlt
    ·exact h1 z hz
   ·rename_i hlt
    have hyx:=hn y (List.mem_cons_self ..);refine List.pairwise_cons.2 ⟨λz hz=>?_,h⟩;rcases List.mem_cons.1 hz with rfl | hz
    ·omega
    ·have:=h1 z hz
     omega
theorem isI_iff:isI g id l=true↔∃y∈l,g y=id:=by simp[isI]
theorem isI_false:isI g id l=false↔∀y∈l,g y≠id:=by simp[isI]
theorem ids_inj(h:l.Pairwise λa b=>g a<g b){a b:α}(ha:a∈l)(hb:b∈l)(he:g a=g b):a=b:=by
 induction l with
 | nil=>cases ha
 | cons y r ih=>
   obtain⟨h1,h2⟩:=List.pairwise_cons.1 h;rcases List.mem_cons.1 ha with ha' | ha'
   ·rcases List.mem_cons.1 hb with hb' | hb'
    ·rw[ha',hb']
    ·have:=h1 b hb';rw[←ha'] at this;omega
   ·rcases List.mem_cons.1 hb with hb' | hb'
    ·have:=h1 a ha';rw[←hb'] at this;omega
    ·exact ih h2 ha' hb'
theorem atI_some(h:l.Pairwise λa b=>g a<g b){a:α}(ha:a∈l)(he:g a=id):atI g id l=some a:=by
 unfold atI
 cases hf:l.find? λx=>decide (g x=id) with
 | none=>
   have:=List.find?_eq_none.1 hf a ha;simp at this
   exact absurd he this
 | some b=>
   have hb:=List.mem_of_find?_eq_some hf;have hp:=List.find?_some hf;simp at hp;rw[ids_inj h hb ha (by omega)]
theorem atI_mem{a:α}(h:atI g id l=some a):a∈l∧g a=id:=by
 unfold atI at h;refine⟨List.mem_of_find?_eq_some h,?_⟩;have:=List.find?_some h
 simpa using this
theorem atI_none(h:atI g id l=none):∀a∈l,g a≠id:=by
 intro a ha;have:=List.find?_eq_none.1 h a ha
 simpa using this
theorem atI_isI:(atI g id l).isSome=isI g id l:=by
 unfold atI isI;rw[Bool.eq_iff_iff,List.find?_isSome,List.any_eq_true]
theorem delI_filter(h:l.Pairwise λa b=>g a<g b):delI g id l=l.filter λy=>g y≠id:=by
 unfold delI
 induction l with
 | nil=>rfl
 | cons y r ih=>
   obtain⟨h1,h2⟩:=List.pairwise_cons.1 h
   by_cases hy:g y=id
   ·rw[List.eraseP_cons_of_pos (by simpa using hy),List.filter_cons_of_neg (by simpa using hy)]
    refine(List.filter_eq_self.2 λz hz=>?_).symm;have:=h1 z hz;simp;omega
   ·rw[List.eraseP_cons_of_neg (by simpa using hy),List.filter_cons_of_pos (by simpa using hy),ih h2]
theorem updI_map(f:α→α)(h:l.Pairwise λa b=>g a<g b):updI g id f l=l.map λy=>if g y=id then f y else y:=by
 induction l with
 | nil=>rfl
 | cons y r ih=>
   obtain⟨h1,h2⟩:=List.pairwise_cons.1 h;unfold updI
   by_cases hy:g y=id
   ·rw[if_pos hy,List.map_cons,if_pos hy]
    congr 1
    conv=>lhs;rw[←List.map_id r]
    refine List.map_congr_left λz hz=>?_
    have:=h1 z hz;rw[if_neg (by omega)];rfl
   ·rw[if_neg hy,List.map_cons,if_neg hy,ih h2]
end
def chainF(l:List Fol):Nat→Int→Prop
 | 0,id=>id=0
 | j+1,id=>id≠0∧∃f,atI Fol.id id l=some f∧chainF l j f.inn
theorem deepG_chain(l:List Fol):∀(j k n:Nat) (id:Int),chainF l j id→j≤k→deepG l k n id=n+j
 | 0,k,n,id,h,_=>by
   cases k<;>simp[deepG,chainF] at h ⊢<;>simp[h]
 | j+1,k,n,id,h,hk=>by
   obtain⟨k,rfl⟩:∃k',k=k'+1:=⟨k - 1,by omega⟩;obtain⟨h0,f,hf,hc⟩:=h;unfold deepG;rw[if_neg h0,hf];simp only;rw[deepG_chain l j k (n+1) f.inn hc (by omega)];omega
theorem chain_deepG(l:List Fol):∀(k n:Nat) (id:Int),deepG l k n id≠8→∃j,j≤k∧chainF l j id∧deepG l k n id=n+j
 | 0,n,id,h=>by
   unfold deepG at h ⊢
   by_cases h0:id=0
   ·exact⟨0,Nat.le_refl _,h0,by simp[h0]⟩
   ·rw[if_neg h0] at h
    exact absurd rfl h
 | k+1,n,id,h=>by
   unfold deepG at h ⊢
   by_cases h0:id=0
   ·exact⟨0,by omega,h0,by simp[h0]⟩
   ·rw[if_neg h0] at h ⊢
    cases hf:atI Fol.id id l with
    | none=>
      rw[hf] at h
      exact absurd rfl h
    | some f=>
      rw[hf] at h;simp only at h ⊢;obtain⟨j,hj,hc,he⟩:=chain_deepG l k (n+1) f.inn h;exact⟨j+1,by omega,⟨h0,f,hf,hc⟩,by omega⟩
theorem chain_mono{l l':List Fol}:∀(j:Nat) (id:Int),chainF l j id→(∀i f,atI Fol.id i l=some f→i≠0→(∃j',j'<j∧chainF l (j'+1) i)→atI Fol.id i l'=some f)→chainF l' j id
 | 0,_,h,_=>h
 | j+1,id,h,hs=>by
   have h':=h;obtain⟨h0,f,hf,hc⟩:=h;refine⟨h0,f,hs id f hf h0 ⟨j,by omega,h'⟩,chain_mono j f.inn hc λi f' h1 h2 ⟨j',h3,h4⟩=>hs i f' h1 h2 ⟨j',by omega,h4⟩⟩
end
section
structure StP(x:St):Prop where
 clk:0≤x.clock∧evOk ⟨13,0,0,x.clock,eS,eS,eS⟩=true
 fE:∀f∈x.fols,evOk ⟨1,f.id,f.inn,0,f.name,eS,eS⟩=true∧f.id≤x.tFol
 fD:∀f∈x.fols,∃j,j≤7∧chainF x.fols j f.id
 fR:x.fols.Pairwise λa b=>a.id<b.id
 fN:x.fols.Pairwise λa b=>¬(a.inn=b.inn∧a.name=b.name)
 fL:x.fols.length≤64
 fT:0≤x.tFol∧x.tFol≤1048576
 eE:∀f∈x.fees,evOk ⟨3,f.id,f.inn,0,f.url,f.title,eS⟩=true∧f.id≤x.tFee∧inS x f.inn=true
 eR:x.fees.Pairwise λa b=>a.id<b.id
 eN:x.fees.Pairwise λa b=>¬a.url=b.url
 eL:x.fees.length≤64
 eT:0≤x.tFee∧x.tFee≤1048576
 iE:∀t∈x.itms,evOk ⟨7,t.id,t.feed,t.date,t.guid,t.title,t.link⟩=true∧t.id≤x.tItm∧isI Fee.id t.feed x.fees=true∧t.tags.length≤8∧tagsRise t.tags=true
 iR:x.itms.Pairwise λa b=>a.id<b.id
 iN:x.itms.Pairwise λa b=>¬(a.feed=b.feed∧a.guid=b.guid)
 iL:x.itms.length≤1024
 iT:0≤x.tItm∧x.tItm≤1048576
 iF:x.tItm=0∨0<x.tFee
 sE:∀s∈x.seas,evOk ⟨11,s.id,0,0,s.name,s.query,eS⟩=true∧s.id≤x.tSea
 sR:x.seas.Pairwise λa b=>a.id<b.id
 sL:x.seas.length≤32
 sT:0≤x.tSea∧x.tSea≤1048576
section
variable {α:Type}
theorem mem_split(l:List α)(p:α→Prop):(∀A a B,l=A++a::B→p a)↔∀a∈l,p a:=by
 constructor
 ·intro h a ha
  obtain⟨A,B,e⟩:=List.append_of_mem ha;exact h A a B e
 ·intro h A a B e
  exact h a (by rw[e];simp)
theorem splits3(l:List α)(p:α→Prop)(g:α→Int)(q:α→α→Prop) [∀a b,Decidable (q a b)] (f:List α→α→Bool)(hf:∀A a,f A a=true↔p a∧risesI g A a=true∧(A.any λb=>q b a)=false):
  allG f [] l=true↔(∀a∈l,p a)∧(l.Pairwise λa b=>g a<g b)∧l.Pairwise λa b=>¬q a b:=by
 rw[allG_iff,←mem_split,←rises_iff,←any_iff];simp only[List.nil_append,hf];exact⟨λh=>⟨λA a B e=>(h A a B e).1,λA a B e=>(h A a B e).2.1,λA a B e=>(h A a B e).2.2⟩,λh A a B e=>⟨h.1 A a B e,h.2.1 A a B e,h.2.2 A a B e⟩⟩
theorem splits2(l:List α)(p:α→Prop)(g:α→Int)(f:List α→α→Bool)(hf:∀A a,f A a=true↔p a∧risesI g A a=true):
  allG f [] l=true↔(∀a∈l,p a)∧l.Pairwise λa b=>g a<g b:=by
 rw[allG_iff,←mem_split,←rises_iff];simp only[List.nil_append,hf];exact⟨λh=>⟨λA a B e=>(h A a B e).1,λA a B e=>(h A a B e).2⟩,λh A a B e=>⟨h.1 A a B e,h.2 A a B e⟩⟩
end
theorem deepS_le{x:St}{f:Fol}(h:f∈x.fols):deepS x f.id≤7↔∃j,j≤7∧chainF x.fols j f.id:=by
 have hi:isI Fol.id f.id x.fols=true:=isI_iff.2 ⟨f,h,rfl⟩;unfold deepS;rw[if_pos hi];constructor
 ·intro hd
  obtain⟨j,hj,hc,-⟩:=chain_deepG x.fols 7 0 f.id (by omega);exact⟨j,hj,hc⟩
 ·rintro⟨j,hj,hc⟩
  rw[deepG_chain x.fols j 7 0 f.id hc hj];omega
theorem folsOk_iff(x:St):folsOk x=true↔(∀f∈x.fols,evOk ⟨1,f.id,f.inn,0,f.name,eS,eS⟩=true∧f.id≤x.tFol∧deepS x f.id≤7)∧(x.fols.Pairwise λa b=>a.id<b.id)∧(x.fols.Pairwise λa b=>¬(a.inn=b.inn∧a.name=b.name))∧x.fols.length≤64∧0≤x.tFol∧x.tFol≤1048576:=by
 unfold folsOk
 rw[Bool.and_eq_true,Bool.and_eq_true,splits3 x.fols (λf=>evOk ⟨1,f.id,f.inn,0,f.name,eS,eS⟩=true∧f.id≤x.tFol∧deepS x f.id≤7) Fol.id (λa b=>a.inn=b.inn∧a.name=b.name) _ (λA a=>by
  simp only[Bool.and_eq_true,decide_eq_true_eq,Bool.not_eq_true',and_assoc,and_left_comm])]
 simp only[decide_eq_true_eq,and_assoc]
theorem feesOk_iff(x:St):feesOk x=true↔(∀f∈x.fees,evOk ⟨3,f.id,f.inn,0,f.url,f.title,eS⟩=true∧f.id≤x.tFee∧inS x f.inn=true)∧(x.fees.Pairwise λa b=>a.id<b.id)∧(x.fees.Pairwise λa b=>¬a.url=b.url)∧x.fees.length≤64∧0≤x.tFee∧x.tFee≤1048576:=by
 unfold feesOk
 rw[Bool.and_eq_true,Bool.and_eq_true,splits3 x.fees (λf=>evOk ⟨3,f.id,f.inn,0,f.url,f.title,eS⟩=true∧f.id≤x.tFee∧inS x f.inn=true) Fee.id (λa b=>a.url=b.url) _ (λA a=>by
  simp only[Bool.and_eq_true,decide_eq_true_eq,Bool.not_eq_true',and_assoc,and_left_comm])]
 simp only[decide_eq_true_eq,and_assoc]
theorem itmsOk_iff(x:St):itmsOk x=true↔(∀t∈x.itms,evOk ⟨7,t.id,t.feed,t.date,t.guid,t.title,t.link⟩=true∧t.id≤x.tItm∧isI Fee.id t.feed x.fees=true∧t.tags.length≤8∧tagsRise t.tags=true)∧(x.itms.Pairwise λa b=>a.id<b.id)∧(x.itms.Pairwise λa b=>¬(a.feed=b.feed∧a.guid=b.guid))∧
  x.itms.length≤1024∧(0≤x.tItm∧x.tItm≤1048576)∧(x.tItm=0∨0<x.tFee):=by
 unfold itmsOk
 rw[Bool.and_eq_true,Bool.and_eq_true,Bool.and_eq_true,splits3 x.itms (λt=>evOk ⟨7,t.id,t.feed,t.date,t.guid,t.title,t.link⟩=true∧t.id≤x.tItm∧isI Fee.id t.feed x.fees=true∧t.tags.length≤8∧tagsRise t.tags=true) Itm.id (λa b=>a.feed=b.feed∧a.guid=b.guid) _ (λA a=>by
  simp only[Bool.and_eq_true,decide_eq_true_eq,Bool.not_eq_true',and_assoc,and_left_comm])]
 simp only[decide_eq_true_eq,and_assoc]
theorem seasOk_iff(x:St):seasOk x=true↔(∀s∈x.seas,evOk ⟨11,s.id,0,0,s.name,s.query,eS⟩=true∧s.id≤x.tSea)∧(x.seas.Pairwise λa b=>a.id<b.id)∧x.seas.length≤32∧0≤x.tSea∧x.tSea≤1048576:=by
 unfold seasOk
 rw[Bool.and_eq_true,Bool.and_eq_true,splits2 x.seas (λs=>evOk ⟨11,s.id,0,0,s.name,s.query,eS⟩=true∧s.id≤x.tSea) Sea.id _ (λA a=>by
  simp only[Bool.and_eq_true,decide_eq_true_eq,and_assoc])]
 simp only[decide_eq_true_eq,and_assoc]
theorem stOk_iff(x:St):stOk x=true↔StP x:=by
 unfold stOk;simp only[Bool.and_eq_true,decide_eq_true_eq,folsOk_iff,feesOk_iff,itmsOk_iff,seasOk_iff];constructor
 ·rintro⟨⟨⟨⟨⟨⟨s1,s2,s3,s4⟩,c1⟩,c2⟩,⟨f1,f2,f3,f4,f5⟩⟩,⟨e1,e2,e3,e4,e5⟩⟩,⟨i1,i2,i3,i4,i5,i6⟩⟩
  exact⟨⟨c1,c2⟩,λf hf=>⟨(f1 f hf).1,(f1 f hf).2.1⟩,λf hf=>(deepS_le hf).1 (f1 f hf).2.2,f2,f3,f4,f5,e1,e2,e3,e4,e5,i1,i2,i3,i4,i5,i6,s1,s2,s3,s4⟩
 ·intro h
  exact⟨⟨⟨⟨⟨⟨h.sE,h.sR,h.sL,h.sT⟩,h.clk.1⟩,h.clk.2⟩,λf hf=>⟨(h.fE f hf).1,(h.fE f hf).2,(deepS_le hf).2 (h.fD f hf)⟩,h.fR,h.fN,h.fL,h.fT⟩,h.eE,h.eR,h.eN,h.eL,h.eT⟩,h.iE,h.iR,h.iN,h.iL,h.iT,h.iF⟩
theorem st0_ok:StP st0:=(stOk_iff st0).1 (by decide+kernel)
end
section
theorem ltB_irr(a:ByteArray):¬ltB a a:=lt_irr _
theorem ltB_trans{a b c:ByteArray}(h:ltB a b)(h':ltB b c):ltB a c:=List.lt_trans h h'
theorem ltB_ne{a b:ByteArray}(h:ltB a b):a≠b:=λe=>by subst e;exact ltB_irr _ h
theorem ltB_gt{a b:ByteArray}(h:¬ltB a b)(hn:a≠b):ltB b a:=gt_of h λe=>hn (bys_inj e)
theorem tagsRise_iff:∀l:List ByteArray,tagsRise l=true↔(∀t∈l,tagOk t=true)∧l.Pairwise ltB
 | []=>by simp[tagsRise]
 | [a]=>by simp[tagsRise]
 | a::b::r=>by
   have ih:=tagsRise_iff (b::r);rw[tagsRise,Bool.and_eq_true,Bool.and_eq_true,ih,decide_eq_true_eq];constructor
   ·rintro⟨⟨h1,h2⟩,h3,h4⟩
    refine⟨λt ht=>?_,List.pairwise_cons.2 ⟨λt ht=>?_,h4⟩⟩
    ·rcases List.mem_cons.1 ht with rfl | ht
     ·exact h1
     ·exact h3 t ht
    ·rcases List.mem_cons.1 ht with rfl | ht
     ·exact h2
     ·exact ltB_trans h2 ((List.pairwise_cons.1 h4).1 t ht)
   ·rintro⟨h1,h2⟩
    obtain⟨h3,h4⟩:=List.pairwise_cons.1 h2;exact⟨⟨h1 a (List.mem_cons_self ..),h3 b (List.mem_cons_self ..)⟩,λt ht=>h1 t (List.mem_cons_of_mem _ ht),h4⟩
theorem tagsG_true(t:ByteArray):∀l:List ByteArray,tagsG t true l=l.filter λx=>x≠t
 | []=>rfl
 | x::r=>by
   rw[tagsG,if_neg (by simp),tagsG_true t r]
   by_cases h:x=t
   ·simp[h]
   ·simp[h]
def tagPos(t:ByteArray)(l:List ByteArray):Nat:=(l.takeWhile λx=>ltB x t).length
theorem tagsG_false(t:ByteArray):∀l:List ByteArray,l.Pairwise ltB→tagsG t false l=(l.takeWhile λx=>ltB x t)++t::((l.dropWhile λx=>ltB x t).filter λx=>x≠t)
 | [],_=>by simp[tagsG]
 | x::r,h=>by
   obtain⟨h1,h2⟩:=List.pairwise_cons.1 h;have ih:=tagsG_false t r h2;rw[tagsG]
   by_cases hlt:ltB t x
   ·have hx:¬ltB x t:=λh=>ltB_irr _ (ltB_trans h hlt)
    rw[if_pos ⟨rfl,hlt⟩,if_neg (ltB_ne hlt).symm,tagsG_true,List.takeWhile_cons_of_neg (by simpa using hx),List.dropWhile_cons_of_neg (by simpa using hx),List.filter_cons_of_pos (by simpa using (ltB_ne hlt).symm)];rfl
   ·rw[if_neg (by simp[hlt])]
    by_cases he:x=t
    ·subst he
     rw[if_pos rfl,List.takeWhile_cons_of_neg (by simpa using ltB_irr _),List.dropWhile_cons_of_neg (by simpa using ltB_irr _),List.filter_cons_of_neg (by simp)];have hr:∀y∈r,¬ltB y x:=λy hy hlt=>ltB_irr _ (ltB_trans hlt (h1 y hy))
     rw[ih]
     cases r with
     | nil=>rfl
     | cons y r=>
       have:=hr y (List.mem_cons_self ..);rw[List.takeWhile_cons_of_neg (by simpa using this),List.dropWhile_cons_of_neg (by simpa using this)]
    ·have hx:ltB x t:=ltB_gt hlt (Ne.symm he)
     rw[if_neg he,ih,List.takeWhile_cons_of_pos (by simpa using hx),List.dropWhile_cons_of_pos (by simpa using hx)];rfl
theorem tags_split(t:ByteArray)(l:List ByteArray)(h:l.Pairwise ltB):(∀x∈l.takeWhile λx=>ltB x t,ltB x t)∧(∀x∈l.dropWhile λx=>ltB x t,¬ltB x t):=by
 induction l with
 | nil=>simp
 | cons x r ih=>
   obtain⟨h1,h2⟩:=List.pairwise_cons.1 h;obtain⟨i1,i2⟩:=ih h2
   by_cases hx:ltB x t
   ·rw[List.takeWhile_cons_of_pos (by simpa using hx),List.dropWhile_cons_of_pos (by simpa using hx)]
    refine⟨λy hy=>?_,i2⟩;rcases List.mem_cons.1 hy with rfl | hy
    ·exact hx
    ·exact i1 y hy
   ·rw[List.takeWhile_cons_of_neg (by simpa using hx),List.dropWhile_cons_of_neg (by simpa using hx)]
    refine⟨λy hy=>(by cases hy),λy hy hlt=>?_⟩;rcases List.mem_cons.1 hy with rfl | hy
    ·exact hx hlt
    ·exact hx (ltB_trans (h1 y hy) hlt)
theorem tagsS_with{l:List ByteArray}{t:ByteArray}(h:l.Pairwise ltB):tagsS l t true=(l.takeWhile λx=>ltB x t)++t::((l.dropWhile λx=>ltB x t).filter λx=>x≠t):=tagsG_false t l h
theorem tagsS_without(l:List ByteArray)(t:ByteArray):tagsS l t false=l.filter λx=>x≠t:=tagsG_true t l
theorem tagsS_mem{l:List ByteArray}{t:ByteArray}(w:Bool)(h:l.Pairwise ltB){y:ByteArray}(hy:y∈tagsS l t w):y=t∨y∈l:=by
 cases w with
 | false=>
   rw[tagsS_without] at hy
   exact .inr (List.mem_filter.1 hy).1
 | true=>
   rw[tagsS_with h] at hy;rcases List.mem_append.1 hy with hy | hy
   ·exact .inr ((List.takeWhile_sublist _).subset hy)
   ·rcases List.mem_cons.1 hy with rfl | hy
    ·exact .inl rfl
    ·exact .inr ((List.dropWhile_sublist _).subset (List.mem_filter.1 hy).1)
theorem tagsS_sorted{l:List ByteArray}{t:ByteArray}(w:Bool)(h:l.Pairwise ltB):(tagsS l t w).Pairwise ltB:=by
 cases w with
 | false=>
   rw[tagsS_without]
   exact h.sublist List.filter_sublist
 | true=>
   obtain⟨s1,s2⟩:=tags_split t l h;rw[tagsS_with h];refine List.pairwise_append.2 ⟨h.sublist (List.takeWhile_sublist _),List.pairwise_cons.2 ⟨λy hy=>?_,(h.sublist (List.dropWhile_sublist _)).sublist List.filter_sublist⟩,λa ha b hb=>?_⟩
   ·obtain⟨hy1,hy2⟩:=List.mem_filter.1 hy
    exact ltB_gt (s2 y hy1) (by simpa using hy2)
   ·rcases List.mem_cons.1 hb with rfl | hb
    ·exact s1 a ha
    ·obtain⟨hb1,hb2⟩:=List.mem_filter.1 hb
     exact ltB_trans (s1 a ha) (ltB_gt (s2 b hb1) (by simpa using hb2))
theorem tagsS_len{l:List ByteArray}{t:ByteArray}(w:Bool)(h:l.Pairwise ltB)(h8:l.length≤8)(hf:w=false∨t∈l∨l.length<8):(tagsS l t w).length≤8:=by
 cases w with
 | false=>
   rw[tagsS_without]
   exact Nat.le_trans (List.length_filter_le ..) h8
 | true=>
   rw[tagsS_with h,List.length_append,List.length_cons]
   have e:(l.takeWhile λx=>decide (ltB x t)).length+(l.dropWhile λx=>decide (ltB x t)).length=l.length:=by
    rw[←List.length_append,List.takeWhile_append_dropWhile]
   have h1:((l.dropWhile λx=>decide (ltB x t)).filter λx=>decide (x≠t)).length≤(l.dropWhile λx=>decide (ltB x t)).length:=List.length_filter_le ..;rcases hf with hf | hf | hf
   ·cases hf
   ·have hd:t∈l.dropWhile λx=>decide (ltB x t):=by
     have:t∈(l.takeWhile λx=>decide (ltB x t))++l.dropWhile λx=>decide (ltB x t):=by rw[List.takeWhile_append_dropWhile];exact hf
     rcases List.mem_append.1 this with h2 | h2
     ·exact absurd ((tags_split t l h).1 t h2) (ltB_irr t)
     ·exact h2
    have:((l.dropWhile λx=>decide (ltB x t)).filter λx=>decide (x≠t)).length<(l.dropWhile λx=>decide (ltB x t)).length:=
     List.length_filter_lt_length_iff_exists.2 ⟨t,hd,by simp⟩
    omega
   ·omega
theorem ev_ext{e e':Ev}(h1:e.kind=e'.kind)(h2:e.a=e'.a)(h3:e.b=e'.b)(h4:e.n=e'.n)(h5:e.s=e'.s)(h6:e.t=e'.t)(h7:e.u=e'.u):e=e':=by
 cases e;cases e';simp_all
theorem evOk_used{e:Ev}(h:evOk e=true):evUsed e=e:=by
 unfold evOk at h;rw[Bool.and_eq_true,decide_eq_true_eq] at h;exact h.2
theorem evOk_right{e:Ev}(h:evOk e=true):evRight e=true:=by
 unfold evOk at h;rw[Bool.and_eq_true] at h;exact h.1
theorem idOk_iff{n:Int}:idOk n=true↔1≤n∧n≤1048576:=by simp[idOk]
theorem evKind{e:Ev}(h:evOk e=true):e.kind=1∨e.kind=2∨e.kind=3∨e.kind=4∨e.kind=5∨e.kind=6∨e.kind=7∨e.kind=8∨e.kind=9∨e.kind=10∨e.kind=11∨e.kind=12∨e.kind=13:=by
 have h:=evOk_right h;unfold evRight at h
 repeat' split at h
 all_goals first | omega | cases h
theorem ev1(a b:Int)(s:ByteArray):evOk ⟨1,a,b,0,s,eS,eS⟩=(idOk a&&folderOk b&&labelOk s):=by simp[evOk,evRight,evUsed]
theorem ev3(a b:Int)(s t:ByteArray):evOk ⟨3,a,b,0,s,t,eS⟩=(idOk a&&folderOk b&&placeOk s&&titleOk t):=by simp[evOk,evRight,evUsed]
theorem ev7(a b n:Int)(s t u:ByteArray):evOk ⟨7,a,b,n,s,t,u⟩=(idOk a&&idOk b&&momentOk n&&placeOk s&&titleOk t&&linkOk u):=by simp[evOk,evRight,evUsed]
theorem ev11(a:Int)(s t:ByteArray):evOk ⟨11,a,0,0,s,t,eS⟩=(idOk a&&labelOk s&&queryOk t):=by simp[evOk,evRight,evUsed]
theorem ev1_of{e:Ev}(h:evOk e=true)(hk:e.kind=1):e=⟨1,e.a,e.b,0,e.s,eS,eS⟩:=by
 have hu:=evOk_used h;rw[←hu];simp[evUsed,hk]
theorem ev3_of{e:Ev}(h:evOk e=true)(hk:e.kind=3):e=⟨3,e.a,e.b,0,e.s,e.t,eS⟩:=by
 have hu:=evOk_used h;rw[←hu];simp[evUsed,hk]
theorem ev7_of{e:Ev}(hk:e.kind=7):e=⟨7,e.a,e.b,e.n,e.s,e.t,e.u⟩:=by rw[←hk]
theorem ev11_of{e:Ev}(h:evOk e=true)(hk:e.kind=11):e=⟨11,e.a,0,0,e.s,e.t,eS⟩:=by
 have hu:=evOk_used h;rw[←hu];simp[evUsed,hk]
theorem ev13_of{e:Ev}(h:evOk e=true)(hk:e.kind=13):e=⟨13,0,0,e.n,eS,eS,eS⟩:=by
 have hu:=evOk_used h;rw[←hu];simp[evUsed,hk]
theorem fits_ev{x:St}{e:Ev}(h:fits x e=true):evOk e=true:=by
 cases ho:evOk e with
 | true=>rfl
 | false=>simp[fits,ho] at h
theorem chain_keep{l l':List Fol}(hs:∀i f,atI Fol.id i l=some f→atI Fol.id i l'=some f)(j:Nat)(id:Int)(h:chainF l j id):chainF l' j id:=
 chain_mono j id h λi f h1 _ _=>hs i f h1
theorem chain_del{l l':List Fol}{a:Int}(ha:a≠0)(hn:∀f∈l,f.inn≠a)(hs:∀i f,i≠a→atI Fol.id i l=some f→atI Fol.id i l'=some f):∀(j:Nat) (id:Int),id≠a→chainF l j id→chainF l' j id
 | 0,_,_,h=>h
 | j+1,id,hid,⟨h0,f,hf,hc⟩=>⟨h0,f,hs id f hid hf,chain_del ha hn hs j f.inn (hn f (atI_mem hf).1) hc⟩
section
variable {α:Type} {g:α→Int} {l:List α}
theorem pw_perm{q:α→α→Prop}(hs:∀a b,q a b→q b a){l l':List α}(hp:l.Perm l')(h:l.Pairwise q):l'.Pairwise q:=(hp.pairwise_iff (λ{a b}=>hs a b)).1 h
theorem atI_ins{x:α}(h:l.Pairwise λa b=>g a<g b)(hn:∀y∈l,g y≠g x){i:Int}{f:α}(hf:atI g i l=some f):atI g i (insI g x l)=some f:=by
 obtain⟨h1,h2⟩:=atI_mem hf;exact atI_some (insI_sorted h hn) (mem_insI.2 (.inr h1)) h2
theorem sorted_filter(p:α→Bool)(h:l.Pairwise λa b=>g a<g b):(l.filter p).Pairwise λa b=>g a<g b:=h.sublist List.filter_sublist
theorem atI_filter{p:α→Bool}(h:l.Pairwise λa b=>g a<g b){i:Int}{f:α}(hf:atI g i l=some f)(hp:p f=true):atI g i (l.filter p)=some f:=by
 obtain⟨h1,h2⟩:=atI_mem hf;exact atI_some (sorted_filter p h) (List.mem_filter.2 ⟨h1,hp⟩) h2
theorem map_sorted{f:α→α}(hf:∀a,g (f a)=g a){id:Int}(h:l.Pairwise λa b=>g a<g b):(l.map λy=>if g y=id then f y else y).Pairwise λa b=>g a<g b:=by
 refine List.pairwise_map.2 (h.imp ?_);intro a b hab;have e:∀c,g (if g c=id then f c else c)=g c:=λc=>by split<;>simp[hf]
 rw[e,e];exact hab
theorem isI_map{f:α→α}(hf:∀a,g (f a)=g a){id i:Int}:isI g i (l.map λy=>if g y=id then f y else y)=isI g i l:=by
 have e:∀c,g (if g c=id then f c else c)=g c:=λc=>by split<;>simp[hf]
 simp only[isI,List.any_map,Function.comp_def,e]
end
theorem inS_iff{x:St}{i:Int}:inS x i=true↔i=0∨∃f∈x.fols,f.id=i:=by
 unfold inS;rw[Bool.or_eq_true,decide_eq_true_eq,isI_iff]
theorem StP.fId{x:St}(h:StP x){f:Fol}(hf:f∈x.fols):1≤f.id∧f.id≤1048576:=by
 have:=(h.fE f hf).1;rw[ev1] at this;simp only[Bool.and_eq_true] at this;exact idOk_iff.1 this.1.1
theorem StP.eId{x:St}(h:StP x){f:Fee}(hf:f∈x.fees):1≤f.id∧f.id≤1048576:=by
 have:=(h.eE f hf).1;rw[ev3] at this;simp only[Bool.and_eq_true] at this;exact idOk_iff.1 this.1.1.1
theorem StP.iId{x:St}(h:StP x){t:Itm}(ht:t∈x.itms):(1≤t.id∧t.id≤1048576)∧1≤t.feed∧t.feed≤1048576:=by
 have:=(h.iE t ht).1;rw[ev7] at this;simp only[Bool.and_eq_true] at this;exact⟨idOk_iff.1 this.1.1.1.1.1,idOk_iff.1 this.1.1.1.1.2⟩
theorem StP.sId{x:St}(h:StP x){f:Sea}(hf:f∈x.seas):1≤f.id∧f.id≤1048576:=by
 have:=(h.sE f hf).1;rw[ev11] at this;simp only[Bool.and_eq_true] at this;exact idOk_iff.1 this.1.1
theorem StP.deep{x:St}(h:StP x)(b:Int)(hb:inS x b=true):∃j,j≤7∧chainF x.fols j b∧deepS x b=j:=by
 rcases inS_iff.1 hb with rfl | ⟨f,hf,rfl⟩
 ·refine⟨0,by omega,rfl,?_⟩
  unfold deepS;rw[if_neg];intro hi;obtain⟨f,hf,he⟩:=isI_iff.1 hi;have:=h.fId hf;omega
 ·obtain⟨j,hj,hc⟩:=h.fD f hf
  refine⟨j,hj,hc,?_⟩;unfold deepS;rw[if_pos (isI_iff.2 ⟨f,hf,rfl⟩),deepG_chain x.fols j 7 0 f.id hc hj];omega
end
section
section
variable {x:St} {e:Ev}
theorem fits1(hk:e.kind=1)(ho:evOk e=true):fits x e=true↔(∀f∈x.fols,f.id≠e.a)∧x.fols.length<64∧inS x e.b=true∧deepS x e.b<7∧∀f∈x.fols,¬(f.inn=e.b∧f.name=e.s):=by
 unfold fits;rw[if_neg (by simp[ho]),if_pos hk];simp only[Bool.and_eq_true,Bool.not_eq_true',isI_false,decide_eq_true_eq,and_assoc,namedS,List.any_eq_false]
theorem fits2(hk:e.kind=2)(ho:evOk e=true):fits x e=true↔(∃f∈x.fols,f.id=e.a)∧(∀f∈x.fols,f.inn≠e.a)∧∀f∈x.fees,f.inn≠e.a:=by
 unfold fits;rw[if_neg (by simp[ho]),if_neg (by omega),if_pos hk];simp[isI_iff,emptyS]
theorem fits3(hk:e.kind=3)(ho:evOk e=true):fits x e=true↔(∀f∈x.fees,f.id≠e.a)∧x.fees.length<64∧inS x e.b=true∧placeS x e.s=0:=by
 unfold fits;rw[if_neg (by simp[ho]),if_neg (by omega),if_neg (by omega),if_pos hk];simp only[Bool.and_eq_true,Bool.not_eq_true',isI_false,decide_eq_true_eq,and_assoc]
theorem fits45(hk:e.kind=4∨e.kind=5)(ho:evOk e=true):fits x e=true↔∃f∈x.fees,f.id=e.a:=by
 unfold fits;rw[if_neg (by simp[ho]),if_neg (by omega),if_neg (by omega),if_neg (by omega),if_pos hk,isI_iff]
theorem fits6(hk:e.kind=6)(ho:evOk e=true):fits x e=true↔(∃f∈x.fees,f.id=e.a)∧inS x e.b=true:=by
 unfold fits;rw[if_neg (by simp[ho]),if_neg (by omega),if_neg (by omega),if_neg (by omega),if_neg (by omega),if_pos hk,Bool.and_eq_true,isI_iff]
theorem fits7(hk:e.kind=7)(ho:evOk e=true):fits x e=true↔(∀t∈x.itms,t.id≠e.a)∧x.itms.length<1024∧(∃f∈x.fees,f.id=e.b)∧guidS x e.b e.s=0:=by
 unfold fits;rw[if_neg (by simp[ho]),if_neg (by omega),if_neg (by omega),if_neg (by omega),if_neg (by omega),if_neg (by omega),if_pos hk];simp only[Bool.and_eq_true,Bool.not_eq_true',isI_false,isI_iff,decide_eq_true_eq,and_assoc]
theorem fits89(hk:e.kind=8∨e.kind=9)(ho:evOk e=true):fits x e=true↔∃t∈x.itms,t.id=e.a:=by
 unfold fits;rw[if_neg (by simp[ho]),if_neg (by omega),if_neg (by omega),if_neg (by omega),if_neg (by omega),if_neg (by omega),if_neg (by omega),if_pos hk,isI_iff]
theorem fits10(hk:e.kind=10)(ho:evOk e=true):fits x e=true↔∃t,atI Itm.id e.a x.itms=some t∧(e.n=0∨e.s∈t.tags∨t.tags.length<8):=by
 unfold fits;rw[if_neg (by simp[ho]),if_neg (by omega),if_neg (by omega),if_neg (by omega),if_neg (by omega),if_neg (by omega),if_neg (by omega),if_neg (by omega),if_pos hk]
 cases atI Itm.id e.a x.itms with
 | none=>simp
 | some t=>simp[or_assoc]
theorem fits11(hk:e.kind=11)(ho:evOk e=true):fits x e=true↔(∀t∈x.seas,t.id≠e.a)∧x.seas.length<32:=by
 unfold fits;rw[if_neg (by simp[ho]),if_neg (by omega),if_neg (by omega),if_neg (by omega),if_neg (by omega),if_neg (by omega),if_neg (by omega),if_neg (by omega),if_neg (by omega),if_pos hk];simp only[Bool.and_eq_true,Bool.not_eq_true',isI_false,decide_eq_true_eq]
theorem fits12(hk:e.kind=12)(ho:evOk e=true):fits x e=true↔∃t∈x.seas,t.id=e.a:=by
 unfold fits;rw[if_neg (by simp[ho]),if_neg (by omega),if_neg (by omega),if_neg (by omega),if_neg (by omega),if_neg (by omega),if_neg (by omega),if_neg (by omega),if_neg (by omega),if_neg (by omega),if_pos hk,isI_iff]
theorem fits13(hk:e.kind=13)(ho:evOk e=true):fits x e=true↔x.clock≤e.n:=by
 unfold fits;rw[if_neg (by simp[ho]),if_neg (by omega),if_neg (by omega),if_neg (by omega),if_neg (by omega),if_neg (by omega),if_neg (by omega),if_neg (by omega),if_neg (by omega),if_neg (by omega),if_neg (by omega),decide_eq_true_eq]
theorem do1(hk:e.kind=1):doS x e={x with fols:=insI Fol.id ⟨e.a,e.b,e.s⟩ x.fols,tFol:=max x.tFol e.a}:=by simp[doS,madeS,hk]
theorem do2(hk:e.kind=2):doS x e={x with fols:=delI Fol.id e.a x.fols}:=by simp[doS,hk]
theorem do3(hk:e.kind=3):doS x e={x with fees:=insI Fee.id ⟨e.a,e.b,e.s,e.t⟩ x.fees,tFee:=max x.tFee e.a}:=by simp[doS,madeS,hk]
theorem do4(hk:e.kind=4):doS x e={x with fees:=delI Fee.id e.a x.fees,itms:=x.itms.filter λt=>t.feed≠e.a}:=by simp[doS,hk]
theorem do5(hk:e.kind=5):doS x e={x with fees:=updI Fee.id e.a (λf=>{f with title:=e.t}) x.fees}:=by simp[doS,hk]
theorem do6(hk:e.kind=6):doS x e={x with fees:=updI Fee.id e.a (λf=>{f with inn:=e.b}) x.fees}:=by simp[doS,hk]
theorem do7(hk:e.kind=7):doS x e={x with itms:=insI Itm.id ⟨e.a,e.b,e.n,e.s,e.t,e.u,false,false,[]⟩ x.itms,tItm:=max x.tItm e.a}:=by simp[doS,madeS,hk]
theorem do8(hk:e.kind=8):doS x e={x with itms:=updI Itm.id e.a (λt=>{t with read:=decide (e.n=1)}) x.itms}:=by simp[doS,hk]
theorem do9(hk:e.kind=9):doS x e={x with itms:=updI Itm.id e.a (λt=>{t with star:=decide (e.n=1)}) x.itms}:=by simp[doS,hk]
theorem do10(hk:e.kind=10):doS x e={x with itms:=updI Itm.id e.a (λt=>{t with tags:=tagsS t.tags e.s (decide (e.n=1))}) x.itms}:=by simp[doS,hk]
theorem do11(hk:e.kind=11):doS x e={x with seas:=insI Sea.id ⟨e.a,e.s,e.t⟩ x.seas,tSea:=max x.tSea e.a}:=by simp[doS,madeS,hk]
theorem do12(hk:e.kind=12):doS x e={x with seas:=delI Sea.id e.a x.seas}:=by simp[doS,hk]
theorem do13(hk:e.kind=13):doS x e={x with clock:=e.n}:=by simp[doS,hk]
theorem place_iff(h:StP x)(s:ByteArray):placeS x s=0↔∀f∈x.fees,f.url≠s:=by
 unfold placeS
 cases hf:x.fees.find? λf=>decide (f.url=s) with
 | none=>
   refine⟨λ_ f hm=>?_,λ_=>rfl⟩;have:=List.find?_eq_none.1 hf f hm
   simpa using this
 | some f=>
   have hm:=List.mem_of_find?_eq_some hf;have hp:=List.find?_some hf;have:=h.eId hm;simp at hp;refine⟨λh0=>?_,λhn=>absurd hp (hn f hm)⟩;simp only at h0;omega
theorem guid_iff(h:StP x)(b:Int)(s:ByteArray):guidS x b s=0↔∀t∈x.itms,¬(t.feed=b∧t.guid=s):=by
 unfold guidS
 cases hf:x.itms.find? λt=>decide (t.feed=b∧t.guid=s) with
 | none=>
   refine⟨λ_ f hm=>?_,λ_=>rfl⟩;have:=List.find?_eq_none.1 hf f hm
   simpa using this
 | some t=>
   have hm:=List.mem_of_find?_eq_some hf;have hp:=List.find?_some hf;have:=(h.iId hm).1;simp only[decide_eq_true_eq] at hp;refine⟨λh0=>?_,λhn=>absurd hp (hn t hm)⟩;simp only at h0;omega
theorem ok1(h:StP x)(hk:e.kind=1)(hf:fits x e=true):StP (doS x e):=by
 have ho:=fits_ev hf;obtain⟨f1,f2,f3,f4,f5⟩:=(fits1 hk ho).1 hf;have hE:=ho;rw[ev1_of ho hk] at hE
 have hid:1≤e.a∧e.a≤1048576:=by
  rw[ev1] at hE;simp only[Bool.and_eq_true] at hE;exact idOk_iff.1 hE.1.1
 rw[do1 hk];have hs:=insI_sorted (x:=(⟨e.a,e.b,e.s⟩:Fol)) h.fR f1;have hkeep:∀i f,atI Fol.id i x.fols=some f→atI Fol.id i (insI Fol.id ⟨e.a,e.b,e.s⟩ x.fols)=some f:=λi f hi=>atI_ins h.fR f1 hi
 exact {h with
  fE:=λf hm=>by
   rcases mem_insI.1 hm with rfl | hm
   ·exact⟨hE,Int.le_max_right _ _⟩
   ·exact⟨(h.fE f hm).1,Int.le_trans (h.fE f hm).2 (Int.le_max_left _ _)⟩
  fD:=λf hm=>by
   rcases mem_insI.1 hm with rfl | hm
   ·obtain⟨j,hj,hc,hd⟩:=h.deep e.b f3
    exact⟨j+1,by omega,by show e.a≠0;omega,⟨e.a,e.b,e.s⟩,atI_some hs (mem_insI.2 (.inl rfl)) rfl,chain_keep hkeep j e.b hc⟩
   ·obtain⟨j,hj,hc⟩:=h.fD f hm
    exact⟨j,hj,chain_keep hkeep j f.id hc⟩
  fR:=hs
  fN:=pw_perm (λa b hab hba=>hab ⟨hba.1.symm,hba.2.symm⟩) (insI_perm Fol.id ⟨e.a,e.b,e.s⟩ x.fols).symm (List.pairwise_cons.2 ⟨λf hm hn=>f5 f hm ⟨hn.1.symm,hn.2.symm⟩,h.fN⟩)
  fL:=by show (insI Fol.id _ x.fols).length≤64;rw[insI_len];omega
  fT:=⟨Int.le_trans h.fT.1 (Int.le_max_left _ _),Int.max_le.2 ⟨h.fT.2,hid.2⟩⟩
  eE:=λf hm=>⟨(h.eE f hm).1,(h.eE f hm).2.1,by
   rcases inS_iff.1 (h.eE f hm).2.2 with h0 | ⟨g,hg,he⟩
   ·exact inS_iff.2 (.inl h0)
   ·exact inS_iff.2 (.inr ⟨g,mem_insI.2 (.inr hg),he⟩)⟩}
theorem ok2(h:StP x)(hk:e.kind=2)(hf:fits x e=true):StP (doS x e):=by
 have ho:=fits_ev hf;obtain⟨⟨f0,hf0,he0⟩,f2,f3⟩:=(fits2 hk ho).1 hf;rw[do2 hk,delI_filter h.fR];have ha:e.a≠0:=by have:=h.fId hf0;omega
 have hkeep:∀i f,i≠e.a→atI Fol.id i x.fols=some f→atI Fol.id i (x.fols.filter λy=>y.id≠e.a)=some f:=λi f hi hq=>atI_filter h.fR hq (by have:=(atI_mem hq).2;simp;omega)
 exact {h with
  fE:=λf hm=>h.fE f (List.mem_filter.1 hm).1
  fD:=λf hm=>by
   obtain⟨hm1,hm2⟩:=List.mem_filter.1 hm;obtain⟨j,hj,hc⟩:=h.fD f hm1;exact⟨j,hj,chain_del ha f2 hkeep j f.id (by simpa using hm2) hc⟩
  fR:=sorted_filter _ h.fR
  fN:=h.fN.sublist List.filter_sublist
  fL:=Nat.le_trans (List.length_filter_le ..) h.fL
  eE:=λf hm=>⟨(h.eE f hm).1,(h.eE f hm).2.1,by
   rcases inS_iff.1 (h.eE f hm).2.2 with h0 | ⟨g,hg,he⟩
   ·exact inS_iff.2 (.inl h0)
   ·exact inS_iff.2 (.inr ⟨g,List.mem_filter.2 ⟨hg,by have:=f3 f hm;simp;omega⟩,he⟩)⟩}
theorem ok3(h:StP x)(hk:e.kind=3)(hf:fits x e=true):StP (doS x e):=by
 have ho:=fits_ev hf;obtain⟨f1,f2,f3,f4⟩:=(fits3 hk ho).1 hf;have f4:=(place_iff h e.s).1 f4;have hE:=ho;rw[ev3_of ho hk] at hE
 have hid:1≤e.a∧e.a≤1048576:=by
  rw[ev3] at hE;simp only[Bool.and_eq_true] at hE;exact idOk_iff.1 hE.1.1.1
 rw[do3 hk]
 exact {h with
  eE:=λf hm=>by
   rcases mem_insI.1 hm with rfl | hm
   ·exact⟨hE,Int.le_max_right _ _,f3⟩
   ·exact⟨(h.eE f hm).1,Int.le_trans (h.eE f hm).2.1 (Int.le_max_left _ _),(h.eE f hm).2.2⟩
  eR:=insI_sorted h.eR f1
  eN:=pw_perm (λa b hab hba=>hab hba.symm) (insI_perm Fee.id ⟨e.a,e.b,e.s,e.t⟩ x.fees).symm (List.pairwise_cons.2 ⟨λf hm hn=>f4 f hm hn.symm,h.eN⟩)
  eL:=by show (insI Fee.id _ x.fees).length≤64;rw[insI_len];omega
  eT:=⟨Int.le_trans h.eT.1 (Int.le_max_left _ _),Int.max_le.2 ⟨h.eT.2,hid.2⟩⟩
  iE:=λt hm=>⟨(h.iE t hm).1,(h.iE t hm).2.1,by
   obtain⟨g,hg,he⟩:=isI_iff.1 (h.iE t hm).2.2.1;exact isI_iff.2 ⟨g,mem_insI.2 (.inr hg),he⟩,(h.iE t hm).2.2.2⟩
  iF:=by
   rcases h.iF with h0 | h0
   ·exact .inl h0
   ·exact .inr (Int.lt_of_lt_of_le h0 (Int.le_max_left _ _))}
theorem ok4(h:StP x)(hk:e.kind=4):StP (doS x e):=by
 rw[do4 hk,delI_filter h.eR]
 exact {h with
  eE:=λf hm=>h.eE f (List.mem_filter.1 hm).1
  eR:=sorted_filter _ h.eR
  eN:=h.eN.sublist List.filter_sublist
  eL:=Nat.le_trans (List.length_filter_le ..) h.eL
  iE:=λt hm=>by
   obtain⟨h1,h2⟩:=List.mem_filter.1 hm;obtain⟨g,hg,he⟩:=isI_iff.1 (h.iE t h1).2.2.1;exact⟨(h.iE t h1).1,(h.iE t h1).2.1,isI_iff.2 ⟨g,List.mem_filter.2 ⟨hg,by simp at h2;simp;omega⟩,he⟩,(h.iE t h1).2.2.2⟩
  iR:=sorted_filter _ h.iR
  iN:=h.iN.sublist List.filter_sublist
  iL:=Nat.le_trans (List.length_filter_le ..) h.iL}
theorem ok_fee(h:StP x)(f:Fee→Fee)(hid:∀a,(f a).id=a.id)(hurl:∀a,(f a).url=a.url)(hE:∀a∈x.fees,evOk ⟨3,(f a).id,(f a).inn,0,(f a).url,(f a).title,eS⟩=true∧inS x (f a).inn=true)(id:Int):
  StP {x with fees:=updI Fee.id id f x.fees}:=by
 rw[updI_map f h.eR]
 exact {h with
  eE:=λg hm=>by
   obtain⟨a,ha,rfl⟩:=List.mem_map.1 hm;split
   ·exact⟨(hE a ha).1,by rw[hid];exact(h.eE a ha).2.1,(hE a ha).2⟩
   ·exact h.eE a ha
  eR:=map_sorted hid h.eR
  eN:=by
   refine List.pairwise_map.2 (h.eN.imp ?_);intro a b hab;have e:∀c:Fee,(if c.id=id then f c else c).url=c.url:=λc=>by split<;>simp[hurl]
   rw[e,e];exact hab
  eL:=by show (x.fees.map _).length≤64;rw[List.length_map];exact h.eL
  iE:=λt hm=>⟨(h.iE t hm).1,(h.iE t hm).2.1,by
   show isI Fee.id t.feed (x.fees.map _)=true
   rw[isI_map hid];exact(h.iE t hm).2.2.1,(h.iE t hm).2.2.2⟩}
theorem ok5(h:StP x)(hk:e.kind=5)(hf:fits x e=true):StP (doS x e):=by
 have ho:=fits_ev hf;have hr:=evOk_right ho;rw[do5 hk];refine ok_fee h (λf=>{f with title:=e.t}) (λ_=>rfl) (λ_=>rfl) (λa ha=>⟨?_,(h.eE a ha).2.2⟩) _;have h1:=(h.eE a ha).1;rw[ev3] at h1 ⊢;simp only[Bool.and_eq_true] at h1 ⊢;simp[evRight,hk] at hr;exact⟨h1.1,hr.2⟩
theorem ok6(h:StP x)(hk:e.kind=6)(hf:fits x e=true):StP (doS x e):=by
 have ho:=fits_ev hf;have hr:=evOk_right ho;obtain⟨-,hin⟩:=(fits6 hk ho).1 hf;rw[do6 hk];refine ok_fee h (λf=>{f with inn:=e.b}) (λ_=>rfl) (λ_=>rfl) (λa ha=>⟨?_,hin⟩) _;have h1:=(h.eE a ha).1;rw[ev3] at h1 ⊢;simp only[Bool.and_eq_true] at h1 ⊢;simp[evRight,hk] at hr;exact⟨⟨⟨h1.1.1.1,hr.2⟩,h1.1.2⟩,h1.2⟩
theorem ok7(h:StP x)(hk:e.kind=7)(hf:fits x e=true):StP (doS x e):=by
 have ho:=fits_ev hf;obtain⟨f1,f2,⟨g,hg,hge⟩,f4⟩:=(fits7 hk ho).1 hf;have f4:=(guid_iff h e.b e.s).1 f4;have hE:=ho;rw[ev7_of hk] at hE
 have hid:1≤e.a∧e.a≤1048576:=by
  rw[ev7] at hE;simp only[Bool.and_eq_true] at hE;exact idOk_iff.1 hE.1.1.1.1.1
 rw[do7 hk]
 exact {h with
  iE:=λt hm=>by
   rcases mem_insI.1 hm with rfl | hm
   ·exact⟨hE,Int.le_max_right _ _,isI_iff.2 ⟨g,hg,hge⟩,by simp,rfl⟩
   ·exact⟨(h.iE t hm).1,Int.le_trans (h.iE t hm).2.1 (Int.le_max_left _ _),(h.iE t hm).2.2⟩
  iR:=insI_sorted h.iR f1
  iN:=pw_perm (λa b hab hba=>hab ⟨hba.1.symm,hba.2.symm⟩) (insI_perm Itm.id _ x.itms).symm (List.pairwise_cons.2 ⟨λf hm hn=>f4 f hm ⟨hn.1.symm,hn.2.symm⟩,h.iN⟩)
  iL:=by show (insI Itm.id _ x.itms).length≤1024;rw[insI_len];omega
  iT:=⟨Int.le_trans h.iT.1 (Int.le_max_left _ _),Int.max_le.2 ⟨h.iT.2,hid.2⟩⟩
  iF:=.inr (by show 0<x.tFee;have:=(h.eE g hg).2.1;have:=h.eId hg;omega)}
theorem ok_itm(h:StP x)(f:Itm→Itm)(hid:∀a,(f a).id=a.id)(hfe:∀a,(f a).feed=a.feed)(hg:∀a,(f a).guid=a.guid)(id:Int)
  (hE:∀a∈x.itms,a.id=id→evOk ⟨7,(f a).id,(f a).feed,(f a).date,(f a).guid,(f a).title,(f a).link⟩=true∧(f a).tags.length≤8∧tagsRise (f a).tags=true):
  StP {x with itms:=updI Itm.id id f x.itms}:=by
 rw[updI_map f h.iR]
 exact {h with
  iE:=λg hm=>by
   obtain⟨a,ha,rfl⟩:=List.mem_map.1 hm;split
   ·rename_i hai
    exact⟨(hE a ha hai).1,by rw[hid];exact(h.iE a ha).2.1,by rw[hfe];exact(h.iE a ha).2.2.1,(hE a ha hai).2⟩
   ·exact h.iE a ha
  iR:=map_sorted hid h.iR
  iN:=by
   refine List.pairwise_map.2 (h.iN.imp ?_);intro a b hab;have e:∀c:Itm,(if c.id=id then f c else c).feed=c.feed:=λc=>by split<;>simp[hfe]
   have e':∀c:Itm,(if c.id=id then f c else c).guid=c.guid:=λc=>by split<;>simp[hg]
   rw[e,e,e',e'];exact hab
  iL:=by show (x.itms.map _).length≤1024;rw[List.length_map];exact h.iL}
theorem ok8(h:StP x)(hk:e.kind=8):StP (doS x e):=by
 rw[do8 hk];exact ok_itm h (λt=>{t with read:=decide (e.n=1)}) (λ_=>rfl) (λ_=>rfl) (λ_=>rfl) _ λa ha _=>⟨(h.iE a ha).1,(h.iE a ha).2.2.2⟩
theorem ok9(h:StP x)(hk:e.kind=9):StP (doS x e):=by
 rw[do9 hk];exact ok_itm h (λt=>{t with star:=decide (e.n=1)}) (λ_=>rfl) (λ_=>rfl) (λ_=>rfl) _ λa ha _=>⟨(h.iE a ha).1,(h.iE a ha).2.2.2⟩
theorem flag_of(hk:e.kind=10)(ho:evOk e=true):(e.n=0∨e.n=1)∧tagOk e.s=true:=by
 have hr:=evOk_right ho;simp[evRight,hk,flagOk] at hr;exact⟨hr.1.2,hr.2⟩
theorem ok10(h:StP x)(hk:e.kind=10)(hf:fits x e=true):StP (doS x e):=by
 have ho:=fits_ev hf;obtain⟨t,ht,hc⟩:=(fits10 hk ho).1 hf;obtain⟨hn,hto⟩:=flag_of hk ho;obtain⟨hm,hid⟩:=atI_mem ht;rw[do10 hk];refine ok_itm h (λt=>{t with tags:=tagsS t.tags e.s (decide (e.n=1))}) (λ_=>rfl) (λ_=>rfl) (λ_=>rfl) _ λa ha hai=>⟨(h.iE a ha).1,?_,?_⟩
 ·obtain rfl:=ids_inj h.iR ha hm (by omega)
  refine tagsS_len _ ((tagsRise_iff _).1 (h.iE a ha).2.2.2.2).2 (h.iE a ha).2.2.2.1 ?_;rcases hc with hc | hc | hc
  ·exact .inl (by simp[hc])
  ·exact .inr (.inl hc)
  ·exact .inr (.inr hc)
 ·obtain⟨t1,t2⟩:=(tagsRise_iff _).1 (h.iE a ha).2.2.2.2
  refine(tagsRise_iff _).2 ⟨λy hy=>?_,tagsS_sorted _ t2⟩;rcases tagsS_mem _ t2 hy with rfl | hy
  ·exact hto
  ·exact t1 y hy
theorem ok11(h:StP x)(hk:e.kind=11)(hf:fits x e=true):StP (doS x e):=by
 have ho:=fits_ev hf;obtain⟨f1,f2⟩:=(fits11 hk ho).1 hf;have hE:=ho;rw[ev11_of ho hk] at hE
 have hid:1≤e.a∧e.a≤1048576:=by
  rw[ev11] at hE;simp only[Bool.and_eq_true] at hE;exact idOk_iff.1 hE.1.1
 rw[do11 hk]
 exact {h with
  sE:=λf hm=>by
   rcases mem_insI.1 hm with rfl | hm
   ·exact⟨hE,Int.le_max_right _ _⟩
   ·exact⟨(h.sE f hm).1,Int.le_trans (h.sE f hm).2 (Int.le_max_left _ _)⟩
  sR:=insI_sorted h.sR f1
  sL:=by show (insI Sea.id _ x.seas).length≤32;rw[insI_len];omega
  sT:=⟨Int.le_trans h.sT.1 (Int.le_max_left _ _),Int.max_le.2 ⟨h.sT.2,hid.2⟩⟩}
theorem ok12(h:StP x)(hk:e.kind=12):StP (doS x e):=by
 rw[do12 hk,delI_filter h.sR]
 exact {h with
  sE:=λf hm=>h.sE f (List.mem_filter.1 hm).1
  sR:=sorted_filter _ h.sR
  sL:=Nat.le_trans (List.length_filter_le ..) h.sL}
theorem ok13(h:StP x)(hk:e.kind=13)(hf:fits x e=true):StP (doS x e):=by
 have ho:=fits_ev hf;have hc:=(fits13 hk ho).1 hf;have hE:=ho;rw[ev13_of ho hk] at hE;rw[do13 hk];exact {h with clk:=⟨Int.le_trans h.clk.1 hc,hE⟩}
theorem doS_ok(h:StP x)(hf:fits x e=true):StP (doS x e):=by
 rcases evKind (fits_ev hf) with k | k | k | k | k | k | k | k | k | k | k | k | k
 ·exact ok1 h k hf
 ·exact ok2 h k hf
 ·exact ok3 h k hf
 ·exact ok4 h k
 ·exact ok5 h k hf
 ·exact ok6 h k hf
 ·exact ok7 h k hf
 ·exact ok8 h k
 ·exact ok9 h k
 ·exact ok10 h k hf
 ·exact ok11 h k hf
 ·exact ok12 h k
 ·exact ok13 h k hf
theorem applyS_ok(h:StP x)(e:Ev):StP (applyS x e).1:=by
 unfold applyS;split
 ·rename_i hf
  exact doS_ok h hf
 ·exact h
theorem foldE_ok(l:List Ev):∀{x:St},StP x→StP (foldE x l):=by
 induction l with
 | nil=>exact λh=>h
 | cons e l ih=>exact λh=>ih (applyS_ok h e)
end
end
section
def Leads:St→List Ev→St→Prop
 | x,[],y=>x=y
 | x,e::l,y=>fits x e=true∧Leads (doS x e) l y
theorem Leads.app:∀{l:List Ev} {x y z:St} {l':List Ev},Leads x l y→Leads y l' z→Leads x (l++l') z
 | [],_,_,_,_,h,h'=>by obtain rfl:=h;exact h'
 | _::_,_,_,_,_,h,h'=>⟨h.1,h.2.app h'⟩
theorem Leads.fold:∀{l:List Ev} {x y:St},Leads x l y→foldE x l=y
 | [],_,_,h=>h
 | e::l,x,y,h=>by
   have:(applyS x e).1=doS x e:=by simp[applyS,h.1]
   simp only[foldE,List.foldl_cons,this];exact h.2.fold
theorem Leads.ok:∀{l:List Ev} {x y:St},StP x→Leads x l y→StP y
 | [],_,_,hx,h=>by obtain rfl:=h;exact hx
 | _::_,_,_,hx,h=>Leads.ok (doS_ok hx h.1) h.2
section
variable {α:Type} {g:α→Int}
end
end
end Go.Proofs.YtaecjmiobllhmaaGreat
