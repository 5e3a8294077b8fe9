/-
  Plain: commands: what one asks for, as the program finds it (planP) and as the document does (planD); they are the same in every state that may be. No program in sight.
-/
import Derived.Test.YtdihmpakglakdaaGreatGp10
set_option linter.unusedVariables false
set_option linter.unusedSimpArgs false
namespace Go.Proofs.YtdihmpakglakdaaGreat
section
structure Cm where
 kind:Int
 a:Int
 b:Int
 n:Int
 s:ByteArray
 t:ByteArray
def upG(l:List Fol):Nat→Int→Int→Int
 | 0,id,_=>id
 | k+1,id,u=>if id≠u∧id≠0 then upG l k (match atI Fol.id id l with | none=>0 | some f=>f.inn) u else id
def withinS(x:St)(id u:Int):Bool:=decide (upG x.fols 10 id u=u)||decide (u=0)
def underS(x:St)(id:Int):List Int:=if inS x id=true then (x.fees.filter fun f=>withinS x f.inn id).map Fee.id else []
def topK(x:St)(k:Int):Int:=if k=1 then x.tFol else if k=3 then x.tFee else if k=7 then x.tItm else if k=11 then x.tSea else 0
def one1(e:Ev)(c:Bool):List Ev×Int:=if c=true then ([e],0) else ([],0)
section
variable (sh:ByteArray→Int→ByteArray) (tg:ByteArray→ByteArray)
def makesP(x:St)(e:Ev)(has:Bool):List Ev×Int:=
 if e.s=eS∨(e.kind=11∧e.t=eS) then ([],1)
 else if inS x e.b=false then ([],4)
 else if has=true then ([],5)
 else if topK x e.kind≥1048576∨fits x {e with a:=topK x e.kind+1}=false then ([],2)
 else ([{e with a:=topK x e.kind+1}],0)
def readP(x:St)(l:List Int):List Ev:=(x.itms.filter fun t=>!t.read&&l.any fun i=>i=t.feed).map fun t=>⟨8,t.id,0,1,eS,eS,eS⟩
def planP(x:St)(c:Cm):List Ev×Int:=
 if c.kind=1 then makesP x ⟨1,0,c.b,0,sh c.s 64,eS,eS⟩ (namedS x c.b (sh c.s 64))
 else if c.kind=2 then
  if isI Fol.id c.a x.fols=false then ([],4) else if fits x ⟨2,c.a,0,0,eS,eS,eS⟩=false then ([],220) else ([⟨2,c.a,0,0,eS,eS,eS⟩],0)
 else if c.kind=3 then makesP x ⟨3,0,c.b,0,sh c.s 512,sh c.t 256,eS⟩ (!decide (placeS x (sh c.s 512)=0))
 else if c.kind=4∨c.kind=5∨c.kind=6 then
  match atI Fee.id c.a x.fees with
  | none=>([],4)
  | some f=>
    if c.kind=6∧inS x c.b=false then ([],4)
    else if c.kind=4 then ([⟨4,c.a,0,0,eS,eS,eS⟩],0)
    else if c.kind=5 then one1 ⟨5,c.a,0,0,eS,sh c.t 256,eS⟩ (!decide (sh c.t 256=f.title))
    else one1 ⟨6,c.a,c.b,0,eS,eS,eS⟩ (!decide (c.b=f.inn))
 else if c.kind=7∨c.kind=8∨c.kind=9 then
  if ¬(c.n=0∨c.n=1) then ([],1)
  else if c.kind=9 then
   if tg c.s=eS then ([],1)
   else match atI Itm.id c.a x.itms with
    | none=>([],4)
    | some t=>if fits x ⟨10,c.a,0,c.n,tg c.s,eS,eS⟩=false then ([],2) else one1 ⟨10,c.a,0,c.n,tg c.s,eS,eS⟩ (!decide ((t.tags.any fun y=>y=tg c.s)=decide (c.n=1)))
  else match atI Itm.id c.a x.itms with
   | none=>([],4)
   | some t=>if c.kind=7 then one1 ⟨8,c.a,0,c.n,eS,eS,eS⟩ (!decide (t.read=decide (c.n=1))) else one1 ⟨9,c.a,0,c.n,eS,eS,eS⟩ (!decide (t.star=decide (c.n=1)))
 else if c.kind=10 then if isI Fee.id c.a x.fees=false then ([],4) else (readP x [c.a],0)
 else if c.kind=11 then if inS x c.a=false then ([],4) else (readP x (underS x c.a),0)
 else if c.kind=12 then makesP x ⟨11,0,0,0,sh c.s 64,sh c.t 512,eS⟩ false
 else if c.kind=13 then if isI Sea.id c.a x.seas=false then ([],4) else ([⟨12,c.a,0,0,eS,eS,eS⟩],0)
 else if c.kind=14 then if fits x ⟨13,0,0,c.n,eS,eS,eS⟩=false then ([],1) else one1 ⟨13,0,0,c.n,eS,eS,eS⟩ (!decide (c.n=x.clock))
 else ([],1)
def madeD(x:St)(k:Int)(b:Int)(s:ByteArray):Int:=
 if s=eS then 1
 else if k≠12∧inS x b=false then 4
 else if (if k=1 then namedS x b s else if k=3 then decide (0<placeS x s) else false)=true then 5
 else if (if k=1 then x.tFol else if k=3 then x.tFee else x.tSea)=1048576∨fits x (if k=1 then ⟨1,1048576,b,0,s,eS,eS⟩ else if k=3 then ⟨3,1048576,b,0,s,⟨#[116]⟩,eS⟩ else ⟨11,1048576,0,0,s,⟨#[116]⟩,eS⟩)=false then 2
 else 0
def wrongD(x:St)(c:Cm):Int:=
 if c.kind=1 then madeD x 1 c.b (sh c.s 64)
 else if c.kind=3 then madeD x 3 c.b (sh c.s 512)
 else if c.kind=12 then if sh c.t 512=eS then 1 else madeD x 12 c.b (sh c.s 64)
 else if c.kind=2 then if isI Fol.id c.a x.fols=false then 4 else if fits x ⟨2,c.a,0,0,eS,eS,eS⟩=false then 220 else 0
 else if c.kind=4∨c.kind=5∨c.kind=10∨c.kind=6 then if isI Fee.id c.a x.fees=false∨(c.kind=6∧inS x c.b=false) then 4 else 0
 else if c.kind=11 then if inS x c.a=false then 4 else 0
 else if c.kind=13 then if isI Sea.id c.a x.seas=false then 4 else 0
 else if c.kind=7∨c.kind=8∨c.kind=9 then
  if ¬(c.n=0∨c.n=1)∨(c.kind=9∧tg c.s=eS) then 1
  else if isI Itm.id c.a x.itms=false then 4
  else if c.kind=9∧fits x ⟨10,c.a,0,c.n,tg c.s,eS,eS⟩=false then 2 else 0
 else if c.kind=14 then if momentOk c.n=false∨c.n<x.clock then 1 else 0
 else 1
def askedD(x:St)(c:Cm):List Ev:=
 if c.kind=1 then [⟨1,x.tFol+1,c.b,0,sh c.s 64,eS,eS⟩]
 else if c.kind=2 then [⟨2,c.a,0,0,eS,eS,eS⟩]
 else if c.kind=3 then [⟨3,x.tFee+1,c.b,0,sh c.s 512,sh c.t 256,eS⟩]
 else if c.kind=4 then [⟨4,c.a,0,0,eS,eS,eS⟩]
 else if c.kind=5 then [⟨5,c.a,0,0,eS,sh c.t 256,eS⟩]
 else if c.kind=6 then [⟨6,c.a,c.b,0,eS,eS,eS⟩]
 else if c.kind=7 then [⟨8,c.a,0,c.n,eS,eS,eS⟩]
 else if c.kind=8 then [⟨9,c.a,0,c.n,eS,eS,eS⟩]
 else if c.kind=9 then [⟨10,c.a,0,c.n,tg c.s,eS,eS⟩]
 else if c.kind=12 then [⟨11,x.tSea+1,0,0,sh c.s 64,sh c.t 512,eS⟩]
 else if c.kind=13 then [⟨12,c.a,0,0,eS,eS,eS⟩]
 else if c.kind=14 then [⟨13,0,0,c.n,eS,eS,eS⟩]
 else if c.kind=10 then (x.itms.filter fun t=>decide (t.feed=c.a)).map fun t=>⟨8,t.id,0,1,eS,eS,eS⟩
 else (x.itms.filter fun t=>match atI Fee.id t.feed x.fees with | none=>false | some f=>withinS x f.inn c.a).map fun t=>⟨8,t.id,0,1,eS,eS,eS⟩
def planD(x:St)(c:Cm):List Ev×Int:=
 if wrongD sh tg x c=0 then ((askedD sh tg x c).filter fun e=>!decide ((applyS x e).1=x),0) else ([],wrongD sh tg x c)
end
theorem ap_fit{x:St}{e:Ev}(h:fits x e=true):(applyS x e).1=doS x e:=by unfold applyS;rw[if_pos h]
theorem updI_same{α:Type}{g:α→Int}{id:Int}{f:α→α}{l:List α}(hs:l.Pairwise fun a b=>g a<g b){a:α}(ha:atI g id l=some a):updI g id f l=l↔f a=a:=by
 rw[updI_map f hs];have hm:=atI_mem ha;constructor
 ·intro h
  obtain⟨k,hk,e⟩:=List.mem_iff_getElem.1 hm.1;have h1:(l.map fun y=>if g y=id then f y else y)[k]'(by simpa using hk)=l[k]:=by simp only[h]
  rw[List.getElem_map,e,if_pos hm.2] at h1;exact h1
 ·intro h
  conv=>rhs;rw[← List.map_id l]
  refine List.map_congr_left fun b hb=>?_
  by_cases hg:g b=id
  ·rw[if_pos hg,ids_inj hs hb hm.1 (by rw[hg,hm.2]),h]
   rfl
  ·rw[if_neg hg]
   rfl
theorem insI_ne{α:Type}{g:α→Int}{a:α}{l:List α}:insI g a l≠l:=fun h=>by have:=insI_len g a l;rw[h] at this;omega
theorem delI_ne{α:Type}{g:α→Int}{id:Int}{l:List α}(hs:l.Pairwise fun a b=>g a<g b)(h:isI g id l=true):delI g id l≠l:=by
 obtain⟨y,hy,he⟩:=isI_iff.1 h;intro h1;rw[delI_filter hs] at h1;rw[← h1] at hy;simp[he] at hy
theorem tags_any{l:List ByteArray}{t:ByteArray}:(l.any fun y=>decide (y=t))=true↔t ∈ l:=by simp
theorem tagsS_sm{l:List ByteArray}{t:ByteArray}(w:Bool)(h:l.Pairwise ltB):tagsS l t w=l↔(l.any fun y=>decide (y=t))=w:=by
 cases w with
 | false=>
   rw[tagsS_without];constructor
   ·intro h1
    rw[List.any_eq_false];intro y hy hyt;rw[← h1] at hy;simp at hy hyt;exact hy.2 hyt
   ·intro h1
    rw[List.any_eq_false] at h1;refine List.filter_eq_self.2 fun y hy=>?_
    have:=h1 y hy
    simpa using this
 | true=>
   constructor
   ·intro h1
    rw[tags_any,← h1,tagsS_with h];simp
   ·intro h1
    rw[tags_any] at h1;obtain⟨s1,s2⟩:=tags_split t l h;rw[tagsS_with h]
    conv=>rhs;rw[← List.takeWhile_append_dropWhile (p:=fun x=>decide (ltB x t)) (l:=l)]
    congr 1
    have hmem:t ∈ l.dropWhile fun x=>decide (ltB x t):=by
     rw[← List.takeWhile_append_dropWhile (p:=fun x=>decide (ltB x t)) (l:=l),List.mem_append] at h1;rcases h1 with h1 | h1
     ·exact absurd (s1 t h1) (ltB_irr t)
     ·exact h1
    have hd:(l.dropWhile fun x=>decide (ltB x t)).Pairwise ltB:=h.sublist (List.dropWhile_sublist _)
    cases hl:l.dropWhile (fun x=>decide (ltB x t)) with
    | nil=>rw[hl] at hmem;simp at hmem
    | cons y r=>
      rw[hl] at hmem hd s2
      have hy:y=t:=by
       rcases List.mem_cons.1 hmem with h2 | h2
       ·exact h2.symm
       ·have h3:=(List.pairwise_cons.1 hd).1 t h2
        exact absurd h3 (by have:=s2 y (by simp);exact this)
      subst hy
      have hr:∀ z ∈ r,z≠y:=fun z hz e=>by
       have h3:=(List.pairwise_cons.1 hd).1 z hz;rw[e] at h3;exact ltB_irr _ h3
      rw[List.filter_cons];simp only[ne_eq,not_true_eq_false,decide_false,Bool.false_eq_true,if_false];rw[List.filter_eq_self.2 fun z hz=>by simpa using hr z hz]
end
section
def chS(x:St)(e:Ev):Bool:=!decide ((applyS x e).1=x)
theorem ch_true{x:St}{e:Ev}(hf:fits x e=true)(h:doS x e≠x):chS x e=true:=by
 unfold chS;rw[ap_fit hf,decide_eq_false h];rfl
theorem ch_iff{x:St}{e:Ev}(hf:fits x e=true){p:Prop} [Decidable p] (h:doS x e=x↔p):chS x e=!decide p:=by
 unfold chS;rw[ap_fit hf]
 congr 1
 exact decide_eq_decide.2 h
theorem filt1(e:Ev)(b:Bool)(p:Ev→Bool)(h:p e=b):([e].filter p,(0:Int))=one1 e b:=by
 unfold one1
 cases b<;>simp[h]
section
variable {x:St}
theorem ev4(a:Int):evOk ⟨4,a,0,0,eS,eS,eS⟩=idOk a:=by simp[evOk,evRight,evUsed]
theorem ev5(a:Int)(t:ByteArray):evOk ⟨5,a,0,0,eS,t,eS⟩=(idOk a&&titleOk t):=by simp[evOk,evRight,evUsed]
theorem ev6(a b:Int):evOk ⟨6,a,b,0,eS,eS,eS⟩=(idOk a&&folderOk b):=by simp[evOk,evRight,evUsed]
theorem ev8(a n:Int):evOk ⟨8,a,0,n,eS,eS,eS⟩=(idOk a&&flagOk n):=by simp[evOk,evRight,evUsed]
theorem ev9(a n:Int):evOk ⟨9,a,0,n,eS,eS,eS⟩=(idOk a&&flagOk n):=by simp[evOk,evRight,evUsed]
theorem ev12(a:Int):evOk ⟨12,a,0,0,eS,eS,eS⟩=idOk a:=by simp[evOk,evRight,evUsed]
theorem ev13(n:Int):evOk ⟨13,0,0,n,eS,eS,eS⟩=momentOk n:=by simp[evOk,evRight,evUsed]
theorem inS_folder(h:StP x){b:Int}(hb:inS x b=true):folderOk b=true:=by
 rcases inS_iff.1 hb with rfl | ⟨f,hf,rfl⟩
 ·rfl
 ·have:=h.fId hf
  simp[folderOk,idOk,this]
theorem isI_at{α:Type}{g:α→Int}{i:Int}{l:List α}{f:α}(ha:atI g i l=some f):isI g i l=true:=by rw[← atI_isI,ha];rfl
theorem isI_no{α:Type}{g:α→Int}{i:Int}{l:List α}(ha:atI g i l=none):isI g i l=false:=by rw[← atI_isI,ha];rfl
theorem fit4(h:StP x){a:Int}(ha:isI Fee.id a x.fees=true):fits x ⟨4,a,0,0,eS,eS,eS⟩=true:=by
 obtain⟨f,hf,rfl⟩:=isI_iff.1 ha;exact(fits45 (.inl rfl) (by rw[ev4];exact idOk_iff.2 (h.eId hf))).2 ⟨f,hf,rfl⟩
theorem fit5(h:StP x){a:Int}{t:ByteArray}(ha:isI Fee.id a x.fees=true)(ht:titleOk t=true):fits x ⟨5,a,0,0,eS,t,eS⟩=true:=by
 obtain⟨f,hf,rfl⟩:=isI_iff.1 ha;exact(fits45 (.inr rfl) (by rw[ev5,ht,idOk_iff.2 (h.eId hf)];rfl)).2 ⟨f,hf,rfl⟩
theorem fit6(h:StP x){a b:Int}(ha:isI Fee.id a x.fees=true)(hb:inS x b=true):fits x ⟨6,a,b,0,eS,eS,eS⟩=true:=by
 obtain⟨f,hf,rfl⟩:=isI_iff.1 ha;exact(fits6 rfl (by rw[ev6,inS_folder h hb,idOk_iff.2 (h.eId hf)];rfl)).2 ⟨⟨f,hf,rfl⟩,hb⟩
theorem fit8(h:StP x){a n:Int}(ha:isI Itm.id a x.itms=true)(hn:n=0∨n=1):fits x ⟨8,a,0,n,eS,eS,eS⟩=true:=by
 obtain⟨f,hf,rfl⟩:=isI_iff.1 ha;exact(fits89 (.inl rfl) (by rw[ev8,idOk_iff.2 (h.iId hf).1];simp[flagOk,hn])).2 ⟨f,hf,rfl⟩
theorem fit9(h:StP x){a n:Int}(ha:isI Itm.id a x.itms=true)(hn:n=0∨n=1):fits x ⟨9,a,0,n,eS,eS,eS⟩=true:=by
 obtain⟨f,hf,rfl⟩:=isI_iff.1 ha;exact(fits89 (.inr rfl) (by rw[ev9,idOk_iff.2 (h.iId hf).1];simp[flagOk,hn])).2 ⟨f,hf,rfl⟩
theorem fit12(h:StP x){a:Int}(ha:isI Sea.id a x.seas=true):fits x ⟨12,a,0,0,eS,eS,eS⟩=true:=by
 obtain⟨f,hf,rfl⟩:=isI_iff.1 ha;exact(fits12 rfl (by rw[ev12];exact idOk_iff.2 (h.sId hf))).2 ⟨f,hf,rfl⟩
theorem fees_same{x:St}{l:List Fee}:{x with fees:=l}=x↔l=x.fees:=⟨fun h=>congrArg St.fees h,fun h=>by rw[h]⟩
theorem itms_same{x:St}{l:List Itm}:{x with itms:=l}=x↔l=x.itms:=⟨fun h=>congrArg St.itms h,fun h=>by rw[h]⟩
theorem ch2{a:Int}(h:StP x)(hf:fits x ⟨2,a,0,0,eS,eS,eS⟩=true):chS x ⟨2,a,0,0,eS,eS,eS⟩=true:=by
 refine ch_true hf fun e=>?_
 rw[do2 rfl] at e;obtain⟨⟨f,h1,h2⟩,-⟩:=(fits2 rfl (fits_ev hf)).1 hf;exact delI_ne h.fR (isI_iff.2 ⟨f,h1,h2⟩) (congrArg St.fols e)
theorem ch4{a:Int}(h:StP x)(ha:isI Fee.id a x.fees=true):chS x ⟨4,a,0,0,eS,eS,eS⟩=true:=by
 refine ch_true (fit4 h ha) fun e=>?_
 rw[do4 rfl] at e;exact delI_ne h.eR ha (congrArg St.fees e)
theorem ch12{a:Int}(h:StP x)(ha:isI Sea.id a x.seas=true):chS x ⟨12,a,0,0,eS,eS,eS⟩=true:=by
 refine ch_true (fit12 h ha) fun e=>?_
 rw[do12 rfl] at e;exact delI_ne h.sR ha (congrArg St.seas e)
theorem ch5{a:Int}{t:ByteArray}{f:Fee}(h:StP x)(ha:atI Fee.id a x.fees=some f)(ht:titleOk t=true):chS x ⟨5,a,0,0,eS,t,eS⟩=!decide (t=f.title):=by
 refine ch_iff (fit5 h (isI_at ha) ht) ?_;rw[do5 rfl,fees_same,updI_same h.eR ha];exact⟨fun e=>congrArg Fee.title e,fun e=>by simp only[e]⟩
theorem ch6{a b:Int}{f:Fee}(h:StP x)(ha:atI Fee.id a x.fees=some f)(hb:inS x b=true):chS x ⟨6,a,b,0,eS,eS,eS⟩=!decide (b=f.inn):=by
 refine ch_iff (fit6 h (isI_at ha) hb) ?_;rw[do6 rfl,fees_same,updI_same h.eR ha];exact⟨fun e=>congrArg Fee.inn e,fun e=>by simp only[e]⟩
theorem ch8{a n:Int}{t:Itm}(h:StP x)(ha:atI Itm.id a x.itms=some t)(hn:n=0∨n=1):chS x ⟨8,a,0,n,eS,eS,eS⟩=!decide (t.read=decide (n=1)):=by
 refine ch_iff (fit8 h (isI_at ha) hn) ?_;rw[do8 rfl,itms_same,updI_same h.iR ha];exact⟨fun e=>(congrArg Itm.read e).symm,fun e=>by simp only[← e]⟩
theorem ch9{a n:Int}{t:Itm}(h:StP x)(ha:atI Itm.id a x.itms=some t)(hn:n=0∨n=1):chS x ⟨9,a,0,n,eS,eS,eS⟩=!decide (t.star=decide (n=1)):=by
 refine ch_iff (fit9 h (isI_at ha) hn) ?_;rw[do9 rfl,itms_same,updI_same h.iR ha];exact⟨fun e=>(congrArg Itm.star e).symm,fun e=>by simp only[← e]⟩
theorem ch10{a n:Int}{s:ByteArray}{t:Itm}(h:StP x)(ha:atI Itm.id a x.itms=some t)(hf:fits x ⟨10,a,0,n,s,eS,eS⟩=true):chS x ⟨10,a,0,n,s,eS,eS⟩=!decide ((t.tags.any fun y=>y=s)=decide (n=1)):=by
 refine ch_iff hf ?_;rw[do10 rfl,itms_same,updI_same h.iR ha];have hs:=(tagsRise_iff _).1 (h.iE t (atI_mem ha).1).2.2.2.2;rw[← tagsS_sm (decide (n=1)) hs.2];exact⟨fun e=>by have:=congrArg Itm.tags e;exact this,fun e=>by simp only[e]⟩
theorem ch13{n:Int}(hf:fits x ⟨13,0,0,n,eS,eS,eS⟩=true):chS x ⟨13,0,0,n,eS,eS,eS⟩=!decide (n=x.clock):=by
 refine ch_iff hf ?_;rw[do13 rfl];exact⟨fun h=>congrArg St.clock h,fun h=>by simp only[h]⟩
theorem ch1{e:Ev}(hk:e.kind=1)(hf:fits x e=true):chS x e=true:=by
 refine ch_true hf fun h=>?_
 rw[do1 hk] at h;exact insI_ne (congrArg St.fols h)
theorem ch3{e:Ev}(hk:e.kind=3)(hf:fits x e=true):chS x e=true:=by
 refine ch_true hf fun h=>?_
 rw[do3 hk] at h;exact insI_ne (congrArg St.fees h)
theorem ch11{e:Ev}(hk:e.kind=11)(hf:fits x e=true):chS x e=true:=by
 refine ch_true hf fun h=>?_
 rw[do11 hk] at h;exact insI_ne (congrArg St.seas h)
end
end
section
section
variable {x:St}
def tT:ByteArray:=⟨#[116]⟩
theorem tT_title:titleOk tT=true:=by decide+kernel
theorem tT_query:queryOk tT=true:=by decide+kernel
theorem place_nn(h:StP x)(s:ByteArray):0≤placeS x s:=by
 unfold placeS;split
 ·have:=h.eId (List.mem_of_find?_eq_some (by assumption));omega
 ·exact Int.le_refl _
theorem fit1_a(h:StP x){b:Int}{s:ByteArray}(hb:inS x b=true)(hs:labelOk s=true)(ht:x.tFol<1048576):fits x ⟨1,x.tFol+1,b,0,s,eS,eS⟩=fits x ⟨1,1048576,b,0,s,eS,eS⟩:=by
 have h0:=h.fT;have o1:evOk ⟨1,x.tFol+1,b,0,s,eS,eS⟩=true:=by rw[ev1,inS_folder h hb,hs,idOk_iff.2 (by omega)];rfl
 have o2:evOk ⟨1,1048576,b,0,s,eS,eS⟩=true:=by rw[ev1,inS_folder h hb,hs];rfl
 rw[Bool.eq_iff_iff,fits1 rfl o1,fits1 rfl o2];have e:(∀ f ∈ x.fols,f.id≠x.tFol+1)↔∀ f ∈ x.fols,f.id≠1048576:=⟨fun _ f hf=>by have:=(h.fE f hf).2;omega,fun _ f hf=>by have:=(h.fE f hf).2;omega⟩;simp only[e]
theorem fit3_a(h:StP x){b:Int}{s t t':ByteArray}(hb:inS x b=true)(hs:placeOk s=true)(h1:titleOk t=true)(h2:titleOk t'=true)(ht:x.tFee<1048576):fits x ⟨3,x.tFee+1,b,0,s,t,eS⟩=fits x ⟨3,1048576,b,0,s,t',eS⟩:=by
 have h0:=h.eT;have o1:evOk ⟨3,x.tFee+1,b,0,s,t,eS⟩=true:=by rw[ev3,inS_folder h hb,hs,h1,idOk_iff.2 (by omega)];rfl
 have o2:evOk ⟨3,1048576,b,0,s,t',eS⟩=true:=by rw[ev3,inS_folder h hb,hs,h2];rfl
 rw[Bool.eq_iff_iff,fits3 rfl o1,fits3 rfl o2];have e:(∀ f ∈ x.fees,f.id≠x.tFee+1)↔∀ f ∈ x.fees,f.id≠1048576:=⟨fun _ f hf=>by have:=(h.eE f hf).2.1;omega,fun _ f hf=>by have:=(h.eE f hf).2.1;omega⟩;simp only[e]
theorem fit11_a(h:StP x){s t t':ByteArray}(hs:labelOk s=true)(h1:queryOk t=true)(h2:queryOk t'=true)(ht:x.tSea<1048576):fits x ⟨11,x.tSea+1,0,0,s,t,eS⟩=fits x ⟨11,1048576,0,0,s,t',eS⟩:=by
 have h0:=h.sT;have o1:evOk ⟨11,x.tSea+1,0,0,s,t,eS⟩=true:=by rw[ev11,hs,h1,idOk_iff.2 (by omega)];rfl
 have o2:evOk ⟨11,1048576,0,0,s,t',eS⟩=true:=by rw[ev11,hs,h2];rfl
 rw[Bool.eq_iff_iff,fits11 rfl o1,fits11 rfl o2];have e:(∀ f ∈ x.seas,f.id≠x.tSea+1)↔∀ f ∈ x.seas,f.id≠1048576:=⟨fun _ f hf=>by have:=(h.sE f hf).2;omega,fun _ f hf=>by have:=(h.sE f hf).2;omega⟩;simp only[e]
theorem inS0:inS x 0=true:=rfl
theorem plan1(h:StP x)(b:Int){s:ByteArray}(hs:textOk s 64=true):
  makesP x ⟨1,0,b,0,s,eS,eS⟩ (namedS x b s)=if madeD x 1 b s=0 then ([(⟨1,x.tFol+1,b,0,s,eS,eS⟩:Ev)].filter (chS x),0) else ([],madeD x 1 b s):=by
 have h0:=h.fT;unfold makesP madeD
 by_cases hse:s=eS
 ·simp[hse]
 ·have hl:labelOk s=true:=by simp[labelOk,hse,hs]
  cases hb:inS x b with
  | false=>simp[hse,hb]
  | true=>
    cases hn:namedS x b s with
    | true=>simp[hse,hb,hn]
    | false=>
      by_cases ht:x.tFol=1048576
      ·simp[hse,hb,hn,topK,ht]
      ·have hf:=fit1_a h hb hl (by omega)
       have ht2:¬1048576≤x.tFol:=by omega
       cases hf2:fits x ⟨1,1048576,b,0,s,eS,eS⟩ with
       | false=>
         rw[hf2] at hf
         simp[hse,hb,hn,topK,ht,hf,hf2]
       | true=>
         rw[hf2] at hf;have hc:=ch1 (e:=⟨1,x.tFol+1,b,0,s,eS,eS⟩) rfl hf;simp[hse,hb,hn,topK,ht,ht2,hf,hf2,hc]
theorem plan3(h:StP x)(b:Int){s t:ByteArray}(hs:textOk s 512=true)(hti:titleOk t=true):
  makesP x ⟨3,0,b,0,s,t,eS⟩ (!decide (placeS x s=0))=if madeD x 3 b s=0 then ([(⟨3,x.tFee+1,b,0,s,t,eS⟩:Ev)].filter (chS x),0) else ([],madeD x 3 b s):=by
 have h0:=h.eT
 have hp:(!decide (placeS x s=0))=decide (0<placeS x s):=by
  have:=place_nn h s;rw[Bool.eq_iff_iff];simp;omega
 rw[hp];unfold makesP madeD
 by_cases hse:s=eS
 ·simp[hse]
 ·have hl:placeOk s=true:=by simp[placeOk,linkOk,hse,hs]
  cases hb:inS x b with
  | false=>simp[hse,hb]
  | true=>
    cases hn:decide (0<placeS x s) with
    | true=>
      have hn':=of_decide_eq_true hn
      simp[hse,hb,hn']
    | false=>
      have hn':=of_decide_eq_false hn
      by_cases ht:x.tFee=1048576
      ·simp[hse,hb,hn',topK,ht]
      ·have hf:=fit3_a h hb hl hti tT_title (by omega)
       have ht2:¬1048576≤x.tFee:=by omega
       cases hf2:fits x ⟨3,1048576,b,0,s,tT,eS⟩ with
       | false=>
         rw[hf2] at hf;unfold tT at hf2
         simp[hse,hb,hn',topK,ht,hf,hf2]
       | true=>
         rw[hf2] at hf;unfold tT at hf2;have hc:=ch3 (e:=⟨3,x.tFee+1,b,0,s,t,eS⟩) rfl hf;simp[hse,hb,hn',topK,ht,ht2,hf,hf2,hc]
theorem plan12(h:StP x)(b:Int){s t:ByteArray}(hs:textOk s 64=true)(hq:textOk t 512=true):
  makesP x ⟨11,0,0,0,s,t,eS⟩ false=if (if t=eS then 1 else madeD x 12 b s)=0 then ([(⟨11,x.tSea+1,0,0,s,t,eS⟩:Ev)].filter (chS x),0) else ([],if t=eS then 1 else madeD x 12 b s):=by
 have h0:=h.sT;unfold makesP madeD
 by_cases hte:t=eS
 ·simp[hte]
 ·by_cases hse:s=eS
  ·simp[hse,hte]
  ·have hl:labelOk s=true:=by simp[labelOk,hse,hs]
   have hl2:queryOk t=true:=by simp[queryOk,hte,hq]
   by_cases ht:x.tSea=1048576
   ·simp[hse,hte,topK,ht,inS0]
   ·have hf:=fit11_a h hl hl2 tT_query (by omega)
    have ht2:¬1048576≤x.tSea:=by omega
    cases hf2:fits x ⟨11,1048576,0,0,s,tT,eS⟩ with
    | false=>
      rw[hf2] at hf;unfold tT at hf2
      simp[hse,hte,topK,ht,hf,hf2,inS0]
    | true=>
      rw[hf2] at hf;unfold tT at hf2;have hc:=ch11 (e:=⟨11,x.tSea+1,0,0,s,t,eS⟩) rfl hf;simp[hse,hte,topK,ht,ht2,hf,hf2,hc,inS0]
theorem read_eq(h:StP x)(l:List Int)(p:Itm→Bool)(hp:∀ t ∈ x.itms,(l.any fun i=>decide (i=t.feed))=p t):
  readP x l=((x.itms.filter p).map fun t=>(⟨8,t.id,0,1,eS,eS,eS⟩:Ev)).filter (chS x):=by
 unfold readP;rw[List.filter_map,List.filter_filter]
 congr 1
 refine List.filter_congr fun t ht=>?_
 have hc:=ch8 (n:=1) h (atI_some h.iR ht rfl) (.inr rfl);rw[hp t ht];simp only[Function.comp,hc]
 cases t.read<;>simp
theorem under_any(h:StP x){a:Int}(ha:inS x a=true){t:Itm}(ht:t ∈ x.itms):((underS x a).any fun i=>decide (i=t.feed))=match atI Fee.id t.feed x.fees with | none=>false | some f=>withinS x f.inn a:=by
 unfold underS;rw[if_pos ha]
 cases hf:atI Fee.id t.feed x.fees with
 | none=>
   have:=(h.iE t ht).2.2.1;rw[isI_no hf] at this
   cases this
 | some f=>
   have hm:=atI_mem hf;rw[Bool.eq_iff_iff];simp only[List.any_map,List.any_eq_true,List.mem_filter,Function.comp,decide_eq_true_eq];constructor
   ·rintro⟨g,⟨hg,hw⟩,hi⟩
    rw[ids_inj h.eR hm.1 hg (by rw[hm.2,hi])];exact hw
   ·exact fun hw=>⟨f,⟨hm.1,hw⟩,hm.2⟩
end
section
variable {sh:ByteArray→Int→ByteArray} {tg:ByteArray→ByteArray}
theorem plan_eq(hsh:∀ s m,0≤m→textOk (sh s m) m=true){x:St}(h:StP x)(c:Cm):planP sh tg x c=planD sh tg x c:=by
 have hch:(fun e=>!decide ((applyS x e).1=x))=chS x:=rfl;unfold planD;rw[hch];obtain⟨k,a,b,n,s,t⟩:=c;have t64:=hsh s 64 (by decide);have t512:=hsh s 512 (by decide);have u256:titleOk (sh t 256)=true:=hsh t 256 (by decide);have u512:=hsh t 512 (by decide)
 by_cases k1:k=1
 ·subst k1
  simp only[planP,wrongD,askedD];exact plan1 h b t64
 by_cases k3:k=3
 ·subst k3
  simp only[planP,wrongD,askedD];exact plan3 h b t512 u256
 by_cases k12:k=12
 ·subst k12
  have:=plan12 h b t64 u512;simp only[planP,wrongD,askedD];exact this
 by_cases k2:k=2
 ·subst k2
  simp only[planP,wrongD,askedD]
  cases hi:isI Fol.id a x.fols with
  | false=>simp
  | true=>
    cases hf:fits x ⟨2,a,0,0,eS,eS,eS⟩ with
    | false=>simp
    | true=>
      have hc:=ch2 h hf;simp[hc]
 by_cases k456:k=4∨k=5∨k=6
 ·cases ha:atI Fee.id a x.fees with
  | none=>
    have hi:=isI_no ha
    rcases k456 with rfl | rfl | rfl<;>simp[planP,wrongD,askedD,ha,hi]
  | some f=>
    have hi:=isI_at ha;rcases k456 with rfl | rfl | rfl
    ·have hc:=ch4 h hi
     simp[planP,wrongD,askedD,ha,hi,hc]
    ·have hw:wrongD sh tg x ⟨5,a,b,n,s,t⟩=0:=by simp[wrongD,hi]
     have hk:askedD sh tg x ⟨5,a,b,n,s,t⟩=[⟨5,a,0,0,eS,sh t 256,eS⟩]:=by simp[askedD]
     rw[hw,if_pos rfl,hk,filt1 _ _ _ (ch5 h ha u256)];simp[planP,ha]
    ·cases hb:inS x b with
     | false=>simp[planP,wrongD,askedD,ha,hi,hb]
     | true=>
       have hw:wrongD sh tg x ⟨6,a,b,n,s,t⟩=0:=by simp[wrongD,hi,hb]
       have hk:askedD sh tg x ⟨6,a,b,n,s,t⟩=[⟨6,a,b,0,eS,eS,eS⟩]:=by simp[askedD]
       rw[hw,if_pos rfl,hk,filt1 _ _ _ (ch6 h ha hb)];simp[planP,ha,hb]
 by_cases k789:k=7∨k=8∨k=9
 ·by_cases hn:n=0∨n=1
  ·have hn':¬¬(n=0∨n=1):=fun h=>h hn
   cases ha:atI Itm.id a x.itms with
   | none=>
     have hi:=isI_no ha;rcases k789 with rfl | rfl | rfl
     ·simp only[planP,wrongD,ha,hi];simp[hn]
     ·simp only[planP,wrongD,ha,hi];simp[hn]
     ·by_cases ht:tg s=eS<;>simp only[planP,wrongD,ha,hi]<;>simp[hn,ht]
   | some q=>
     have hi:=isI_at ha;rcases k789 with rfl | rfl | rfl
     ·have hw:wrongD sh tg x ⟨7,a,b,n,s,t⟩=0:=by simp only[wrongD,hi];simp[hn]
      have hk:askedD sh tg x ⟨7,a,b,n,s,t⟩=[⟨8,a,0,n,eS,eS,eS⟩]:=by simp[askedD]
      rw[hw,if_pos rfl,hk,filt1 _ _ _ (ch8 h ha hn)];simp only[planP,ha];simp[hn]
     ·have hw:wrongD sh tg x ⟨8,a,b,n,s,t⟩=0:=by simp only[wrongD,hi];simp[hn]
      have hk:askedD sh tg x ⟨8,a,b,n,s,t⟩=[⟨9,a,0,n,eS,eS,eS⟩]:=by simp[askedD]
      rw[hw,if_pos rfl,hk,filt1 _ _ _ (ch9 h ha hn)];simp only[planP,ha];simp[hn]
     ·by_cases ht:tg s=eS
      ·simp only[planP,wrongD,ha,hi];simp[hn,ht]
      ·cases hf:fits x ⟨10,a,0,n,tg s,eS,eS⟩ with
       | false=>simp only[planP,wrongD,ha,hi,hf];simp[hn,ht]
       | true=>
         have hw:wrongD sh tg x ⟨9,a,b,n,s,t⟩=0:=by simp only[wrongD,hi,hf];simp[hn,ht]
         have hk:askedD sh tg x ⟨9,a,b,n,s,t⟩=[⟨10,a,0,n,tg s,eS,eS⟩]:=by simp[askedD]
         rw[hw,if_pos rfl,hk,filt1 _ _ _ (ch10 h ha hf)];simp only[planP,ha,hf];simp[hn,ht]
  ·rcases k789 with rfl | rfl | rfl<;>simp only[planP,wrongD]<;>simp[hn]
 by_cases k10:k=10
 ·subst k10
  cases hi:isI Fee.id a x.fees with
  | false=>simp[planP,wrongD,hi]
  | true=>
    have hw:wrongD sh tg x ⟨10,a,b,n,s,t⟩=0:=by simp[wrongD,hi]
    have hk:askedD sh tg x ⟨10,a,b,n,s,t⟩=(x.itms.filter fun q=>decide (q.feed=a)).map fun q=>⟨8,q.id,0,1,eS,eS,eS⟩:=by simp[askedD]
    rw[hw,if_pos rfl,hk,← read_eq h [a] (fun q=>decide (q.feed=a)) (fun q _=>by rw[Bool.eq_iff_iff];simp[eq_comm])];simp[planP,hi]
 by_cases k11:k=11
 ·subst k11
  cases hi:inS x a with
  | false=>simp[planP,wrongD,hi]
  | true=>
    have hw:wrongD sh tg x ⟨11,a,b,n,s,t⟩=0:=by simp[wrongD,hi]
    have hk:askedD sh tg x ⟨11,a,b,n,s,t⟩=(x.itms.filter fun q=>match atI Fee.id q.feed x.fees with | none=>false | some f=>withinS x f.inn a).map fun q=>⟨8,q.id,0,1,eS,eS,eS⟩:=by
     unfold askedD
     repeat rw[if_neg (by decide)]
     rfl
    rw[hw,if_pos rfl,hk,← read_eq h (underS x a) _ (fun q hq=>under_any h hi hq)];simp[planP,hi]
 by_cases k13:k=13
 ·subst k13
  cases hi:isI Sea.id a x.seas with
  | false=>simp[planP,wrongD,hi]
  | true=>
    have hc:=ch12 h hi;simp[planP,wrongD,askedD,hi,hc]
 by_cases k14:k=14
 ·subst k14
  by_cases hm:momentOk n=false∨n<x.clock
  ·have hf:fits x ⟨13,0,0,n,eS,eS,eS⟩=false:=by
    cases ho:momentOk n with
    | false=>
      unfold fits;rw[ev13,ho]
      rfl
    | true=>
      have:=(fits13 (x:=x) (e:=⟨13,0,0,n,eS,eS,eS⟩) rfl (by rw[ev13];exact ho));rw[← Bool.not_eq_true,this];rcases hm with hm | hm
      ·rw[ho] at hm;cases hm
      ·show ¬x.clock≤n
       omega
   simp only[planP,wrongD,hf];simp[hm]
  ·have h1:momentOk n=true:=by cases ho:momentOk n with
    | false=>exact absurd (.inl ho) hm
    | true=>rfl
   have hf:fits x ⟨13,0,0,n,eS,eS,eS⟩=true:=(fits13 rfl (by rw[ev13];exact h1)).2 (by show x.clock≤n;have:¬n<x.clock:=fun h=>hm (.inr h);omega);have hw:wrongD sh tg x ⟨14,a,b,n,s,t⟩=0:=by simp only[wrongD];simp[hm]
   have hk:askedD sh tg x ⟨14,a,b,n,s,t⟩=[⟨13,0,0,n,eS,eS,eS⟩]:=by simp[askedD]
   rw[hw,if_pos rfl,hk,filt1 _ _ _ (ch13 hf)];simp only[planP,hf];simp
 have k456':¬k=4∧¬k=5∧¬k=6:=⟨fun h=>k456 (.inl h),fun h=>k456 (.inr (.inl h)),fun h=>k456 (.inr (.inr h))⟩;have k789':¬k=7∧¬k=8∧¬k=9:=⟨fun h=>k789 (.inl h),fun h=>k789 (.inr (.inl h)),fun h=>k789 (.inr (.inr h))⟩;simp[planP,wrongD,k1,k2,k3,k12,k10,k11,k13,k14,k456',k789']
end
end
section
def Moves:St→List Ev→Prop
 | _,[]=>True
 | x,e::r=>fits x e=true∧doS x e≠x∧Moves (doS x e) r
theorem ch_fits{x:St}{e:Ev}(h:chS x e=true):fits x e=true∧doS x e≠x:=by
 unfold chS at h
 cases hf:fits x e with
 | false=>
   unfold applyS at h
   simp[hf] at h
 | true=>
   rw[ap_fit hf] at h;exact⟨rfl,by simpa using h⟩
theorem moves_one{x:St}{e:Ev}(h:chS x e=true):Moves x [e]:=⟨(ch_fits h).1,(ch_fits h).2,trivial⟩
theorem moves_filt1{x:St}(e:Ev):Moves x ([e].filter (chS x)):=by
 cases h:chS x e with
 | false=>simp[h,Moves]
 | true=>simp only[List.filter,h];exact moves_one h
theorem moves_read:∀ (l:List Itm) {x:St},StP x→(∀ t ∈ l,∃ q ∈ x.itms,q.id=t.id∧q.read=false)→l.Pairwise (fun a b=>a.id≠b.id)→Moves x (l.map fun t=>⟨8,t.id,0,1,eS,eS,eS⟩)
 | [],_,_,_,_=>trivial
 | t::l,x,h,hl,hp=>by
   obtain⟨q,hq,hqi,hqr⟩:=hl t (by simp);have hat:atI Itm.id t.id x.itms=some q:=atI_some h.iR hq hqi;have hc:chS x ⟨8,t.id,0,1,eS,eS,eS⟩=true:=by rw[ch8 h hat (.inr rfl),hqr];rfl
   obtain⟨h1,h2⟩:=ch_fits hc;refine⟨h1,h2,moves_read l (doS_ok h h1) (fun a ha=>?_) (List.pairwise_cons.1 hp).2⟩;obtain⟨r,hr,hri,hrr⟩:=hl a (by simp[ha]);have hne:r.id≠t.id:=by rw[hri];exact fun e=>(List.pairwise_cons.1 hp).1 a ha e.symm
   refine⟨r,?_,hri,hrr⟩;rw[do8 rfl];show r ∈ updI Itm.id t.id _ x.itms
   rw[updI_map _ h.iR];exact List.mem_map.2 ⟨r,hr,if_neg hne⟩
theorem sub_ids{x:St}(h:StP x)(p:Itm→Bool):(x.itms.filter p).Pairwise fun a b=>a.id≠b.id:=
 (h.iR.sublist List.filter_sublist).imp fun hab e=>by omega
section
variable {sh:ByteArray→Int→ByteArray} {tg:ByteArray→ByteArray}
theorem moves_readP{x:St}(h:StP x)(l:List Int):Moves x (readP x l):=by
 unfold readP;refine moves_read _ h (fun t ht=>?_) (sub_ids h _);rw[List.mem_filter] at ht;refine⟨t,ht.1,rfl,?_⟩;have:=ht.2;simp only[Bool.and_eq_true,Bool.not_eq_true'] at this;exact this.1
theorem plan_moves(hsh:∀ s m,0≤m→textOk (sh s m) m=true){x:St}(h:StP x)(c:Cm):Moves x (planP sh tg x c).1:=by
 by_cases k10:c.kind=10∨c.kind=11
 ·obtain⟨k,a,b,n,s,t⟩:=c
  rcases k10 with rfl | rfl
  ·cases hi:isI Fee.id a x.fees with
   | false=>simp[planP,hi,Moves]
   | true=>
     have:(planP sh tg x ⟨10,a,b,n,s,t⟩).1=readP x [a]:=by simp[planP,hi]
     rw[this];exact moves_readP h _
  ·cases hi:inS x a with
   | false=>simp[planP,hi,Moves]
   | true=>
     have:(planP sh tg x ⟨11,a,b,n,s,t⟩).1=readP x (underS x a):=by simp[planP,hi]
     rw[this];exact moves_readP h _
 ·have h1:wrongD sh tg x c=0→(askedD sh tg x c).length=1:=by
   intro h0
   by_cases q1:c.kind=1
   ·simp[askedD,q1]
   by_cases q2:c.kind=2
   ·simp[askedD,q2]
   by_cases q3:c.kind=3
   ·simp[askedD,q3]
   by_cases q4:c.kind=4
   ·simp[askedD,q4]
   by_cases q5:c.kind=5
   ·simp[askedD,q5]
   by_cases q6:c.kind=6
   ·simp[askedD,q6]
   by_cases q7:c.kind=7
   ·simp[askedD,q7]
   by_cases q8:c.kind=8
   ·simp[askedD,q8]
   by_cases q9:c.kind=9
   ·simp[askedD,q9]
   by_cases q12:c.kind=12
   ·simp[askedD,q12]
   by_cases q13:c.kind=13
   ·simp[askedD,q13]
   by_cases q14:c.kind=14
   ·simp[askedD,q14]
   have h10:¬c.kind=10:=fun e=>k10 (.inl e)
   have h11:¬c.kind=11:=fun e=>k10 (.inr e)
   simp[wrongD,q1,q2,q3,q4,q5,q6,q7,q8,q9,q12,q13,q14,h10,h11] at h0
  rw[plan_eq hsh h];unfold planD;have hch:(fun e=>!decide ((applyS x e).1=x))=chS x:=rfl;rw[hch];split
  ·rename_i h0
   obtain⟨e,he⟩:=List.length_eq_one_iff.1 (h1 h0);rw[he];exact moves_filt1 e
  ·trivial
end
end
section
structure SameDirs(x y:St):Prop where
 fols:y.fols=x.fols
 fees:y.fees=x.fees
section
variable {sh:ByteArray→Int→ByteArray} {tg:ByteArray→ByteArray}
end
end
section
section
variable {x:St}
end
end
section
section
variable {x:St}
theorem chain_pos2{l:List Fol}{j:Nat}{id:Int}(h:chainF l j id)(h0:id≠0):∃ f ∈ l,f.id=id:=by
 cases j with
 | zero=>exact absurd h h0
 | succ j=>
   obtain⟨-,f,hf,-⟩:=h;exact⟨f,atI_mem hf⟩
theorem fol_inn(h:StP x){f:Fol}(hf:f ∈ x.fols):f.inn=0∨∃ g ∈ x.fols,g.id=f.inn:=by
 obtain⟨j,-,hc⟩:=h.fD f hf
 cases j with
 | zero=>exact absurd hc (by have:=h.fId hf;intro e;have e:f.id=0:=e;omega)
 | succ j=>
   obtain⟨-,g,hg,hc⟩:=hc;have:g=f:=ids_inj h.fR (atI_mem hg).1 hf (atI_mem hg).2;subst this
   by_cases h0:g.inn=0
   ·exact .inl h0
   ·exact .inr (chain_pos2 hc h0)
end
end
end Go.Proofs.YtdihmpakglakdaaGreat
