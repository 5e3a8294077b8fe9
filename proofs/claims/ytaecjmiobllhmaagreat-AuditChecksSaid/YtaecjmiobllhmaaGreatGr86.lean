/- Words. -/
import Derived.Test.YtaecjmiobllhmaaGreatGr85
import Derived.Test.YtaecjmiobllhmaaGreatGr68
set_option linter.unusedVariables false
set_option linter.unusedSimpArgs false
set_option maxRecDepth 100000
set_option maxHeartbeats 16000000
namespace Go.Proofs.YtaecjmiobllhmaaGreat
open Go.Value renaming int→I,string→V,slice→U,pointer→O
open Go.IntKind renaming i64→J
open Tryz renaming prog→pQ
open Go.RowKit Go.Lib
section
def UK(m:Mv):qD:=⟨(none,0),(none,0),(none,0),(none,0),[],m⟩
def UL(m:Mv):List Value:=(UK m).cells
structure tM(w1 wr:World)(bs:Nat)(av mv:Value)(fo fe it se:Sl)(ts:List (Sl×aR))(s:St)(all:List Ev)(ms:List Mv):Prop where
 rA:aI 42 7 w1 wr av all.length (all.flatMap Ev.cells)
 rM:aI 44 20 w1 wr mv ms.length (ms.flatMap UL)
 blk:aj wr bs 36 #[I J s.clock,U fo.1 s.fols.length fo.2,U fe.1 s.fees.length fe.2,U it.1 s.itms.length it.2,U se.1 s.seas.length se.2,I J s.tFol,I J s.tFee,I J s.tItm,I J s.tSea]
 st:aY wr (λj=>bs<j∧¬av.ownBlock=some j∧¬mv.ownBlock=some j) fo fe it se ts s
 lo:w1.heap.size≤bs
section
variable {w1 wr w8:World} {bs:Nat} {av mv:Value} {fo fe it se:Sl} {ts:List (Sl×aR)} {s:St} {all:List Ev} {ms:List Mv}
theorem tM.nix(h:tM w1 wr bs av mv fo fe it se ts s all ms)(hf:aa ag wr w8):tM w1 w8 bs av mv fo fe it se ts s all ms:=⟨h.rA.more hf,h.rM.more hf,h.blk.frm hf id,h.st.nix hf,h.lo⟩
theorem tM.put(h:tM w1 wr bs av mv fo fe it se ts s all ms)(hf:aa ag wr w8){fo' fe' it' se':Sl}{ts':List (Sl×aR)}{s':St}(hs:aY w8 (λj=>((bs<j∧¬av.ownBlock=some j∧¬mv.ownBlock=some j)∧j<wr.heap.size)∨wr.heap.size≤j) fo' fe' it' se' ts' s'):
  tM w1 (w8.setCells bs 0 [I J s'.clock,U fo'.1 s'.fols.length fo'.2,U fe'.1 s'.fees.length fe'.2,U it'.1 s'.itms.length it'.2,U se'.1 s'.seas.length se'.2,I J s'.tFol,I J s'.tFee,I J s'.tItm,I J s'.tSea]) bs av mv fo' fe' it' se' ts' s' all ms:=by
 have h8:=h.nix hf;have f1:aa (λk=>k=bs) w8 (w8.setCells bs 0 [I J s'.clock,U fo'.1 s'.fols.length fo'.2,U fe'.1 s'.fees.length fe'.2,U it'.1 s'.itms.length it'.2,U se'.1 s'.seas.length se'.2,I J s'.tFol,I J s'.tFee,I J s'.tItm,I J s'.tSea]):=aa.setCells _ 0 (aa.refl _ _) (.inl rfl);have hb:=h.blk.lt;refine⟨h8.rA.far f1 (λk e=>by subst e;exact h.lo) (λk hk e=>by subst e;exact h8.rA.ne_blk h8.blk (by decide) hk),h8.rM.far f1 (λk e=>by subst e;exact h.lo) (λk hk e=>by subst e;exact h8.rM.ne_blk h8.blk (by decide) hk),?_,(hs.mono λj hj=>?_).frm f1 (λk hk e=>by have:=hk.1;omega),h.lo⟩
 ·have q:=aj.putL [I J s'.clock,U fo'.1 s'.fols.length fo'.2,U fe'.1 s'.fees.length fe'.2,U it'.1 s'.itms.length it'.2,U se'.1 s'.seas.length se'.2,I J s'.tFol,I J s'.tFee,I J s'.tItm,I J s'.tSea] 0 h8.blk
  rw[kK] at q;exact q
 ·rcases hj with hj|hj
  ·exact hj.1
  ·exact⟨by omega,λe=>by have:=(h.rA.own.lt j e).2;omega,λe=>by have:=(h.rM.own.lt j e).2;omega⟩
theorem tM.ev(h:tM w1 wr bs av mv fo fe it se ts s all ms){W:World}(hf:aa ag wr W)(e:Ev)(hn:all.length≤100000):
  ∃v4 w4,(∀ty,(Builtin.append_ #[30,30] ty #[av,U (some ⟨W.heap.size,0,none⟩) 1 1]).run pQ (W.alloc (.cells #[I J e.kind,I J e.a,I J e.b,I J e.n,V e.s,V e.t,V e.u] 42))=.ok v4 w4)∧tM w1 w4 bs v4 mv fo fe it se ts s (all++[e]) ms:=by
 obtain⟨v4,w4,hrun,hr,uD,hat⟩:=(h.rA.more hf).push pF e.cells rfl (by intro u hu;simp[Ev.cells] at hu;rcases hu with rfl|rfl|rfl|rfl|rfl|rfl|rfl<;>rfl) (by unfold maxLen;omega) (by omega);have hA:aa ag wr (W.alloc (.cells e.cells.toArray 42)):=hf.alloc _;have hsz:=hf.size;refine⟨v4,w4,hrun,?_,(h.rM.more hA).far uD (λk hk=>(h.rA.own.lt k hk).1) (λk hk hk2=>nR h.rM h.rA (by decide) hk hk2),(h.blk.frm hA id).frm uD (λhk=>h.rA.ne_blk h.blk (by decide) hk),((h.st.old.nix hA).frm uD (λk hk hk2=>hk.1.2.1 hk2)).mono λj hj=>⟨hj.1.1,λe=>?_,hj.1.2.2⟩,h.lo⟩
 ·rw[List.length_append,List.flatMap_append]
  simpa using hr
 ·rcases hat with q|q
  ·exact hj.1.2.1 (q ▸ e)
  ·rw[q] at e
   injection e with e;have:=hj.2;omega
end
theorem Kv:(pQ.info? 36).map (·.size)=some 9:=by kernel_rfl
theorem Kw{ops:Array Oper}{rest:List Oper}{op:Oper}{ac:Act}{W:World}{Q:Exit→Act→World→Prop}{b:Nat}{z:Array Value}{l:List Value}(hb:aj W b 36 z)(hz:z.size=9)(hl:l.length=9)(h1:∀u∈l,u.oneCell'=true)(x y:Operand)
  (hgd:op.guard=none) (ho:op.op=.store 36 x y) (hx:ac.eval x=O (some ⟨b,0,none⟩)) (hy:ac.eval y=.agg l.toArray)
  (hk:∀W',W'=W.setCells b 0 l→wpList pQ ops Q rest (ac.put op.dst undef) W'):wpList pQ ops Q (op::rest) ac W:=
 wpList_store_mid hgd 36 x y ho b 0 l.toArray hx hy (λj hj=>by
   have J3:j<9:=by simpa [hl] using hj
   rw[Nat.zero_add];refine⟨?_,hb.frozen j⟩;rw[hb.cell,Array.getElem?_eq_getElem (by omega)];rfl) (by simp only[List.size_toArray];rw[hl];exact Kv) (all_oneCell_toArray h1)
  (hk _ rfl)
end
theorem B5{w:World}{G G':Nat→Prop}{v v':Sl}(l l':List Ev)(h:aF w G 7 v l.length (l.flatMap Ev.cells))(h':aF w G' 7 v' l'.length (l'.flatMap Ev.cells)):
  Calls pQ 22 #[U v.1 l.length v.2,U v'.1 l'.length v'.2] w λe w'=>e=.returned (.bool (decide (l=l')))∧aa ag w w':=by
 obtain⟨A,c⟩:=v;obtain⟨A',c'⟩:=v';have HV:=h_ h;have Gj:=h_ h';obtain⟨n,hn⟩:∃n,l.length=n:=⟨_,rfl⟩;obtain⟨n',hn'⟩:∃n',l'.length=n':=⟨_,rfl⟩;have HN:=h_ hn;have RB:=h_ hn';have hmx:n≤maxLen:=by rw[←hn];exact Nat.le_trans h.cap h.max
 unfold maxLen at hmx;have hg:pQ.eqGuardType pQ.depth 42=false:=by kernel_rfl
 obtain⟨R,hR⟩:∃R,decide (l=l')=R:=⟨_,rfl⟩;have HR:=h_ hR;dsimp only;rw[hn,hn',hR];clear h h' hn hn' hR
 by_cases B6:n=n'
 ·subst B6
  go_enter Tryz.func22,Tryz.ntmps22;go_wp2
  go_loopw [5] (λkv wr=>∃(k:Nat),k≤n∧kv=I J k∧l.take k=l'.take k∧aa ag w wr) (λkv _=>n-(intOf kv).toNat)
  case atStart=>exact⟨0,by omega,rfl,rfl,aa.refl _ _⟩
  case round=>
   obtain⟨k,hk,rfl,ht,hf⟩:=hrel;have HF:=h_ hf;have HT:=h_ ht;clear hf ht
   by_cases hlt:k<n
   ·have cQ:k<l.length:=by rw[HN.out];exact hlt
    have gA:k<l'.length:=by rw[RB.out];exact hlt
    obtain⟨b,off,hA,hgb,hbl,hcell⟩:=ui HV.out HF.out cQ;obtain⟨b',off',hA',hgb',wz,bX⟩:=ui Gj.out HF.out gA
    (try dsimp only at hA hA')
    subst hA;subst hA'
    have uZ:Hid (l[k]=l'[k]→l.take (k+1)=l'.take (k+1)):=λe=>by
     rw[List.take_succ_eq_append_getElem cQ,List.take_succ_eq_append_getElem gA,HT.out,e]
    have yc:Hid (¬l[k]=l'[k]→R=false):=λe=>by
     rw[←HR.out];exact decide_eq_false λh=>e (by simp only[h])
    obtain⟨ev,hev⟩:∃ev,l[k]=ev:=⟨_,rfl⟩;obtain⟨fv,Nt⟩:∃fv,l'[k]=fv:=⟨_,rfl⟩;rw[hev] at hcell;rw[Nt] at bX;rw[hev,Nt] at uZ yc;have IQ:∀W,(binOp .neq 42 (.agg #[I J ev.kind,I J ev.a,I J ev.b,I J ev.n,V ev.s,V ev.t,V ev.u]) (.agg #[I J fv.kind,I J fv.a,I J fv.b,I J fv.n,V fv.s,V fv.t,V fv.u])).run pQ W=.ok (.bool (!decide (ev=fv))) W:=λW=>xV ev fv W
    obtain⟨c0,c1,c2,c3,c4,c5,c6⟩:=hcell ag wr id (aa.refl _ _);obtain⟨d0,d1,d2,d3,d4,d5,d6⟩:=bX ag wr id (aa.refl _ _);clear hcell bX hev Nt
    by_cases he:ev=fv
    ·rw[decide_eq_true he] at IQ
     have HY:=h_ (uZ.out he);clear he;go_wp2;go_quiet (fail);go_wp2;go_roundw
     case rel=>exact⟨k+1,by omega,by go_num,HY.out,HF.out.drewN _⟩
     case measure=>simp[intOf];omega
    ·rw[decide_eq_false he] at IQ
     have HY:=h_ (yc.out he);clear he;go_wp2;go_quiet (fail);go_wp2;go_ret;exact⟨by rw[HY.out];rfl,by first|exact HF.out|exact HF.out.drewN _⟩
   ·obtain rfl:k=n:=by omega
    have HY:Hid (R=true):=by
     unfold Hid;rw[←HR.out];have q:=HT.out;rw[List.take_of_length_le (by rw[HN.out];exact Nat.le_refl _),List.take_of_length_le (by rw[RB.out];exact Nat.le_refl _)] at q;exact decide_eq_true q
    go_wp2;go_ret;exact⟨by rw[HY.out];rfl,by first|exact HF.out|exact HF.out.drewN _⟩
 ·have HY:Hid (R=false):=by
   unfold Hid;rw[←HR.out];exact decide_eq_false λh=>B6 (by rw[←HN.out,←RB.out,h])
  have h1:¬(n:Int)=(n':Int):=by omega
  have h2:((n:Int) !=(n':Int))=true:=bne_iff_ne.2 h1;have h3:(n !=n')=true:=bne_iff_ne.2 B6;go_enter Tryz.func22,Tryz.ntmps22;go_wp2;go_ret;exact⟨by rw[HY.out];rfl,aa.refl _ _⟩
end Go.Proofs.YtaecjmiobllhmaaGreat
