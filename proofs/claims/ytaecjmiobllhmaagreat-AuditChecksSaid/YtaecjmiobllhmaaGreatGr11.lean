/- Words. -/
import Derived.Test.YtaecjmiobllhmaaGreatGr09
import Derived.Laws.StructEq
import Derived.Test.YtaecjmiobllhmaaGreatGr10
set_option linter.unusedVariables false
set_option linter.unusedSimpArgs false
set_option maxRecDepth 100000
set_option maxHeartbeats 16000000
namespace Go.Proofs.YtaecjmiobllhmaaGreat
open Go.Value renaming int→I,string→V,slice→U
open Go.IntKind renaming i64→J
open Tryz renaming prog→pQ
open Go.RowKit Go.Lib
open Go.Maps (Keyed)
variable {j:Nat}{cs:Array Value}{A:Option Addr}{c:Nat}{ys:List Value}{bytes:Nat}
theorem dW{a b:ByteArray}:a.toList=b.toList↔a=b:=by
 constructor
 ·intro h
  by_cases h0:a=b
  ·exact h0
  ·have h1:=vM h0
   rw[h] at h1;simp at h1
 ·rintro rfl
  rfl
theorem A6(e e':Ev):decide (e=e')=(decide (e.kind=e'.kind)&&(decide (e.a=e'.a)&&(decide (e.b=e'.b)&&(decide (e.n=e'.n)&&(decide (e.s=e'.s)&&(decide (e.t=e'.t)&&decide (e.u=e'.u))))))):=by
 rw[Bool.eq_iff_iff];simp only[Bool.and_eq_true,decide_eq_true_eq];constructor
 ·rintro rfl;simp
 ·rintro⟨h1,h2,h3,h4,h5,h6,h7⟩
  exact GY h1 h2 h3 h4 h5 h6 h7
theorem G4(e e':Ev)(w:World):(Op.equalIn 10000 42 (bQ e) (bQ e')).run pQ w=.ok (decide (e=e')) w:=by
 have u3:=Tryz.underlying3;have a3:=Tryz.isAgg3;have z3:=Tryz.sizeOf3;have u9:=Tryz.underlying9;have a9:=Tryz.isAgg9;have z9:=Tryz.sizeOf9;have hS:pQ.underlying 42=some (.struct (pQ.fieldsOf 42)):=by kernel_rfl
 unfold bQ;rw[show (10000:Nat)=9999+1 from rfl,run_equalIn_agg w 9999 42 _ _ hS (by kernel_rfl)];simp only[Program.fieldsOf,Tryz.underlying42];rw[A6];go_simp;simp only[dW]
 repeat' split
 all_goals simp[*]
theorem qU(e e':Ev)(w:World):(binOp .eql 42 (bQ e) (bQ e')).run pQ w=.ok (.bool (decide (e=e'))) w:=by
 unfold bQ;rw[run_eql_struct];have:=G4 e e' w;unfold bQ at this;rw[this];rfl
theorem xV(e e':Ev)(w:World):(binOp .neq 42 (bQ e) (bQ e')).run pQ w=.ok (.bool (!decide (e=e'))) w:=by
 unfold bQ;rw[run_neq_struct];have:=G4 e e' w;unfold bQ at this;rw[this];rfl
theorem az{W:World}{g:Nat}{k a b n:Int}{s t u:ByteArray}(hb:aj W g 42 #[I J k,I J a,I J b,I J n,V s,V t,V u]):
  W.cell? ⟨g,0,none⟩=some (I J k)∧W.cell? ⟨g,1,none⟩=some (I J a)∧W.cell? ⟨g,2,none⟩=some (I J b)∧W.cell? ⟨g,3,none⟩=some (I J n)∧W.cell? ⟨g,4,none⟩=some (V s)∧W.cell? ⟨g,5,none⟩=some (V t)∧W.cell? ⟨g,6,none⟩=some (V u):=by
 have c0:=hb.cell 0;have c1:=hb.cell 1;have c2:=hb.cell 2;have c3:=hb.cell 3;have c4:=hb.cell 4;have c5:=hb.cell 5;have c6:=hb.cell 6;simp at c0 c1 c2 c3 c4 c5 c6;exact⟨c0,c1,c2,c3,c4,c5,c6⟩
theorem EY{e:Ev}(h:¬aS e=e):(aS e).kind=e.kind∧(¬(aS e).a=e.a∨((aS e).a=e.a∧¬(aS e).b=e.b)∨((aS e).a=e.a∧(aS e).b=e.b∧¬(aS e).n=e.n)∨((aS e).a=e.a∧(aS e).b=e.b∧(aS e).n=e.n∧¬(aS e).s.toList=e.s.toList)∨
  ((aS e).a=e.a∧(aS e).b=e.b∧(aS e).n=e.n∧(aS e).s.toList=e.s.toList∧¬(aS e).t.toList=e.t.toList)∨((aS e).a=e.a∧(aS e).b=e.b∧(aS e).n=e.n∧(aS e).s.toList=e.s.toList∧(aS e).t.toList=e.t.toList∧¬(aS e).u.toList=e.u.toList)):=by
 have hk:(aS e).kind=e.kind:=by
  unfold aS
  repeat' split
  all_goals rfl
 refine⟨hk,?_⟩;simp only[dW]
 by_cases h1:(aS e).a=e.a
 ·by_cases h2:(aS e).b=e.b
  ·by_cases h3:(aS e).n=e.n
   ·by_cases h4:(aS e).s=e.s
    ·by_cases h5:(aS e).t=e.t
     ·by_cases h6:(aS e).u=e.u
      ·exact absurd (GY hk h1 h2 h3 h4 h5 h6) h
      ·simp[*]
     ·simp[*]
    ·simp[*]
   ·simp[*]
  ·simp[*]
 ·simp[*]
theorem sw(e:Ev)(w:World):Calls pQ 99 #[bQ e] w λr w'=>r=.returned (I J (if aM e=true then 0 else 140))∧aa ag w w':=by
 obtain⟨w0,hw0⟩:∃w0,w0=w.alloc (.cells #[I J e.kind,I J e.a,I J e.b,I J e.n,V e.s,V e.t,V e.u] 42):=⟨_,rfl⟩;have hf:aa ag w w0:=by rw[hw0];exact(fR w).alloc _
 have hb:aj w0 w.heap.size 42 #[I J e.kind,I J e.a,I J e.b,I J e.n,V e.s,V e.t,V e.u]:=by rw[hw0];exact aj.new w _ _
 have hc:=λx:FW (aa ag w0)=>az (hb.frm x.h id)
 have h0:=λx=>(hc x).1
 have h1:=λx=>(hc x).2.1
 have h2:=λx=>(hc x).2.2.1
 have h3:=λx=>(hc x).2.2.2.1
 have h4:=λx=>(hc x).2.2.2.2.1
 have h5:=λx=>(hc x).2.2.2.2.2.1
 have h6:=λx=>(hc x).2.2.2.2.2.2
 have KR:=λx:FW (aa ag w0)=>CD e x.w
 have HF:=h_ hf;have HW:=h_ hw0;have HE:Hid (aM e=(aB e&&decide (aS e=e))):=rfl;clear hc hb hf
 cases hr:aB e with
 | false=>
   rw[hr] at KR;have h':aM e=false:=by rw[HE.out,hr];rfl
   rw[h',if_neg (by simp)];unfold bQ at *;clear hw0 h';go_enter Tryz.func99,Tryz.ntmps99;go_wp2;rw[←HW.out];refine ak (aa ag w0) ((fR w0).drew) (by kernel_rfl) (by kernel_rfl) ?_
   repeat (go_big_quiet_step (first|(rename_i x;go_at_call 151;refine x.call (KR x) ?_;exact λw' hf=>x.h.trans hf)))
   refine wpQuiet_nil ?_;rintro w2 ⟨⟨_,hf2⟩,rfl⟩;go_wp2;go_ret
   exact⟨rfl,HF.out.trans hf2⟩
 | true=>
   have hk:1≤e.kind∧e.kind≤13:=by
    by_cases hk:1≤e.kind∧e.kind≤13
    ·exact hk
    ·rw[sr hk] at hr
     cases hr
   have KU:=λx:FW (aa ag w0)=>ES e hk x.w
   have hg:pQ.eqGuardType pQ.depth 42=false:=by kernel_rfl
   rw[hr] at KR;have xa:Hid (aM e=decide (aS e=e)):=by unfold Hid;rw[HE.out,hr];rfl
   clear hk hr HE hw0
   by_cases hu:aS e=e
   ·rw[decide_eq_true hu] at xa
    rw[xa.out,if_pos rfl];rw[hu] at KU;unfold bQ at *;clear hu;go_enter Tryz.func99,Tryz.ntmps99;go_wp2;rw[←HW.out];refine ak (aa ag w0) ((fR w0).drew) (by kernel_rfl) (by kernel_rfl) ?_
    repeat (go_big_quiet_step (first
     | (rename_i x;go_at_call 151;refine x.call (KR x) ?_;exact λw' hf=>x.h.trans hf)
     | (rename_i x;go_at_call 152;refine x.call (KU x) ?_;exact λw' hf=>x.h.trans hf)))
    refine wpQuiet_nil ?_;rintro w2 ⟨⟨_,hf2⟩,rfl⟩;go_wp2;go_ret;exact⟨rfl,HF.out.trans hf2⟩
   ·rw[decide_eq_false hu] at xa
    rw[xa.out,if_neg (by simp)];obtain⟨q0,hd⟩:=EY hu;unfold bQ at *;clear hu;generalize aS e=e' at *;rcases hd with q1|⟨q1,q2⟩|⟨q1,q2,q3⟩|⟨q1,q2,q3,q4⟩|⟨q1,q2,q3,q4,q5⟩|⟨q1,q2,q3,q4,q5,q6⟩
    all_goals
     go_enter Tryz.func99,Tryz.ntmps99;go_wp2;rw[←HW.out];refine ak (aa ag w0) ((fR w0).drew) (by kernel_rfl) (by kernel_rfl) ?_
     repeat (go_big_quiet_step (first
      | (rename_i x;go_at_call 151;refine x.call (KR x) ?_;exact λw' hf=>x.h.trans hf)
      | (rename_i x;go_at_call 152;refine x.call (KU x) ?_;exact λw' hf=>x.h.trans hf)))
     refine wpQuiet_nil ?_;rintro w2 ⟨⟨_,hf2⟩,rfl⟩;go_wp2;go_ret;exact⟨rfl,HF.out.trans hf2⟩
def qo(e:Ev):Bool:=decide (1000<(e.s.size:Int))||decide (1000<(e.t.size:Int))||decide (1000<(e.u.size:Int))
theorem CW(e:Ev)(w:World):Calls pQ 26 #[bQ e] w λr w'=>r=.returned (.bool (qo e))∧aa ag w w':=by
 have HF:Hid (∀cs:Array Value,aa ag w (w.alloc (.cells cs 42))):=λcs=>(fR w).alloc _
 have HE:Hid (qo e=(decide (1000<(e.s.size:Int))||decide (1000<(e.t.size:Int))||decide (1000<(e.u.size:Int)))):=rfl;unfold bQ;go_enter Tryz.func26,Tryz.ntmps26;go_wp2
 all_goals
  go_ret;refine⟨af ?_,HF.out _⟩;rw[HE.out]
  try simp[*]
section
structure Ms where
 fo:Nat
 fe:Nat
 it:Nat
 se:Nat
 na:Nat
 pl:Nat
 gu:Nat
 he:Nat
def SF(g:Nat)(M:Ms):Nat→Prop:=λk=>k=g∨k=M.fo∨k=M.fe∨k=M.it∨k=M.se∨k=M.na∨k=M.pl∨k=M.gu∨k=M.he
def qp(w:World)(k:Nat):Prop:=∃cs fr,w.heap[k]? =some (.cells cs 9 fr)
abbrev Sl:=Option Addr×Nat
def NS(n:Nat)(v:Sl):Value:=U v.1 n v.2
def bF(w:World)(v:Sl)(l:List ByteArray):Prop:=Rd w (qp w) 1 v.1 l.length (l.map Value.string)∧(v.1=none→v.2=0)∧l.length≤v.2∧v.2≤maxLen
def nO(f:bh):Value:=.agg #[I J f.id,I J f.inn,V f.name]
def kN(f:aX):Value:=.agg #[I J f.id,I J f.inn,V f.url,V f.title]
def nP(f:ce):Value:=.agg #[I J f.id,V f.name,V f.query]
def iG(v:Sl)(t:aR):Value:=.agg #[I J t.id,I J t.feed,I J t.date,V t.guid,V t.title,V t.link,.bool t.read,.bool t.star,NS t.tags.length v]
def kI(n:Int):Value:=I J n
def kP(n:Int)(s:ByteArray):Value:=.agg #[I J n,V s]
def bq(x:St)(i:Int):Int:=((x.fols.filter λf=>f.inn=i).length:Int)+((x.fees.filter λf=>f.inn=i).length:Int)
def qV(L:List (Int×Int))(i:Int):Int:=match L.find? λp=>p.1=i with|some p=>p.2|none=>0
structure yN(w:World)(M:Ms)(x:St):Prop where
 fo:aO pQ 3 w M.fo (x.fols.map λf=>(kI f.id,nO f))
 fe:aO pQ 3 w M.fe (x.fees.map λf=>(kI f.id,kN f))
 it:∃sl:Int→Sl,aO pQ 3 w M.it (x.itms.map λt=>(kI t.id,iG (sl t.id) t))∧∀t∈x.itms,bF w (sl t.id) t.tags
 se:aO pQ 3 w M.se (x.seas.map λf=>(kI f.id,nP f))
 na:aO pQ 134 w M.na (x.fols.map λf=>(kP f.inn f.name,kI f.id))
 pl:aO pQ 9 w M.pl (x.fees.map λf=>(V f.url,kI f.id))
 gu:aO pQ 153 w M.gu (x.itms.map λt=>(kP t.feed t.guid,kI t.id))
 he:∃L:List (Int×Int),aO pQ 3 w M.he (L.map λp=>(kI p.1,kI p.2))∧(∀p∈L,p.1≠0)∧∀i,i≠0→qV L i=bq x i
structure yO(g:Nat)(M:Ms):Prop where
 nodup:[g,M.fo,M.fe,M.it,M.se,M.na,M.pl,M.gu,M.he].Nodup
structure aH(w:World)(g:Nat)(M:Ms)(x:St):Prop where
 blk:aj w g 116 #[I J x.clock,.map (some M.fo),.map (some M.fe),.map (some M.it),.map (some M.se),.map (some M.na),.map (some M.pl),.map (some M.gu),.map (some M.he),I J x.tFol,I J x.tFee,I J x.tItm,I J x.tSea]
 maps:yN w M x
 apart:yO g M
 ok:gN x
section
variable {w w1:World} {F:Nat→Prop} {g:Nat} {M:Ms} {x:St}
theorem qp.frm{k:Nat}(h:qp w k)(hf:aa F w w1)(hn:¬F k):qp w1 k:=by
 obtain⟨cs,fr,h⟩:=h;exact⟨cs,fr,(hf.block k (ed h) hn).trans h⟩
theorem bF.frm{v:Sl}{l:List ByteArray}(h:bF w v l)(hf:aa F w w1)(hn:∀k,qp w k→¬F k):bF w1 v l:=by
 obtain⟨h1,h2⟩:=h;exact⟨(h1.frm hf hn).mono λk hk=>hk.frm hf (hn k hk),h2⟩
theorem yN.frm(h:yN w M x)(hf:aa F w w1)(hn:∀k,SF g M k→¬F k)(hs:∀k,qp w k→¬F k):yN w1 M x:=by
 refine⟨h.fo.frm hf (hn _ (by simp[SF])),h.fe.frm hf (hn _ (by simp[SF])),?_,h.se.frm hf (hn _ (by simp[SF])),h.na.frm hf (hn _ (by simp[SF])),h.pl.frm hf (hn _ (by simp[SF])),h.gu.frm hf (hn _ (by simp[SF])),?_⟩
 ·obtain⟨sl,h1,h2⟩:=h.it
  exact⟨sl,h1.frm hf (hn _ (by simp[SF])),λt ht=>(h2 t ht).frm hf hs⟩
 ·obtain⟨L,h1,h2⟩:=h.he
  exact⟨L,h1.frm hf (hn _ (by simp[SF])),h2⟩
theorem aH.frm(h:aH w g M x)(hf:aa F w w1)(hn:∀k,SF g M k→¬F k)(hs:∀k,qp w k→¬F k):aH w1 g M x:=
 ⟨h.blk.frm hf (hn _ (by simp[SF])),h.maps.frm hf hn hs,h.apart,h.ok⟩
theorem aH.nix(h:aH w g M x)(hf:aa ag w w1):aH w1 g M x:=h.frm hf (λ_ _=>id) λ_ _=>id
theorem aO.ne_str{P:Program}{k:TypeId}{m:Nat}{L:List (Value×Value)}(h:aO P k w m L)(hj:qp w j):j≠m:=by
 rintro rfl;obtain⟨R,clock,h1,-⟩:=h;obtain⟨cs,fr,h2⟩:=hj;unfold lF at h1;rw[h1] at h2
 cases h2
theorem aj.ne_str{t:TypeId}(h:aj w g t cs)(ht:t≠9)(hj:qp w j):j≠g:=by
 rintro rfl;obtain⟨cs',fr,h2⟩:=hj;unfold aj at h;rw[h] at h2;injection h2 with h2;injection h2 with _ h3;exact ht h3
theorem aH.str(h:aH w g M x):∀k,qp w k→¬SF g M k:=by
 intro k hk hF;obtain⟨sl,hi,-⟩:=h.maps.it;obtain⟨L,hh,-⟩:=h.maps.he;rcases hF with e|e|e|e|e|e|e|e|e
 ·exact h.blk.ne_str (by decide) hk e
 ·exact h.maps.fo.ne_str hk e
 ·exact h.maps.fe.ne_str hk e
 ·exact hi.ne_str hk e
 ·exact h.maps.se.ne_str hk e
 ·exact h.maps.na.ne_str hk e
 ·exact h.maps.pl.ne_str hk e
 ·exact h.maps.gu.ne_str hk e
 ·exact hh.ne_str hk e
theorem aH.lt(h:aH w g M x):∀k,SF g M k→k<w.heap.size:=by
 intro k hF;obtain⟨sl,hi,-⟩:=h.maps.it;obtain⟨L,hh,-⟩:=h.maps.he;rcases hF with rfl|rfl|rfl|rfl|rfl|rfl|rfl|rfl|rfl
 ·exact h.blk.lt
 ·exact h.maps.fo.lt
 ·exact h.maps.fe.lt
 ·exact hi.lt
 ·exact h.maps.se.lt
 ·exact h.maps.na.lt
 ·exact h.maps.pl.lt
 ·exact h.maps.gu.lt
 ·exact hh.lt
end
theorem cE:Keyed pQ 3:=Go.Maps.int_keyed Tryz.underlying3
theorem CX:Keyed pQ 9:=Go.Maps.string_keyed Tryz.underlying9
theorem G5:∃D,pQ.types.size=D+2:=by
 have h:decide (2≤pQ.types.size)=true:=by kernel_rfl
 have h:=of_decide_eq_true h;exact⟨pQ.types.size-2,by omega⟩
theorem CY:Keyed pQ 134:=Keyed.of_law (deep_law_laid (by kernel_rfl) (m:=5) (by decide) (of_decide_eq_true (by kernel_rfl)) (by kernel_rfl) (by kernel_rfl))
theorem CZ:Keyed pQ 153:=Keyed.of_law (deep_law_laid (by kernel_rfl) (m:=5) (by decide) (of_decide_eq_true (by kernel_rfl)) (by kernel_rfl) (by kernel_rfl))
def bn(n:Int):Prop:=-9223372036854775808≤n∧n≤9223372036854775807
theorem Qi{n:Int}(h:bn n):(Lit.int .i64 n).wf=true:=by
 unfold bn at h;have h1:IntKind.i64.min= -9223372036854775808:=by decide
 have h2:IntKind.i64.max=9223372036854775807:=by decide
 simp only[Lit.wf,h1,h2,Bool.and_eq_true,decide_eq_true_eq];omega
theorem pN{n:Int}(h:bn n):D8 pQ 3 (kI n):=⟨_,Go.Maps.keyOf_int_mk Tryz.underlying3 (Qi h)⟩
theorem Ll{s:ByteArray}(hs:s.size≤maxLen):D8 pQ 9 (V s):=by
 refine⟨.string s.data.toList,?_⟩;simp[keyOf,Tryz.underlying9,mapKey,hs]
theorem Lm{n:Int}(h:bn n){s:ByteArray}(hs:s.size≤maxLen):D8 pQ 134 (kP n s):=by
 have hk:pQ.keyType 134=true:=by kernel_rfl
 have hc:pQ.cellsOf 134=2:=by kernel_rfl
 have h3:pQ.cellsOf 3=1:=by kernel_rfl
 have h9:pQ.cellsOf 9=1:=by kernel_rfl
 have hw:=Qi h;obtain⟨D,hD⟩:=G5;unfold D8 kP keyOf;rw[Tryz.underlying134,hD];simp[hk,Value.formed,Tryz.underlying134,hc,Value.cells,Program.keyLits,h3,h9,Tryz.underlying3,Tryz.underlying9,hw,hs]
theorem Ln{n:Int}(h:bn n){s:ByteArray}(hs:s.size≤maxLen):D8 pQ 153 (kP n s):=by
 have hk:pQ.keyType 153=true:=by kernel_rfl
 have hc:pQ.cellsOf 153=2:=by kernel_rfl
 have h3:pQ.cellsOf 3=1:=by kernel_rfl
 have h9:pQ.cellsOf 9=1:=by kernel_rfl
 have hw:=Qi h;obtain⟨D,hD⟩:=G5;unfold D8 kP keyOf;rw[Tryz.underlying153,hD];simp[hk,Value.formed,Tryz.underlying153,hc,Value.cells,Program.keyLits,h3,h9,Tryz.underlying3,Tryz.underlying9,hw,hs]
def NT:aX:=⟨0,0,eS,eS⟩
def NU:bh:=⟨0,0,eS⟩
def NV:ce:=⟨0,eS,eS⟩
def L9:aR:=⟨0,0,0,eS,eS,eS,false,false,[]⟩
section
variable {α:Type} {P:Program} {w:World} {m t k et:TypeId} {l:List α} {gk:α→Int} {f:α→Value}
theorem nQ(K:Keyed P k)(h:aO P k w m (l.map λy=>(kI (gk y),f y)))(ht:P.underlying t=some (.map k et)){i:Int}(hi:D8 P k (kI i)){z:Value}(hz:(zeroValue et).run P w=.ok z w)(ok:Bool):
  (Instr.lookup t (.map (some m)) (kI i) ok).run P w=.ok (if ok=true then .tuple #[((kS gk i l).elim z f),.bool (bl gk i l)] else ((kS gk i l).elim z f)) w:=by
 have tN:=qm (g:=gk) (id:=i) (l:=l)
 cases ha:kS gk i l with
 | some y=>
   rw[ha] at tN;obtain⟨h1,h2⟩:=gM ha;rw[←tN]
   exact h.lookup_yes K ht (List.mem_map.2 ⟨y,h1,by rw[h2];rfl⟩) ok
 | none=>
   rw[ha] at tN;rw[←tN];refine h.lookup_no K ht hi (λp hp=>?_) hz ok;obtain⟨y,hy,rfl⟩:=List.mem_map.1 hp;intro e;have:=GX ha y hy;unfold kI at e;injection e with _ e;exact this e
theorem wl(K:Keyed P k){key:α→Value}(h:aO P k w m (l.map λy=>(key y,kI (gk y))))(ht:P.underlying t=some (.map k et)){x:Value}(hi:D8 P k x)(hz:(zeroValue et).run P w=.ok (kI 0) w)(ok:Bool)
  (q:α→Bool) (hq:∀y∈l,key y=x↔q y=true):
  (Instr.lookup t (.map (some m)) x ok).run P w=.ok (if ok=true then .tuple #[kI ((l.find? q).elim 0 gk),.bool (l.any q)] else kI ((l.find? q).elim 0 gk)) w:=by
 cases ha:l.find? q with
 | some y=>
   have h1:=List.mem_of_find?_eq_some ha;have h2:=List.find?_some ha;have h3:l.any q=true:=List.any_eq_true.2 ⟨y,h1,h2⟩;rw[h3]
   exact h.lookup_yes K ht (List.mem_map.2 ⟨y,h1,by rw[(hq y h1).2 h2];rfl⟩) ok
 | none=>
   have h3:l.any q=false:=List.any_eq_false.2 λy hy=>by have:=List.find?_eq_none.1 ha y hy;simpa using this
   rw[h3];refine h.lookup_no K ht hi (λp hp=>?_) hz ok;obtain⟨y,hy,rfl⟩:=List.mem_map.1 hp;intro e;have:=List.find?_eq_none.1 ha y hy;exact this ((hq y hy).1 e)
end
theorem yP{a b:Int}{s t:ByteArray}:kP a s=kP b t↔a=b∧s=t:=by
 unfold kP;constructor
 ·intro h
  injection h with h;have h:=congrArg Array.toList h;injection h with h1 h2;injection h2 with h2 h3;injection h1 with _ h1;injection h2 with h2;exact⟨h1,h2⟩
 ·rintro⟨rfl,rfl⟩
  rfl
end
section
structure aI(e:TypeId)(s:Nat)(w0 w1:World)(v:Value)(n:Nat)(xs:List Value):Prop where
 own:w1.ownsRow w0.heap.size e s v n xs
 frm:aa ag w0 w1
section
variable {P:Program} {e:TypeId} {s:Nat} {w0 w1 w2:World} {v:Value} {n:Nat} {xs:List Value}
theorem aJ.toK(h:aJ e w0 w1 v n xs):aI e 1 w0 w1 v n xs:=⟨h.own,h.frm⟩
theorem aI.nil_(e:TypeId)(s:Nat)(h:aa ag w0 w1):aI e s w0 w1 (U none 0 0) 0 []:=⟨World.ownsRow_nil _ _ _ _,h⟩
theorem aI.empty(e:TypeId)(s:Nat)(h:aa ag w0 w1):aI e s w0 (w1.alloc (.cells #[] e)) (U (some ⟨w1.heap.size,0,none⟩) 0 0) 0 []:=
 ⟨⟨by simp,.inr ⟨_,0,#[],rfl,h.size,heap_alloc_new w1 _,Nat.le_refl _,Nat.zero_le _,by simp,by simp⟩⟩,h.alloc _⟩
theorem aI.lit(e:TypeId)(h:aa ag w0 w1)(n:Nat)(xs:List Value)(hl:xs.length=n * s)(hx:n≤maxLen):aI e s w0 (w1.alloc (.cells xs.toArray e)) (U (some ⟨w1.heap.size,0,none⟩) n n) n xs:=
 ⟨⟨hl,.inr ⟨_,n,xs.toArray,rfl,h.size,heap_alloc_new w1 _,Nat.le_refl _,hx,by simpa using hl,by rw[←hl];simp⟩⟩,h.alloc _⟩
theorem aI.more(h:aI e s w0 w1 v n xs)(hf:aa ag w1 w2):aI e s w0 w2 v n xs:=⟨vd h.own hf λ_ _=>id,h.frm.trans hf⟩
theorem aI.far{F:Nat→Prop}(h:aI e s w0 w1 v n xs)(hf:aa F w1 w2)(hF:∀k,F k→w0.heap.size≤k)(hd:∀k,v.ownBlock=some k→¬F k):aI e s w0 w2 v n xs:=
 ⟨vd h.own hf hd,h.frm.next hf λk hk=>.inr (hF k hk)⟩
theorem aI.shape(h:aI e s w0 w1 v n xs):∃A c,v=U A n c∧(A=none→c=0)∧n≤c∧c≤maxLen∧(∀a,A=some a→a.off=0∧a.spot=none∧w0.heap.size≤a.block∧a.block<w1.heap.size):=tR h.own
theorem aI.rd(h:aI e s w0 w1 (U A n c) n xs):Rd w1 (λk=>(Value.slice A n c).ownBlock=some k) s A n xs:=Rd.of_own h.own
theorem aI.len(h:aI e s w0 w1 v n xs):xs.length=n * s:=h.own.1
theorem aI.since{wb:World}(h:aI e s w1 w2 v n xs)(hf:aa ag wb w1):aI e s wb w2 v n xs:=
 ⟨pL h.own λk hk=>by have:=(h.own.lt k hk).1;have:=hf.size;omega,hf.trans h.frm⟩
theorem aI.ne_obj(h:aI e s w0 w1 v n xs){k:Nat}{o:Obj}(ho:w1.heap[k]? =some o)(hne:∀c t f,o≠.cells c t f):v.ownBlock≠some k:=by
 rcases h.own.2 with ⟨rfl,_⟩|⟨g,cap,cur,rfl,_,hh,_⟩
 ·simp[Value.ownBlock]
 ·intro he
  have:g=k:=by simpa [Value.ownBlock] using he
  subst this;rw[hh] at ho;injection ho with ho;exact hne _ _ _ ho.symm
theorem aI.ne_blk(h:aI e s w0 w1 v n xs){g:Nat}{t:TypeId}(hg:aj w1 g t cs)(hne:e≠t):v.ownBlock≠some g:=rX h.own hg hne
theorem nR{e':TypeId}{s' n':Nat}{v':Value}(h:aI e s w0 w1 v n xs)(h':aI e' s' w0 w1 v' n' ys)(hne:e≠e')(hj:v.ownBlock=some j)(hj':v'.ownBlock=some j):False:=by
 rcases h'.own.2 with ⟨rfl,_⟩|⟨g,cap,cur,rfl,_,hh,_⟩
 ·simp[Value.ownBlock] at hj'
 ·have hg:g=j:=by simpa [Value.ownBlock] using hj'
  subst hg;exact rX h.own (t:=e') hh hne hj
structure mJ(P:Program)(t e:TypeId)(s bytes:Nat):Prop where
 t:P.underlying t=some (.slice e)
 i:∃z:Value,(P.info? e).map (λi=>(i.zero,i.size,i.bytes))=some (some z,s,bytes)∧z.cells.size=s
 s:0<s
theorem aI.app{t:TypeId}(E:mJ P t e s bytes)(h:aI e s w0 w1 v n xs){G:Nat→Prop}{m:Nat}(c:Nat)(hr:Rd w1 G s A m ys)(h1:∀u∈ys,u.oneCell'=true)
  (hn:n+m≤maxLen) (hb:(n+m) * bytes≤140737488355328):
  ∃v' w2,(∀ty,(Builtin.append_ #[t,t] ty #[v,U A m c]).run P w1=.ok v' w2)∧aI e s w0 w2 v' (n+m) (xs++ys)∧aa (λk=>v.ownBlock=some k) w1 w2∧(v'.ownBlock=v.ownBlock∨v'.ownBlock=some w1.heap.size):=by
 obtain⟨z,hi,hzs⟩:=E.i;obtain⟨i0,GK,hz0,hz1,hz2⟩:=info_parts hi;obtain⟨v1,w2,hrun,hown,hg,hat⟩:=qO (P:=P) w1 w0.heap.size t e i0 z s bytes E.t GK hz0 hz1 hz2 hzs E.s v n xs h.own _ A m c ys hr h1 hn hb h.frm.size;exact⟨v1,w2,hrun,⟨hown,h.frm.grown hg λk hk=>.inr (h.own.lt k hk).1⟩,(aa.refl _ w1).grown hg λk hk=>.inl hk,hat⟩
theorem aI.push{t:TypeId}(E:mJ P t e s bytes)(h:aI e s w0 w1 v n xs)(ys:List Value)(hl:ys.length=s)(h1:∀u∈ys,u.oneCell'=true)(hn:n+1≤maxLen)(hb:(n+1) * bytes≤140737488355328):
  ∃v' w2,(∀ty,(Builtin.append_ #[t,t] ty #[v,U (some ⟨w1.heap.size,0,none⟩) 1 1]).run P (w1.alloc (.cells ys.toArray e))=.ok v' w2)∧aI e s w0 w2 v' (n+1) (xs++ys)∧aa (λk=>v.ownBlock=some k) (w1.alloc (.cells ys.toArray e)) w2∧(v'.ownBlock=v.ownBlock∨v'.ownBlock=some (w1.heap.size+1)):=by
 obtain⟨v',w2,r,h2,h3,h4⟩:=(h.more ((fR w1).alloc (.cells ys.toArray e))).app E (ys:=ys) 1 (Rd.of_obj (heap_alloc_new w1 (.cells ys.toArray e)) 1 (by simp[hl])) h1 hn hb;exact⟨v',w2,r,h2,h3,by simpa using h4⟩
theorem aI.set_(h:aI e s w0 w1 (U A n c) n xs)(i:Nat)(hi:i<n * s)(u:Value):
  ∃g,A=some ⟨g,0,none⟩∧w1.cell? ⟨g,i,none⟩=xs[i]?∧w1.frozen? ⟨g,i,none⟩=false∧aI e s w0 (w1.setCell ⟨g,i,none⟩ u) (U A n c) n (xs.set i u)∧w0.heap.size≤g∧g<w1.heap.size:=by
 have hl:=h.len;rcases h.own.2 with ⟨hv,hn⟩|⟨g,cap,cur,hv,hg,hh,Ci,hm,hs,ht⟩
 ·injection hv with e1 e2 e3
  subst e2;omega
 ·injection hv with e1 e2 e3
  subst e1;subst e3;have hb:aj w1 g e cur:=hh;have hcs:n * s≤c * s:=Nat.mul_le_mul_right _ Ci;have SR:i<cur.size:=by omega
  have hx:cur[i]? =xs[i]?:=by
   rw[←ht,List.getElem?_take,if_pos hi];simp
  refine⟨g,rfl,by rw[hb.cell,hx],hb.frozen i,⟨⟨by rw[List.length_set];exact h.own.1,.inr ⟨g,c,cur.setIfInBounds i u,rfl,hg,hb.set_ i u,Ci,hm,by rw[Array.size_setIfInBounds];exact hs,?_⟩⟩,h.frm.setCell (.inr hg) u⟩,hg,hb.lt⟩;rw[←ht,Array.toList_setIfInBounds,List.take_set]
end
end
section
section
variable {α:Type} {f:α→List Value} {s:Nat}
theorem pO(hs:∀a,(f a).length=s)(l:List α):(l.flatMap f).length=l.length * s:=by
 induction l with
 | nil=>simp
 | cons a l ih=>
   rw[List.flatMap_cons,List.length_append,ih,List.length_cons,hs,Nat.succ_mul];omega
theorem lX(hs:∀a,(f a).length=s)(l:List α)(i:Nat)(h:i<l.length)(j:Nat)(hj:j<s):(l.flatMap f)[i * s+j]? =(f l[i])[j]?:=by
 induction l generalizing i with
 | nil=>simp at h
 | cons o l ih=>
   have h6:=hs o;rw[List.flatMap_cons]
   cases i with
   | zero=>
     rw[List.getElem?_append_left (by omega)]
     simp
   | succ i=>
     have e:(i+1) * s=i * s+s:=Nat.succ_mul i s;rw[List.getElem?_append_right (by omega),show (i+1) * s+j-(f o).length=i * s+j by omega,ih i (by simpa using h)];rfl
theorem gy(hs:∀a,(f a).length=s)(l:List α)(k:Nat):(l.flatMap f).take (k * s)=(l.take k).flatMap f:=by
 induction l generalizing k with
 | nil=>simp
 | cons o l ih=>
   cases k with
   | zero=>simp
   | succ k=>
     have e:(k+1) * s=s+k * s:=by rw[Nat.succ_mul];omega
     rw[List.flatMap_cons,List.take_succ_cons,List.flatMap_cons,e,←hs o,List.take_length_add_append,hs o,ih]
theorem mn(hs:∀a,(f a).length=s)(l:List α)(k:Nat):(l.flatMap f).drop (k * s)=(l.drop k).flatMap f:=by
 induction l generalizing k with
 | nil=>simp
 | cons o l ih=>
   cases k with
   | zero=>simp
   | succ k=>
     have e:(k+1) * s=s+k * s:=by rw[Nat.succ_mul];omega
     rw[List.flatMap_cons,List.drop_succ_cons,e,←hs o,List.drop_length_add_append,hs o,ih]
theorem qq(l:List α)(k:Nat)(h:k<l.length):(l.take (k+1)).flatMap f=(l.take k).flatMap f++f l[k]:=by
 rw[List.take_succ_eq_append_getElem h,List.flatMap_append];simp
end
structure aF(w:World)(G:Nat→Prop)(s:Nat)(v:Sl)(n:Nat)(xs:List Value):Prop where
 rd:Rd w G s v.1 n xs
 nil:v.1=none→v.2=0
 cap:n≤v.2
 max:v.2≤maxLen
section
variable {w w1 w0:World} {G G' F:Nat→Prop} {s n:Nat} {v:Sl} {xs:List Value}
theorem aF.frm(h:aF w G s v n xs)(hf:aa F w w1)(hd:∀k,G k→¬F k):aF w1 G s v n xs:=⟨h.rd.frm hf hd,h.nil,h.cap,h.max⟩
theorem aF.nix(h:aF w G s v n xs)(hf:aa ag w w1):aF w1 G s v n xs:=h.frm hf λ_ _=>id
theorem aF.mono(h:aF w G s v n xs)(hg:∀k,G k→G' k):aF w G' s v n xs:=⟨h.rd.mono hg,h.nil,h.cap,h.max⟩
theorem aF.none_(w:World)(G:Nat→Prop)(s:Nat):aF w G s (none,0) 0 []:=⟨Rd.none_,λ_=>rfl,Nat.le_refl _,Nat.zero_le _⟩
theorem bF.sl{l:List ByteArray}(h:bF w v l):aF w (qp w) 1 v l.length (l.map Value.string):=⟨h.1,h.2.1,h.2.2.1,h.2.2.2⟩
theorem aI.sl{e:TypeId}(h:aI e s w0 w (U A n c) n xs):aF w (λk=>w0.heap.size≤k) s (A,c) n xs:=by
 obtain⟨A',c',e',h1,h2,h3,-⟩:=h.shape;injection e' with e1 _ e3;subst e1;subst e3;exact⟨h.rd.mono λk hk=>(h.own.lt k hk).1,h1,h2,h3⟩
theorem aF.zero(h:aF w G s v n xs)(hn:n=0):xs=[]:=List.eq_nil_of_length_eq_zero (by rw[h.rd.1,hn,Nat.zero_mul])
theorem EZ{w:World}{a:Addr}{v:Value}(h:w.cell? a=some v):a.spot=none:=by
 unfold World.cell? at h;split at h
 ·split at h
  ·cases h
  ·rename_i hs
   simpa using hs
 ·cases h
theorem aF.at_{α:Type}{f:α→List Value}{l:List α}(h:aF w G s v l.length (l.flatMap f))(hs:∀a,(f a).length=s)(h0:0<s)(hn:0<l.length):
  ∃b off,v.1=some ⟨b,off,none⟩∧G b∧b<w.heap.size∧∀(i:Nat) (hi:i<l.length) (j:Nat) (u:Value),(f l[i])[j]? =some u→w.cell? ⟨b,off+i * s+j,none⟩=some u:=by
 obtain⟨⟨b,off,sp⟩,e,h1,h2,h3⟩:=h.rd.2 hn;have hlt:0<(f (l[0]'hn)).length:=by rw[hs];exact h0
 have hz:=h3 0 ((f (l[0]'hn))[0]'hlt) (by
  have:=lX hs l 0 hn 0 h0;simp only[Nat.zero_mul,Nat.add_zero] at this;rw[this];exact List.getElem?_eq_getElem hlt)
 have es:sp=none:=by
  have:=EZ hz
  simpa [Addr.add] using this
 subst es;refine⟨b,off,e,h1,h2,λi hi j u hu=>?_⟩
 have hj:j<s:=by
  have:=(List.getElem?_eq_some_iff.1 hu).1
  rwa [hs] at this
 have:=h3 (i * s+j) u (by rw[lX hs l i hi j hj,hu])
 have ea:(⟨b,off,none⟩:Addr).add (i * s+j)=⟨b,off+(i * s+j),none⟩:=by
  unfold Addr.add;split
  ·rename_i h;rw[h];rfl
  ·rfl
 rw[ea,←Nat.add_assoc] at this;exact this
end
theorem Ev.clen(e:Ev):e.cells.length=7:=rfl
theorem bh.clen(e:bh):e.cells.length=3:=rfl
theorem aX.clen(e:aX):e.cells.length=4:=rfl
theorem ce.clen(e:ce):e.cells.length=3:=rfl
def io(p:Sl×aR):List Value:=[I J p.2.id,I J p.2.feed,I J p.2.date,V p.2.guid,V p.2.title,V p.2.link,.bool p.2.read,.bool p.2.star,U p.1.1 p.2.tags.length p.1.2]
theorem bN(p:Sl×aR):(io p).length=9:=rfl
structure nS(w:World)(G:Nat→Prop)(v:Sl)(ts:List (Sl×aR)):Prop where
 row:aF w G 9 v ts.length (ts.flatMap io)
 tags:∀p∈ts,aF w G 1 p.1 p.2.tags.length (p.2.tags.map Value.string)
structure aY(w:World)(G:Nat→Prop)(fo fe it se:Sl)(ts:List (Sl×aR))(x:St):Prop where
 fols:aF w G 3 fo x.fols.length (x.fols.flatMap bh.cells)
 fees:aF w G 4 fe x.fees.length (x.fees.flatMap aX.cells)
 itms:nS w G it ts
 same:ts.map (·.2)=x.itms
 seas:aF w G 3 se x.seas.length (x.seas.flatMap ce.cells)
def cC(fo fe it se:Sl)(x:St):Value:=.agg #[I J x.clock,U fo.1 x.fols.length fo.2,U fe.1 x.fees.length fe.2,U it.1 x.itms.length it.2,U se.1 x.seas.length se.2,I J x.tFol,I J x.tFee,I J x.tItm,I J x.tSea]
section
variable {w w1:World} {G G' F:Nat→Prop} {v fo fe it se:Sl} {ts:List (Sl×aR)} {x:St}
theorem nS.frm(h:nS w G v ts)(hf:aa F w w1)(hd:∀k,G k→¬F k):nS w1 G v ts:=⟨h.row.frm hf hd,λp hp=>(h.tags p hp).frm hf hd⟩
theorem nS.mono(h:nS w G v ts)(hg:∀k,G k→G' k):nS w G' v ts:=⟨h.row.mono hg,λp hp=>(h.tags p hp).mono hg⟩
theorem aY.frm(h:aY w G fo fe it se ts x)(hf:aa F w w1)(hd:∀k,G k→¬F k):aY w1 G fo fe it se ts x:=⟨h.fols.frm hf hd,h.fees.frm hf hd,h.itms.frm hf hd,h.same,h.seas.frm hf hd⟩
theorem aY.nix(h:aY w G fo fe it se ts x)(hf:aa ag w w1):aY w1 G fo fe it se ts x:=h.frm hf λ_ _=>id
theorem aY.mono(h:aY w G fo fe it se ts x)(hg:∀k,G k→G' k):aY w G' fo fe it se ts x:=⟨h.fols.mono hg,h.fees.mono hg,h.itms.mono hg,h.same,h.seas.mono hg⟩
theorem aY.len(h:aY w G fo fe it se ts x):ts.length=x.itms.length:=by rw[←h.same,List.length_map]
theorem aY.zero(w:World)(G:Nat→Prop):aY w G (none,0) (none,0) (none,0) (none,0) [] iV:=⟨aF.none_ _ _ _,aF.none_ _ _ _,⟨aF.none_ _ _ _,λ_ h=>by cases h⟩,rfl,aF.none_ _ _ _⟩
end
end
end Go.Proofs.YtaecjmiobllhmaaGreat
