/- Part 5 of what the proofs lean on: an evaluator of Go functions over abstract values. Conditions: none. -/
import Derived.Test.YtkjgmpccmpmmiaaGreatK03
import Derived.Lib.SliceRun
import Derived.HandedShaped
import Derived.Carry
import Derived.ProofKit
import Derived.Deep.Slices
set_option linter.all false
set_option linter.unusedVariables false
set_option linter.unusedSimpArgs false
set_option maxHeartbeats 2000000
set_option maxRecDepth 100000
namespace Go.Ev
open Go
section
variable {P:Program} {X:Ctx} {st s1 s2:St} {o:Oper} {T:Nat→Option TI} {ops:Array Oper} {rest l:List Oper} {Q:Exit→St→Prop}
def Qdy(P:Program)(X:Ctx)(ops:Array Oper)(l:List Oper)(st:St)(S:St→Prop):Prop:=
 ∀(rest:List Oper) (Q:Exit→St→Prop),(∀s,S s→WL P X ops rest s Q)→WL P X ops (l++rest) st Q
theorem Qdy.of{S:St→Prop}(h:Q8 P X ops l st s1)(hS:S s1):Qdy P X ops l st S:=fun rest Q hk=>h rest Q (hk _ hS)
theorem Qdy.step{S:St→Prop}(k:Nat)(hT:TOK P T){n0:Nat}(hX:X.n0=n0)(h1:Qgc T n0 ops (l.take k) st=some s1)(h2:Qdy P X ops (l.drop k) s1 S):Qdy P X ops l st S:=fun rest Q hk=>by
 have:=Q8.run (P:=P) hT hX h1 (l.drop k++rest) Q (h2 rest Q hk)
 rwa [←List.append_assoc,List.take_append_drop] at this
theorem Qdy.mono{S S':St→Prop}(hS: ∀s,S s→S' s)(h:Qdy P X ops l st S):Qdy P X ops l st S':=fun rest Q hk=>h rest Q fun s hs=>hk s (hS s hs)
theorem Qxp{x:V}{st':St}{w:World}{m:Mp}{cn:Nat→Cnt}{a:Act}(hs:Sl X w m cn st.tm a)(hd:a.defers=[])
  (h: ∃nx u w' m' cn',(execOp a.eval o).run P w= .ok nx w'∧(nx= .value u∨nx= .skip∧u=undef)∧Inv X w' st'.ob m' cn'∧Sl X w' m' cn' st'.tm a∧R w' (frz X cn') m' (.one x u) z0)
  (hg:gd ops st o.guard=some true) (hk:WL P X ops rest ⟨Q2l o.dst x st'.tm,st'.ob⟩ Q):wpList P ops (post X Q) (o::rest) a w:=by
 obtain ⟨nx,u,w',m',cn',hrun,hnx,hi',hs',hR⟩:=h
 refine wpList_step fun K hK=> ?_
 rw[Q62 hs hg,if_pos rfl]
 have hs2:Sl X w' m' cn' (Q2l o.dst x st'.tm) (a.put o.dst u):=by
  have:=hs'.set o.dst hR
  cases ho:o.dst<;>simpa[Q2l,ho] using this
 have hd2:(a.put o.dst u).defers=[]:=by cases ho:o.dst<;>simpa[Act.put] using hd
 unfold Oper.wp
 rw[hrun]
 rcases hnx with rfl|⟨rfl,rfl⟩
 ·exact hK _ _ (hk w' m' cn' _ hi' hs2 hd2)
 ·exact hK _ _ (hk w' m' cn' _ hi' hs2 hd2)
theorem Qdy.eqNil(hT:TOK P T){t e:Nat}{x:Operand}{t':TypeId}{ti:TI}(ho:o.op= .binOp .eql t x (.const (.slice none 0 0)) t')(ht:T t=some ti)(hk:ti.kd= .slice e)
  {k:Nat} {xs:List V} (hx:val st x= .lst false k xs) (hg:gd ops st o.guard=some true):
  Qdy P X ops [o] st fun s=> ∃b:Bool,(xs≠[]→b=false)∧s=⟨Q2l o.dst (.bool b) st.tm,st.ob⟩:=by
 intro rest Q hq w m cn a hi hs hd
 have hR:=Q14 hs x
 rw[hx] at hR
 obtain ⟨i,d,z,_,hu,_,hd',_⟩:=TI.of hT ht
 rw[hk] at hd'
 have:=Q6g hd'
 subst this
 have key: ∀ad n c,a.eval x= .slice ad n c→(xs≠[]→ad.isNone=false)→wpList P ops (post X Q) (o::rest) a w:=fun ad n c he hb=>by
  refine Qxp (x:= .bool ad.isNone) (st':=st) hs hd ⟨_,.bool ad.isNone,w,m,cn,?_,.inl rfl,hi,hs,.bool _⟩ hg (hq _ ⟨ad.isNone,hb,rfl⟩)
  have hc:a.eval (.const (.slice none 0 0))= .slice none 0 0:=rfl
  have h1:=Lib.run_eql_slice_nil (P:=P) w t e ad n c 0 0 hu
  have h2:(eqGuard .eql t x (.const (.slice none 0 0)) (.slice ad n c) (.slice none 0 0)).run P w= .ok () w:=rfl
  simp only[execOp,ho,he,hc,Sem.run_bind,h2,Result.andThen_ok,h1,Sem.run_pure]
 rcases R.inv_lst hR with ⟨rfl,ad,he⟩|⟨b,off,cap,he,_⟩
 ·exact key _ _ _ he (fun h=>absurd rfl h)
 ·exact key _ _ _ he (fun _=>rfl)
theorem Q158{id:Nat}{y:Code}{S:St→Prop}(ks:List Nat)(h:Qdy P X ops ops.toList st S)(hk: ∀s,S s→W P X y (s.keep ks) Q):W P X (.seq (.region id ops false) y) st Q:=by
 refine Q4 (Qsm ?_)
 have:=h [] (Qg9 (fun s=>W P X y s Q) Q) (fun s hs=>Q8w (Q15 (Le.keep ks s) (hk s hs)))
 rwa [List.append_nil] at this
end
end Go.Ev
namespace Go.Ev
open Go Go.Deep
inductive Tc where
 |bool
 |int (k:IntKind)
 |str
 |lst (one:Bool) (cs:List Tc)
mutual
def okC:Tc→V→Prop
 | .bool,v=> ∃b,v= .bool b
 | .int k,v=> ∃n,v= .int k n∧(Lit.int k n).wf=true
 | .str,v=> ∃l,v= .str l∧l.length≤reachBytes
 | .lst one cs,v=> ∃xs,v= .lst false cs.length xs∧xs.length≤reachBytes∧ ∀x∈xs,if one=true then okL cs [x] else∃vs,x= .agg vs∧okL cs vs
def okL:List Tc→List V→Prop
 |[],[]=>True
 |c::cs,v::vs=>okC c v∧okL cs vs
 |_,_=>False
end
theorem Qi9: ∀{cs:List Tc} {vs:List V},okL cs vs→vs.length=cs.length
 |[],[],_=>rfl
 |_::_,_::_,h=>by simp only[okL] at h;simp[Qi9 h.2]
 |[],_::_,h=>by simp[okL] at h
 |_::_,[],h=>by simp[okL] at h
theorem Qqy: ∀{cs ds:List Tc} {vs ws:List V},okL cs vs→okL ds ws→okL (cs++ds) (vs++ws)
 |[],_,[],_,_,h=>h
 |_::_,_,_::_,_,h,k=>by simp only[okL,List.cons_append] at h⊢;exact ⟨h.1,Qqy h.2 k⟩
 |[],_,_::_,_,h,_=>by simp[okL] at h
 |_::_,_,[],_,h,_=>by simp[okL] at h
theorem Q10t{c:Tc}{v:V}(h:okC c v):v.cells=[v]:=by
 cases c<;>simp only[okC] at h
 ·obtain ⟨b,rfl⟩:=h;rfl
 ·obtain ⟨n,rfl,_⟩:=h;rfl
 ·obtain ⟨l,rfl,_⟩:=h;rfl
 ·obtain ⟨xs,rfl,_⟩:=h;rfl
def elV(one:Bool)(vs:List V):V:=if one=true then vs.headD .junk else .agg vs
theorem Qu9{one:Bool}{cs:List Tc}{vs:List V}(h:okL cs vs)(h1:one=true→cs.length=1):(elV one vs).cells=vs:=by
 unfold elV
 split
 ·rename_i ho
  have hl:=Qi9 h
  rw[h1 ho] at hl
  match vs,hl with
  |[v],_=>
   match cs,h1 ho with
   |[c],_=>simp only[okL] at h;exact Q10t h.1
 ·rfl
def Qxv(P:Program)(f:TypeId→Option (Bool×List Tc)):Nat→List Field→Option (List Tc)
 |_,[]=>some []
 |off,g::gs=>
  match f g.type,Qxv P f (off+P.cellsOf g.type) gs with
  |some (_,cs),some ds=>if g.offset=off∧P.cellsOf g.type=cs.length then some (cs++ds) else none
  |_,_=>none
def Qqr(P:Program):Nat→TypeId→Option (Bool×List Tc)
 |0,_=>none
 |n+1,t=>
  match P.underlying t with
  |some .bool=>some (true,[.bool])
  |some (.int k)=>some (true,[.int k])
  |some .string=>some (true,[.str])
  |some (.slice e)=>match Qqr P n e with
   |some (one,cs)=>if P.cellsOf e=cs.length∧0<cs.length∧0<P.bytesOf e∧(one=true→cs.length=1) then some (true,[.lst one cs]) else none
   |none=>none
  |some (.struct fs)=>match Qxv P (Qqr P n) 0 fs.toList with
   |some cs=>if P.cellsOf t=cs.length then some (false,cs) else none
   |none=>none
  |_=>none
section
variable {H:Type} {enc:TypeId×Value→H} {P:Program} {w:World}
def RdOk(w:World)(cs:List Tc)(us:List Value):Prop:=
 ∃vs,okL cs vs∧(∀u∈us,u.oneCell'=true)∧ ∀m,R w (fun b=>b<w.heap.size) m (.list vs us) z0
theorem RdOk.append{cs ds:List Tc}{us vs:List Value}(h:RdOk w cs us)(k:RdOk w ds vs):RdOk w (cs++ds) (us++vs):=by
 obtain ⟨a,h1,h2,h3⟩:=h
 obtain ⟨b,k1,k2,k3⟩:=k
 refine ⟨a++b,Qqy h1 k1,fun u hu=> ?_,fun m=> ?_⟩
 ·rcases List.mem_append.1 hu with h|h
  ·exact h2 u h
  ·exact k2 u h
 ·exact (R.ljoin (h3 m) (k3 m)).zero fun z=>by simp[z0]
theorem Q106{fr:Nat→Prop}{m:Mp}{b:Nat}: ∀{vs:List V} {us:List Value} {off:Nat},R w fr m (.list vs us) z0→(∀u∈us,u.oneCell'=true)→(∀j u,us[j]? =some u→w.cell? ⟨b,off+j,none⟩=some u)→
  R w fr m (.cells b off vs) z0
 |[],us,off,_,_,_=> .cnil
 |v::vs,us,off,h,h1,hc=>by
  generalize hz:z0=c at h
  cases h with
  |lcons g1 g2 he=>
   rename_i u us' c1 c2
   subst hz
   have e1:c1=z0:=funext fun z=>by have:=he z;simp[z0] at*;omega
   have e2:c2=z0:=funext fun z=>by have:=he z;simp[z0] at*;omega
   subst e1;subst e2
   exact .ccons (by have:=hc 0 u rfl;simpa using this) (h1 u Z3) g1 (Q106 g2 (fun x hx=>h1 x (by simp[hx])) (fun j x hx=>by have:=hc (j+1) x Z8v;rwa [show off+(j+1)=off+1+j from by omega] at this)) (fun z=>rfl)
theorem Qsp{fr:Nat→Prop}{m:Mp}{b:Nat}{xs ys:List V}{off:Nat}(h:R w fr m (.cells b off xs) z0)(k:R w fr m (.cells b (off+xs.length) ys) z0):R w fr m (.cells b off (xs++ys)) z0:=by
 induction xs generalizing off with
 |nil=>simpa using k
 |cons x xs ih=>
  generalize hz:z0=c at h
  cases h with
  |ccons hc h1c h1 h2 he=>
   rename_i u c1 c2
   subst hz
   have e1:c1=z0:=funext fun z=>by have:=he z;simp[z0] at*;omega
   have e2:c2=z0:=funext fun z=>by have:=he z;simp[z0] at*;omega
   subst e1;subst e2
   exact .ccons hc h1c h1 (ih h2 (by rwa [List.length_cons,show off+(xs.length+1)=off+1+xs.length from by omega] at k)) (fun z=>rfl)
theorem Q105{fr:Nat→Prop}{m:Mp}{b k:Nat}(f:Nat→V): ∀(n off:Nat),(∀i,i<n→(f i).cells.length=k∧R w fr m (.cells b (off+i*k) (f i).cells) z0)→R w fr m (.cells b off (Q1y ((List.range n).map f))) z0
 |0,off,_=>by simpa using R.cnil
 |n+1,off,h=>by
  rw[List.range_succ,List.map_append,flat_append]
  refine Qsp (Q105 f n off fun i hi=>h i Zb) ?_
  have hu:uni k ((List.range n).map f):=fun x hx=>by
   obtain ⟨i,hi,rfl⟩:=List.mem_map.1 hx
   exact (h i (by have:=List.mem_range.1 hi;omega)).1
  rw[Q33 hu,List.length_map,List.length_range]
  simpa using (h n Zb).2
theorem Qg5{e:TypeId}{d:DataW H}: ∀{ds:List (DataW H)},d∈ds→ ∀x∈d.weights P e,x∈DataW.weightsAll P e ds
 |a::r,h,x,hx=>by
  simp only[DataW.weightsAll,List.mem_append]
  rcases List.mem_cons.1 h with rfl|h
  ·exact .inl hx
  ·exact .inr (Qg5 h x hx)
theorem Q17q(n:Nat): ∀{t:TypeId} {one:Bool} {cs:List Tc},Qqr P n t=some (one,cs)→ ∀{fuel:Nat} {us:List Value} {x:DataW H×List MemPlace},
  DataW.trod enc P w 0 (fun _=>true) true fuel t us=some x→(∀y∈x.1.weights P t,y≤reachBytes)→us.length=cs.length∧RdOk w cs us:=by
 induction n with
 |zero=>intro t one cs h;simp[Qqr] at h
 |succ n ih=>
  intro t one cs h fuel us x hx hw
  unfold Qqr at h
  split at h
  ·rename_i ht
   obtain ⟨b,rfl,rfl⟩:=DataW.trod_bool ht hx
   cases h
   exact ⟨rfl,[.bool b],⟨⟨b,rfl⟩,trivial⟩,fun u hu=>by simp at hu;subst hu;rfl,fun m=> .lcons (.bool b) .lnil (fun _=>rfl)⟩
  ·rename_i k ht
   obtain ⟨i,rfl,rfl,hwf⟩:=DataW.trod_int ht hx
   cases h
   exact ⟨rfl,[.int k i],⟨⟨i,rfl,hwf⟩,trivial⟩,fun u hu=>by simp at hu;subst hu;rfl,fun m=> .lcons (.int k i) .lnil (fun _=>rfl)⟩
  ·rename_i ht
   obtain ⟨s,rfl,rfl,hs⟩:=DataW.trod_string ht hx
   cases h
   refine ⟨rfl,[.str s.data.toList],⟨⟨_,rfl,hw _ (by simp[DataW.weights])⟩,trivial⟩,fun u hu=>by simp at hu;subst hu;rfl,fun m=> .lcons ?_ .lnil (fun _=>rfl)⟩
   have:s=(⟨s.data.toList.toArray⟩:ByteArray):=by cases s;simp
   have h2:R w (fun b=>b<w.heap.size) m (.one (.str s.data.toList) (.string ⟨s.data.toList.toArray⟩)) z0:= .str _
   rwa [←this] at h2
  ·rename_i e ht
   split at h
   ·rename_i one' cs' he
    split at h
    ·rename_i hc
     obtain ⟨hc1,hc2,hc3,hc4⟩:=hc
     cases h
     rcases open_slice ht hx with ⟨rfl,rfl⟩|⟨a,len,cap,m,f2,D,Pl,rfl,hb,hl,hcm,hm,rfl,hel⟩
     ·exact ⟨rfl,[.lst false cs'.length []],⟨⟨[],rfl,Nat.zero_le _,fun x hx=>by simp at hx⟩,trivial⟩,fun u hu=>by simp at hu;subst hu;rfl,fun m=> .lcons .nil .lnil (fun _=>rfl)⟩
     ·simp only[if_true] at hm
      rw[hm] at hel hw
      clear hm
      have hw1:=hw ((len+(cap-len))*P.bytesOf e) (by simp[DataW.weights,ht])
      have hlen:len≤reachBytes:=by
       have:len*1≤(len+(cap-len))*P.bytesOf e:=Nat.mul_le_mul Zb hc3
       omega
      have hE: ∀i,i<len→ ∃vs us,okL cs' vs∧us.length=cs'.length∧w.cells? 0 (a.add (i*P.cellsOf e)) (P.cellsOf e)=some us∧(∀u∈us,u.oneCell'=true)∧ ∀m,R w (fun b=>b<w.heap.size) m (.list vs us) z0:=by
       intro i hi
       obtain ⟨us,h1,h2⟩:=hel i Zb
       obtain ⟨g1,vs,g2,g3,g4⟩:=ih he h2 (fun y hy=>hw y (by
        simp only[DataW.weights,ht,List.mem_cons,List.mem_append]
        exact .inr (.inl (Qg5 (List.mem_map.2 ⟨i,List.mem_range.2 hi,rfl⟩) y hy))))
       exact ⟨vs,us,g2,g1,h1,g3,g4⟩
      rcases Nat.eq_zero_or_pos len with hl0|hlp
      ·subst hl0
       refine ⟨rfl,[.lst false cs'.length []],⟨⟨[],rfl,Nat.zero_le _,fun x hx=>by simp at hx⟩,trivial⟩,fun u hu=>by simp at hu;subst hu;rfl,fun m=> .lcons ?_ .lnil (fun _=>rfl)⟩
       rcases Nat.eq_zero_or_pos cap with hc0|hcp
       ·subst hc0;exact .nilz
       ·obtain ⟨us,h1,_⟩:=hel 0 hcp
        obtain ⟨_,k1,k2⟩:=World.cells?_some h1
        have k3:=k2 0 Zb
        rw[List.getElem?_eq_getElem Zb] at k3
        have hsp:=World.cell?_spot k3
        obtain ⟨ab,ao,asp⟩:=a
        simp[Addr.add] at hsp
        subst hsp
        simp[Addr.add] at k3
        exact .frz (xs:=[]) (Qeb k3) (Qeb k3) (fun x hx=>by simp at hx) Z3 .cnil
      ·have hE2: ∃VS:Nat→List V,∀i,i<len→ ∃us,okL cs' (VS i)∧us.length=cs'.length∧w.cells? 0 (a.add (i*P.cellsOf e)) (P.cellsOf e)=some us∧(∀u∈us,u.oneCell'=true)∧ ∀m,R w (fun b=>b<w.heap.size) m (.list (VS i) us) z0:=by
        refine ⟨fun i=>if h:i<len then (hE i h).choose else [],fun i hi=> ?_⟩
        simp only[dif_pos hi]
        exact (hE i hi).choose_spec
       obtain ⟨VS,hVS⟩:=hE2
       obtain ⟨_,_,g1,g2,_⟩:=hVS 0 hlp
       obtain ⟨_,k1,k2⟩:=World.cells?_some g2
       have k3:=k2 0 Zb
       rw[List.getElem?_eq_getElem Zb] at k3
       have hsp:=World.cell?_spot k3
       obtain ⟨ab,ao,asp⟩:=a
       simp[Addr.add] at hsp
       subst hsp
       simp[Addr.add] at k3
       have hlt:=Qeb k3
       have hxl:((List.range len).map fun i=>elV one' (VS i)).length=len:=by simp
       refine ⟨rfl,[.lst false cs'.length ((List.range len).map fun i=>elV one' (VS i))],⟨⟨_,rfl,by rw[hxl];exact hlen,fun x hx=> ?_⟩,trivial⟩,fun u hu=>by simp at hu;subst hu;rfl,fun m=> .lcons ?_ .lnil (fun _=>rfl)⟩
       ·obtain ⟨i,hi,rfl⟩:=List.mem_map.1 hx
        have hi:=List.mem_range.1 hi
        obtain ⟨_,q1,_⟩:=hVS i hi
        unfold elV
        split
        ·rename_i ho
         have hl:=Qi9 q1
         rw[hc4 ho] at hl
         match hV:VS i,hl with
         |[v],_=>rw[hV] at q1;exact q1
        ·exact ⟨_,rfl,q1⟩
       ·have hfin:R w (fun b=>b<w.heap.size) Q1e (.cells ab ao (Q1y ((List.range len).map fun i=>elV one' (VS i)))) z0:=by
         refine Q105 (k:=cs'.length) _ len ao fun i hi=> ?_
         obtain ⟨us,q1,q2,q3,q4,q5⟩:=hVS i hi
         rw[Qu9 q1 hc4]
         refine ⟨Qi9 q1,Q106 (q5 Q1e) q4 fun j u hu=> ?_⟩
         obtain ⟨_,p1,p2⟩:=World.cells?_some q3
         have hj:=(List.getElem?_eq_some_iff.1 hu).1
         have:=p2 j Zb
         rw[hu,hc1] at this
         rw[add_add,Q9y] at this
         rwa [Nat.add_assoc]
        have:=R.frz (m:=m) (w:=w) (fr:=fun b=>b<w.heap.size) (k:=cs'.length) (xs:=(List.range len).map fun i=>elV one' (VS i)) (b:=ab) (off:=ao) (cap:=cap) hlt hlt (fun x hx=>by
         obtain ⟨i,hi,rfl⟩:=List.mem_map.1 hx
         have hi:=List.mem_range.1 hi
         obtain ⟨_,q1,_⟩:=hVS i hi
         rw[Qu9 q1 hc4];exact Qi9 q1) (by rw[hxl];exact hl) hfin
        rwa [hxl] at this
    ·cases h
   ·cases h
  ·rename_i fs ht
   split at h
   ·rename_i cs' hf
    split at h
    ·rename_i hc
     cases h
     obtain ⟨xs,f2,_,rfl,hl,hlen,hel⟩:=DataW.trod_struct ht hx
     refine ⟨by rw[hl,hc],?_⟩
     have key: ∀(gs:List Field) (off:Nat) (cs:List Tc) (us:List Value) (ys:List (DataW H×List MemPlace)),Qxv P (Qqr P n) off gs=some cs→us.length=cs.length→ys.length=gs.length→
       (∀(i:Nat) (f:Field),gs[i]? =some f→DataW.trod enc P w 0 (fun _=>true) true f2 f.type ((us.drop (f.offset-off)).take (P.cellsOf f.type))=ys[i]?)→(∀y∈DataW.weightsEach P (gs.map (·.type)) (ys.map (·.1)),y≤reachBytes)→RdOk w cs us:=by
      intro gs
      induction gs with
      |nil=>
       intro off cs us ys h hu _ _ _
       simp[Qxv] at h
       subst h
       have:us=[]:=List.eq_nil_of_length_eq_zero Zc0
       subst this
       exact ⟨[],trivial,fun u hu=>by simp at hu,fun m=> .lnil⟩
      |cons g gs ihg=>
       intro off cs us ys h hu hyl hys hwy
       simp only[Qxv] at h
       split at h
       ·rename_i o1 c1 c2 hg hgs
        split at h
        ·rename_i hoff
         cases h
         match ys,hyl with
         |y::ys,hyl=>
          have h0:=hys 0 g rfl
          rw[hoff.1,Nat.sub_self,List.drop_zero] at h0
          simp only[List.map_cons,DataW.weightsEach,List.mem_append] at hwy
          obtain ⟨q1,q2⟩:=ih hg h0 (fun z hz=>hwy z (.inl hz))
          have hle: ∀(i:Nat) (f:Field),gs[i]? =some f→off+P.cellsOf g.type≤f.offset:=by
           have: ∀(gs:List Field) (o:Nat) (cs:List Tc),Qxv P (Qqr P n) o gs=some cs→ ∀(i:Nat) (f:Field),gs[i]? =some f→o≤f.offset:=by
            intro gs
            induction gs with
            |nil=>intro o cs _ i f hf;simp at hf
            |cons g gs ih2=>
             intro o cs h i f hf
             simp only[Qxv] at h
             split at h
             ·rename_i a1 a2 a3 a4 a5
              split at h
              ·rename_i hh
               cases i with
               |zero=>simp at hf;subst hf;omega
               |succ i=>have:=ih2 _ _ a5 i f (by simpa using hf);omega
              ·cases h
             ·cases h
           exact fun i f hf=>this gs _ _ hgs i f hf
          have hrest:=ihg (off+P.cellsOf g.type) c2 (us.drop (P.cellsOf g.type)) ys hgs (by rw[List.length_drop,hu,List.length_append];omega) (by simpa using hyl) (fun i f hf=>by
           have:=hys (i+1) f (by simpa using hf)
           rw[List.getElem?_cons_succ] at this
           rw[←this,List.drop_drop]
           have:=hle i f hf
           congr 3
           omega) (fun z hz=>hwy z (.inr hz))
          have:=q2.append hrest
          rwa [List.take_append_drop] at this
        ·cases h
       ·cases h
     exact key fs.toList 0 _ us xs hf (by rw[hl,hc]) (by simpa using hlen) (fun i f hf=>by
      have:=hel i f (by simpa using hf)
      simpa using this) (fun y hy=>hw y (by simp only[DataW.weights,ht];exact hy))
    ·cases h
   ·cases h
  ·cases h
def shpA(P:Program)(n:Nat):List TypeId→Option (List (Bool×List Tc))
 |[]=>some []
 |t::ts=>match Qqr P n t,shpA P n ts with
  |some x,some xs=>some (x::xs)
  |_,_=>none
def okA:List (Bool×List Tc)→List V→Prop
 |[],[]=>True
 |x::r,v::vs=>(if x.1=true then okL x.2 [v] else∃ws,v= .agg ws∧okL x.2 ws)∧okA r vs
 |_,_=>False
open WideShapes ChangeShapes in
theorem Q10i{n:Nat}{t:TypeId}{one:Bool}{cs:List Tc}(h:Qqr P n t=some (one,cs)){r:Reach}{base:Nat}{v:Value}(hv:Value.okWide P w r base t v):
  (one=true∧v.cells.toList=[v]∧cs.length=1)∨(one=false∧ ∃us,v= .agg us):=by
 cases n with
 |zero=>simp[Qqr] at h
 |succ n=>
  unfold Qqr at h
  split at h
  ·rename_i ht;cases h;obtain ⟨b,rfl⟩:=okWide_bool ht hv;exact .inl ⟨rfl,rfl,rfl⟩
  ·rename_i k ht;cases h;obtain ⟨b,rfl⟩:=okWide_int ht hv;exact .inl ⟨rfl,rfl,rfl⟩
  ·rename_i ht;cases h;obtain ⟨b,rfl⟩:=okWide_string ht hv;exact .inl ⟨rfl,rfl,rfl⟩
  ·rename_i e ht
   obtain ⟨a,len,cap,rfl⟩:=okWide_slice ht hv
   split at h
   ·split at h
    ·cases h;exact .inl ⟨rfl,rfl,rfl⟩
    ·cases h
   ·cases h
  ·rename_i fs ht
   obtain ⟨us,rfl,_⟩:=okWide_struct ht hv
   split at h
   ·split at h
    ·cases h;exact .inr ⟨rfl,us,rfl⟩
    ·cases h
   ·cases h
  ·cases h
theorem Q124{n:Nat}{r:Reach}{base:Nat}: ∀{ts:List TypeId} {css:List (Bool×List Tc)},shpA P n ts=some css→ ∀{args:List Value} {ds:List (DataW H)} {p:List MemPlace},
  DataW.TrodAll enc P w 0 (fun _=>true) true ts args ds p→(∀(j:Nat) t v,ts[j]? =some t→args[j]? =some v→Value.okWide P w r base t v)→(∀y∈DataW.weightsEach P ts ds,y≤reachBytes)→
  ∃vs,okA css vs∧ ∀m,R w (fun b=>b<w.heap.size) m (.list vs args) z0
 |[],css,h,args,ds,p,hA,_,_=>by
  simp[shpA] at h
  subst h
  obtain ⟨rfl,rfl,rfl⟩:=ChangeShapes.trodAll_nil hA
  exact ⟨[],trivial,fun m=> .lnil⟩
 |t::ts,css,h,args,ds,p,hA,hv,hw=>by
  obtain ⟨v,vs,d,ds',a,b,rfl,rfl,rfl,h1,h2⟩:=ChangeShapes.trodAll_cons hA
  simp only[shpA] at h
  split at h
  ·rename_i x xs hx hxs
   cases h
   obtain ⟨one,cs⟩:=x
   simp only[DataW.weightsEach,List.mem_append] at hw
   obtain ⟨ws,k1,k2⟩:=Q124 hxs h2 (fun j t v ht hv'=>hv (j+1) t v Zag (by simpa using hv')) (fun y hy=>hw y (.inr hy))
   obtain ⟨fuel,hf⟩:=h1
   obtain ⟨g0,us,g1,g2,g3⟩:=Q17q n hx hf (fun y hy=>hw y (.inl hy))
   rcases Q10i hx (hv 0 t v rfl rfl) with ⟨rfl,hc,hl⟩|⟨rfl,us',rfl⟩
   ·rw[hc] at g3
    have hlu:=Qi9 g1
    rw[hl] at hlu
    match us,hlu with
    |[u],_=>
     refine ⟨u::ws,⟨g1,k1⟩,fun m=> ?_⟩
     have:=(R.ljoin (g3 m) (k2 m)).zero fun z=>by simp[z0]
     exact this
   ·refine ⟨.agg us::ws,⟨⟨us,rfl,g1⟩,k1⟩,fun m=> .lcons ?_ (k2 m) (fun _=>rfl)⟩
    have:=R.agg (g3 m)
    simpa[Value.cells] using this
  ·cases h
theorem Q10w{f:FuncId}{fn:Func}{s:ChangeSpec}{fresh handsOn again:Bool}{W:World}{base:Nat}{args:Array Value}{ds gs:List (DataW H)}{before:List MemPlace}{tb:TypeId}{n:Nat}{css:List (Bool×List Tc)}
  (hl:laidOutB P=true) (hpar:(fn.params.toList.all fun t=>P.readableRec t&&decide (t<P.types.size))=true)
  (hv:s.vars=[]) (hres:fn.resultTypes= #[tb]) (htb:P.underlying tb=some .bool)
  (hfn: ∀ds:List (DataW H),ds.length=fn.params.size→s.fn H (ds++[])=⟨[.lit (.bool true)],ds,[]⟩)
  (hsh:shpA P n fn.params.toList=some css)
  (hval: ∀(j:Nat) t v,fn.params[j]? =some t→args[j]? =some v→Value.okWide P W .any base t v)
  (hW:DataW.Whole enc P fn.params.toList s.vars false W args.toList ds gs before)
  (hw:(DataW.weightsEach P (fn.params.toList++s.plain.varTypes P) (ds++gs)).all (· ≤reachBytes)=true)
  (hct: ∀vs,okA css vs→Ct P f vs [] (.bool true) []):
  Calls P f args W fun e W'=> ∃v,e= .returned v∧s.post enc P fn false fresh handsOn again W args v W':=by
 have hW0:=hW
 obtain ⟨p,q,hA,hV,rfl,hfz,hap⟩:=hW
 rw[hv] at hV
 obtain ⟨rfl,rfl⟩:=ChangeShapes.trodVars_none hV
 have hlt: ∀x∈p,x.block<W.heap.size:=fun x hx=>by simpa using hW0.lt x Z8v
 have hlen: ∀{ts:List TypeId} {vs:List Value} {ds:List (DataW H)} {p:List MemPlace},DataW.TrodAll enc P W 0 (fun _=>true) true ts vs ds p→ds.length=ts.length:=by
  intro ts
  induction ts with
  |nil=>intro vs ds p h;obtain ⟨_,rfl,_⟩:=ChangeShapes.trodAll_nil h;rfl
  |cons t ts ih=>intro vs ds p h;obtain ⟨_,_,_,_,_,_,_,rfl,_,_,h2⟩:=ChangeShapes.trodAll_cons h;simp[ih h2]
 have hwe: ∀{ts us:List TypeId} {vs:List Value} {ds:List (DataW H)} {p:List MemPlace},DataW.TrodAll enc P W 0 (fun _=>true) true ts vs ds p→DataW.weightsEach P (ts++us) (ds++[])=DataW.weightsEach P ts ds:=by
  intro ts
  induction ts with
  |nil=>intro us vs ds p h;obtain ⟨_,rfl,_⟩:=ChangeShapes.trodAll_nil h;cases us<;>rfl
  |cons t ts ih=>intro us vs ds p h;obtain ⟨_,_,_,_,_,_,_,rfl,_,_,h2⟩:=ChangeShapes.trodAll_cons h;simp only[List.cons_append,DataW.weightsEach];rw[ih h2]
 obtain ⟨vs,h1,h2⟩:=Q124 hsh hA (fun j t v ht hv=>hval j t v Zag (by simpa using hv)) (fun y hy=>by
  rw[hwe hA,List.all_eq_true] at hw
  simpa using hw y hy)
 have hfr: ∀b,b<W.heap.size→frz ⟨W,fun b=>b<W.heap.size,fun b=> ∃id:Nat,0<(fun (_:Nat)=>z0) id b,Q1e,0⟩ (fun _=>z0) b:=fun b hb=>⟨.inl hb,fun _=>rfl⟩
 have hinv:Inv ⟨W,fun b=>b<W.heap.size,fun b=> ∃id:Nat,0<(fun (_:Nat)=>z0) id b,Q1e,0⟩ W [] Q1e (fun _=>z0):=
  ⟨Nat.le_refl _,fun _ _ _=>rfl,rfl,rfl,rfl,fun id o h=>by simp at h,fun b i j h=>by simp[z0] at h,fun i b=>Nat.zero_le _,fun i b h=>by simp[z0] at h,fun _ _=>rfl,fun _ _=>rfl,fun _ _ h=>by simp[Q1e] at h,Nat.le_refl _,fun _ _=>rfl⟩
 have hcall:=hct vs h1 W (fun b=>b<W.heap.size) Q1e (fun _=>z0) args.toList (fun b hb=>⟨hb,fun _=>rfl⟩) hinv
  ((h2 Q1e).mono (Nat.le_refl _) (fun b hb _=>⟨hfr b hb,rfl⟩) (fun _ _=>rfl) trivial (fun id x h=>by simp[Q1e] at h))
 rw[Array.toArray_toList] at hcall
 refine Calls.mono hcall ?_
 rintro e W' ⟨u,m',cn',d,rfl,hi,hR,_⟩
 have hu:=R.inv_bool hR
 subst hu
 have hb:RowKit.Below W.heap.size W W':=⟨hi.os,hi.tape,hi.output,hi.le,fun k hk=>hi.kept k hk (by rintro ⟨_,h⟩;simp[z0] at h)⟩
 refine ⟨.bool true,rfl,?_⟩
 have hps:=hfn ds (by rw[hlen hA];simp)
 have hargs: ∀sp:Nat→Bool,(∀b,b<W.heap.size→sp b=true)→DataW.TrodAll enc P W' 0 sp true fn.params.toList args.toList ds p:=by
  intro sp hsp
  have key: ∀{ts:List TypeId} {vs:List Value} {ds:List (DataW H)} {p:List MemPlace},(ts.all fun t=>P.readableRec t&&decide (t<P.types.size))=true→(∀x∈p,x.block<W.heap.size)→DataW.TrodAll enc P W 0 (fun _=>true) true ts vs ds p→
    DataW.TrodAll enc P W' 0 sp true ts vs ds p:=by
   intro ts
   induction ts with
   |nil=>intro vs ds p _ _ h;obtain ⟨rfl,rfl,rfl⟩:=ChangeShapes.trodAll_nil h;rfl
   |cons t ts ih=>
    intro vs ds p hall hlt h
    obtain ⟨v,vs,d,ds',a,b,rfl,rfl,rfl,g1,g2⟩:=ChangeShapes.trodAll_cons h
    simp only[List.all_cons,Bool.and_eq_true,decide_eq_true_eq] at hall
    refine ⟨a,b,?_,ih hall.2 (fun x hx=>hlt x (List.mem_append_right _ hx)) g2,rfl⟩
    exact WideElems.Trod_stays hl hall.1.1 hall.1.2 g1 (fun x hx=>hb.same (hlt x (List.mem_append_left _ hx))) (fun x hx=>hsp _ (hlt x (List.mem_append_left _ hx)))
  exact key hpar hlt hA
 have hresd: ∀(b:Nat) (sp:Nat→Bool) (hd:Bool),DataW.TrodAll enc P W' b sp hd fn.resultTypes.toList ((Value.bool true).resultList fn.resultTypes.size) [.lit (.bool true)] []:=by
  intro b sp hd
  rw[hres]
  exact ChangeShapes.trodAll_mk1 (RowKit.shut_bool htb true)
 refine ⟨ds,[],p++[],[],p,[],hW0,by rw[hps];exact hresd _ _ _,by rw[hps];exact hargs _ (fun b hb=>by simpa using hb),by rw[hps,hv];rfl,World.keptBut_mono (fun x hx=>⟨by simpa using hx,.inr (.inl hx)⟩) (hb.frame _),fun _=>⟨?_,?_⟩⟩
 ·exact RowKit.ok_one hres rfl (RowKit.okWide_bool_mk htb true)
 ·refine ⟨.lit (.bool true)::ds,[],p++[],⟨p,[],?_,by rw[hv];rfl,rfl,?_,fun h=>by cases h⟩,fun x hx _=>hx⟩
  ·have:=ChangeShapes.trodAll_append (hargs (fun _=>true) (fun _ _=>rfl)) (hresd 0 (fun _=>true) true)
   simpa using this
  ·intro b off hx
   have hb2:=hlt (.cell b off) Z8v
   have:=hfz b off hx
   rw[←this]
   exact hb.frozen hb2
end
end Go.Ev
namespace Go.Ev
open Go
theorem Q10y{P:Program}{f:FuncId}{fn:Func}{s:ChangeSpec}{c:OpenClaim}
  (h1:c.wf (OpenSpec.ofChange s)=true) (h2:laidOutB P=true) (h3:mapsRowed P=true)
  (h4:fn.params.all (P.readableRec ·)=true) (h5:namedTie P c.named s.vars=true)
  (h6:((c.stops==[])&&(P.stops==[])&&(c.knobs==[])&&(P.stopKnobs==[]))=true)
  (h7:(c.inPlace==P.inPlace f)=true) (h8:(c.unfollowed==P.unfollowed f)=true) (h9:(c.recurses==P.recurses f)=true) (h10:(c.named==P.varsNamed f)=true)
  (h11:(c.maps==(fn.params.toList++s.plain.varTypes P).any (P.mapsRec ·))=true) (h12:(c.ifaces==(fn.params.toList++s.plain.varTypes P).any (P.ifacesRec ·))=true) (h13:(c.mapsOut==P.mapsAmong fn.resultTypes.toList)=true)
  (h14:(c.loops==(fn.params.toList++s.plain.varTypes P).any (P.loopsFrom ·))=true) (h15:(c.wideKeys==(fn.params.toList++s.plain.varTypes P++fn.resultTypes.toList).any (P.wideKeysFrom ·))=true)
  (h16:s.vars.all (P.varReadable ·)=true) (h17:fn.resultTypes.all (fun t=>P.readableRec t&&decide (t<P.types.size))=true) (h18:(c.ifacesOut==fn.resultTypes.toList.any (P.ifacesRec ·))=true)
  (h19:(c.loopsOut==fn.resultTypes.toList.any (P.loopsFrom ·))=true) (h20:(c.plainKeys==P.plainKeys)=true) (h21:(c.shortTexts.isNone&&P.stopsHeard)=true) (h21b:P.mayEnter=true) (h22:(c.lifted==P.liftsFinal)=true)
  (h23:(P.make==some c.make)=true) (h24:c.domain=[]∧c.kinds=[]) (h25:(c.pinned==c.pinnedBy)=true)
  (h26:(c.veiled==(fn.params.toList++s.plain.varTypes P++fn.resultTypes.toList).any (P.veiledRec ·))=true) (h27:c.veiledFits P fn.params.toList (fn.params.toList++s.plain.varTypes P++fn.resultTypes.toList)=true):
  joinedFacts P f fn s c=true:=by
 simp only[Bool.and_eq_true] at h6 h21
 unfold joinedFacts
 rw[h24.1,h24.2]
 rw[h1,h2,h3,h4,h5,h6.1.1.1,h6.1.1.2,h6.1.2,h6.2,h7,h8,h9,h10,h11,h12,h13,h14,h15,h16,h17,h18,h19,h20,h21.1,h21.2,h21b,h22,h23,h25,h26,h27]
 rfl
end Go.Ev
