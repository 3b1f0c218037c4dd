/- Part 4 of what the proofs lean on: an evaluator of Go functions over abstract values. Conditions: none. -/
import Derived.Test.YtkjgmpccmpmmiaaGreatK02
import Derived.RangeFuncKeeps
import Derived.RangeFuncLeaves
set_option linter.all false
set_option linter.unusedVariables false
set_option linter.unusedSimpArgs false
set_option maxHeartbeats 2000000
set_option maxRecDepth 100000
namespace Go.Ev
open Go
section
variable {X:Ctx} {w:World} {ob:List Ob} {m:Mp} {cn:Nat→Cnt}
theorem Inv.carve(hi:Inv X w ob m cn){p kp k b:Nat}{xs xs' ys:List V}{cur:Array Value}{el:TypeId}{c d:Cnt}(hp:ob[p]? =some (some (kp,xs)))
  (hb:w.heap[b]? =some (.cells cur el (0,0))) (hk:uni k ys) (hl:ys.length*k≤cur.size) (hR:R w (frz X cn) Q1e (.cells b 0 (Q1y ys)) c)
  (hc: ∀x,d x=c x+if x=b then 1 else 0) (hd: ∀x,d x≤cn p x)
  (hnew: ∀m' cn',Ext X w m cn w m' cn'→m' ob.length=some (b,k)→m' p=m p→Qgh w (frz X cn') m' (fun z=>cn p z-d z) p (some (kp,xs'))):
  Inv X w (ob.set p (some (kp,xs'))++[some (k,ys)]) (upd m ob.length (some (b,k))) (upd (upd cn p (fun x=>cn p x-d x)) ob.length d)∧
   Ext X w m cn w (upd m ob.length (some (b,k))) (upd (upd cn p (fun x=>cn p x-d x)) ob.length d):=by
 have hplt:=(List.getElem?_eq_some_iff.1 hp).1
 have hNe:ob.length≠p:=by omega
 have e1:(upd (upd cn p (fun x=>cn p x-d x)) ob.length d) ob.length=d:=Q1h _ _ _
 have e2:(upd (upd cn p (fun x=>cn p x-d x)) ob.length d) p=fun x=>cn p x-d x:=by rw[Qu _ _ (Ne.symm hNe),Q1h]
 have e3: ∀i,i≠ob.length→i≠p→(upd (upd cn p (fun x=>cn p x-d x)) ob.length d) i=cn i:=fun i h1 h2=>by rw[Qu _ _ h1,Qu _ _ h2]
 generalize hcn:upd (upd cn p (fun x=>cn p x-d x)) ob.length d=cn' at*
 have hpos: ∀i x,0<cn' i x→(i=ob.length∧0<d x∧0<cn p x)∨(i≠ob.length∧0<cn i x∧(i=p→d x=0)):=by
  intro i x h
  by_cases h1:i=ob.length
  ·subst h1;rw[e1] at h;exact .inl ⟨rfl,h,by have:=hd x;omega⟩
  ·by_cases h2:i=p
   ·subst h2
    rw[e2] at h
    have h:0<cn i x-d x:=h
    have:=hi.one i x
    exact .inr ⟨h1,by omega,fun _=>by omega⟩
   ·rw[e3 i h1 h2] at h;exact .inr ⟨h1,h,fun h3=>absurd h3 h2⟩
 have hext:Ext X w m cn w (upd m ob.length (some (b,k))) cn':=by
  refine ⟨Nat.le_refl _,fun x hx hf=>⟨⟨hf.1,fun i=> ?_⟩,rfl⟩,fun id x h=>⟨?_,rfl⟩⟩
  ·rcases Nat.eq_zero_or_pos (cn' i x) with h|h
   ·exact h
   ·rcases hpos i x h with ⟨_,_,h3⟩|⟨_,h3,_⟩
    ·have:=hf.2 p;omega
    ·have:=hf.2 i;omega
  ·have:=hi.lt_of_map h
   rw[Qu _ _ Zb];exact h
 have hdb:0<d b:=by rw[hc];simp
 refine ⟨⟨hi.le,hi.kept,hi.os,hi.tape,hi.output,fun i o ho=> ?_,fun x i j h1 h2=> ?_,fun i x=> ?_,fun i x h=> ?_,fun i h=> ?_,fun i h=> ?_,fun i x h=> ?_,by simp;have:=hi.n0;omega,hi.shp⟩,hext⟩
 ·by_cases hid:i<ob.length
  ·rw[List.getElem?_append_left (by simpa using hid)] at ho
   by_cases hip:i=p
   ·subst hip
    rw[List.getElem?_set_self hplt] at ho
    cases ho
    rw[e2]
    exact hnew _ _ hext (Q1h _ _ _) (Qu _ _ Zb)
   ·rw[List.getElem?_set_ne (Ne.symm hip)] at ho
    exact (hi.obj i o ho).ext hext (e3 i Zb hip) (Qu _ _ Zb) (fun _ _=>rfl)
  ·have:i=ob.length:=by
    have:=(List.getElem?_eq_some_iff.1 ho).1
    simp at this;omega
   subst this
   simp at ho
   subst ho
   refine .inr ⟨b,cur,el,c,Q1h _ _ _,hb,hk,hl,?_,fun x=>by rw[e1];exact hc x⟩
   exact hR.mono (Nat.le_refl _) hext.fr (fun _ _=>rfl) (.inr rfl) (fun id x h=>by simp[Q1e] at h)
 ·rcases hpos i x h1 with ⟨rfl,a1,a2⟩|⟨a0,a1,a2⟩<;>rcases hpos j x h2 with ⟨rfl,b1,b2⟩|⟨b0,b1,b2⟩
  ·rfl
  ·have:=hi.dis x p j a2 b1;have:=b2 this.symm;omega
  ·have:=hi.dis x p i b2 a1;have:=a2 this.symm;omega
  ·exact hi.dis x i j a1 b1
 ·by_cases h1:i=ob.length
  ·subst h1;rw[e1];have:=hd x;have:=hi.one p x;omega
  ·by_cases h2:i=p
   ·subst h2;rw[e2];have:=hi.one i x;show cn i x-d x≤1;omega
   ·rw[e3 i h1 h2];exact hi.one i x
 ·rcases hpos i x h with ⟨_,_,h3⟩|⟨_,h3,_⟩
  ·exact hi.new p x h3
  ·exact hi.new i x h3
 ·simp at h
  rw[Qu _ _ Zb]
  exact hi.fresh i Zb
 ·rw[Qu _ _ (by have:=hi.n0;omega)];exact hi.pas i h
 ·by_cases hid:i=ob.length
  ·subst hid
   rw[Q1h] at h
   cases h
   exact (Array.getElem?_eq_some_iff.1 hb).1
  ·rw[Qu _ _ hid] at h;exact hi.mlt i x h
def St.expose(p e j:Nat)(s:St):Option St:=
 match s.ob[p]? with
 |some (some (kp,xs))=>match (xs.getD e .junk).cells[j]? with
  |some (.lst true k ys)=>if e<xs.length then
    some ⟨s.tm,s.ob.set p (some (kp,xs.set e (Qe6 (xs.getD e .junk) j [.arr s.ob.length 0 ys.length])))++[some (k,ys)]⟩ else none
  |_=>none
 |_=>none
theorem Le.expose(p e j:Nat){s s':St}(h:s.expose p e j=some s'):Le X s s':=by
 unfold St.expose at h
 split at h
 ·rename_i kp xs hp
  split at h
  ·rename_i k ys hcell
   split at h
   ·rename_i he
    cases h
    intro w m cn a hi hs
    have hplt:=(List.getElem?_eq_some_iff.1 hp).1
    obtain ⟨b,hm⟩: ∃b,m p=some (b,kp):=by
     rcases hi.obj p _ hp with ⟨h0,_,_⟩|⟨b,_,_,_,h1,_⟩
     ·rw[h0] at he;simp at he
     ·exact ⟨b,h1⟩
    obtain ⟨_,cur,el,c,hb,hk,hl,hR,hcn⟩:=hi.object hp hm
    have hE:=Qg7 hk he
    have hjl:j<(xs.getD e .junk).cells.length:=(List.getElem?_eq_some_iff.1 hcell).1
    have hvc:Q2q [V.arr s.ob.length 0 ys.length]=true:=by simp[Q2q,V.cellOK]
    have hcells:=Qe5 (e:=xs.getD e .junk) (j:=j) (vc:=[V.arr s.ob.length 0 ys.length]) Z8z hvc Z3
    have hflat:=Ql8 hk he hcells Z8z
    have hk2:uni kp (xs.set e (Qe6 (xs.getD e .junk) j [V.arr s.ob.length 0 ys.length])):=by
     intro x hx
     rcases List.mem_or_eq_of_mem_set hx with h|h
     ·exact hk x h
     ·rw[h,hcells,List.length_append,List.length_append,List.length_take,List.length_drop];show min j _+1+(_-(j+1))=_;omega
    have hfl:=Q33 hk
    have hq:e*kp+j<(Q1y xs).length:=by
     rw[hfl]
     have:(e+1)*kp≤xs.length*kp:=Nat.mul_le_mul_right kp he
     rw[Nat.add_mul] at this;omega
    have hat:(Q1y xs)[e*kp+j]? =some (.lst true k ys):=by
     rw[Qef he,List.append_assoc,List.getElem?_append_right Z8i,Q2f hk (Nat.le_of_lt he),
      show e*kp+j-e*kp=j from by omega,List.getElem?_append_left hjl]
     exact hcell
    have hsp:Q1y xs=(Q1y xs).take (e*kp+j)++([V.lst true k ys]++(Q1y xs).drop (e*kp+j+1)):=by
     conv=>lhs;rw[←List.take_append_drop (e*kp+j) (Q1y xs)]
     rw[List.drop_eq_getElem_cons hq]
     have:(Q1y xs)[e*kp+j]= .lst true k ys:=by
      have:=List.getElem?_eq_getElem hq
      rw[hat] at this
      exact (Option.some.inj this).symm
     rw[this];rfl
    have hAl:((Q1y xs).take (e*kp+j)).length=e*kp+j:=by rw[List.length_take];omega
    have hRs:=hR
    rw[hsp] at hRs
    obtain ⟨d1,d2,hA,hBC,hd12⟩:=R.split hRs
    rw[hAl,Nat.zero_add] at hBC
    have close: ∀{m':Mp} {cn':Nat→Cnt} {cB cC:Cnt} {u:Value},Ext X w m cn w m' cn'→m' p=m p→w.cell? ⟨b,e*kp+j,none⟩=some u→u.oneCell'=true→R w (frz X cn) m (.cells b (e*kp+j+1) ((Q1y xs).drop (e*kp+j+1))) cC→
      (∀y,d2 y=cB y+cC y)→R w (frz X cn') m' (.one (.arr s.ob.length 0 ys.length) u) z0→Qgh w (frz X cn') m' (fun z=>cn p z-cB z) p (some (kp,xs.set e (Qe6 (xs.getD e .junk) j [V.arr s.ob.length 0 ys.length]))):=by
     intro m' cn' cB cC u hx hm' hcu hone hC hd2 hu
     refine .inr ⟨b,cur,el,fun z=>d1 z+cC z,by rw[hm'];exact hm,hb,hk2,by rw[List.length_set];exact hl,?_,fun z=> ?_⟩
     ·rw[hflat,List.append_assoc]
      refine R.join (c1:=d1) (c2:=cC) (hA.mono (Nat.le_refl _) hx.fr (fun _ _=>rfl) (.inr rfl) hx.mp) ?_
      rw[hAl,Nat.zero_add]
      exact .ccons hcu hone hu (hC.mono (Nat.le_refl _) hx.fr (fun _ _=>rfl) (.inr rfl) hx.mp) (fun z=>by simp[z0])
     ·have q1:=hcn z
      have q2:=hd12 z
      have q3:=hd2 z
      show cn p z-cB z=d1 z+cC z+(if z=b then 1 else 0)
      have q4:=hi.one p z
      by_cases hz:z=b
      ·rw[if_pos hz] at q1⊢;omega
      ·rw[if_neg hz] at q1⊢;omega
    generalize hzz:d2=d2' at hBC
    cases hBC with
    | @ccons _ _ _ _ _ u cB cC _ hcu hone hB hC hd2=>
     cases hB with
     |nil|nilz=>
      obtain ⟨hn1,hn2⟩:=hi.nameNil k
      have hset:=hn1
      have hfin:Qgh w (frz X (upd cn s.ob.length fun _=>0)) m (cn p) p (some (kp,xs.set e (Qe6 (xs.getD e .junk) j [V.arr s.ob.length 0 0]))):=by
       have:=close (cB:=fun _=>0) hn2 rfl hcu hone hC (fun y=>by rw[hzz];exact hd2 y) .arrn
       simpa using this
      refine ⟨m,_,?_,hn2.Sl hs⟩
      have hpne:p≠s.ob.length:=by omega
      refine ⟨hn1.le,hn1.kept,hn1.os,hn1.tape,hn1.output,fun i o ho=> ?_,hn1.dis,hn1.one,hn1.new,fun i h=>hn1.fresh i (by simp at h⊢;omega),hn1.pas,hn1.mlt,by have:=hn1.n0;simp at this⊢;omega,hn1.shp⟩
      by_cases hip:i=p
      ·subst hip
       rw[List.getElem?_append_left (by simpa using hplt),List.getElem?_set_self hplt] at ho
       cases ho
       rw[Qu _ _ hpne]
       exact hfin
      ·refine hn1.obj i o ?_
       by_cases hil:i<s.ob.length
       ·rw[List.getElem?_append_left (by simpa using hil),List.getElem?_set_ne (Ne.symm hip)] at ho
        rw[List.getElem?_append_left hil];exact ho
       ·rw[List.getElem?_append_right (by simpa using Nat.le_of_not_lt hil)] at ho
        rw[List.getElem?_append_right (Nat.le_of_not_lt hil)]
        simpa using ho
     | @own _ _ _ b' cap cur' e' c0 _ hb' hs' hk' hn' hR' hc'=>
      have hcB: ∀z,cB z≤cn p z:=fun z=>by
       have q1:=hcn z
       have q2:=hd12 z
       have q3:=hd2 z
       rw[hzz] at q2
       omega
      have hle:ys.length*k≤cur'.size:=Nat.le_trans (Nat.mul_le_mul_right k hn') hs'
      have hbne:b'≠b:=by
       intro hbb
       have q1:=hcn b'
       have q2:=hd12 b'
       have q3:=hd2 b'
       have q4:=hc' b'
       have q5:=hi.one p b'
       rw[if_pos hbb] at q1
       rw[if_pos rfl] at q4
       rw[hzz] at q2
       omega
      have hcv:=hi.carve (p:=p) (kp:=kp) (xs':=xs.set e (Qe6 (xs.getD e .junk) j [V.arr s.ob.length 0 ys.length])) hp hb' hk' hle hR' hc' hcB (fun m' cn' hx hmN hmp=>
       close hx hmp hcu hone hC (fun y=>by rw[hzz];exact hd2 y) (by
        have hsh:w.shape? b'=some (e',cur'.size):=by simp[World.shape?,hb']
        have:=R.arr (w:=w) (fr:=frz X cn') (m:=m') (id:=s.ob.length) (o:=0) (n:=ys.length) (b:=b') (k:=k) (cap:=cap) hmN hsh hn' (by simpa using hs')
        simpa using this))
      exact ⟨_,_,hcv.1,hcv.2.Sl hs⟩
   ·cases h
  ·cases h
 ·cases h
end
end Go.Ev
namespace Go.Ev
open Go
inductive Tr where
 |tail
 |one (i:Nat) (t:Tr)
 |two (i j:Nat) (t u:Tr)
section
variable {P:Program} {ops:Array Oper} {Q:Exit→Act→World→Prop}
def trB(md:Region.Mode)(ops:Array Oper)(n:Nat):Tr→Nat→Array Bool→Bool
 | .tail,k,listed=>decide (k=0)&&Region.seqB md ops (ops.size-n) n listed
 | .one i t,k,listed=>decide (i<n)&&decide (0<k)&&decide (Region.ready md ops listed=[i])&&trB md ops n t (k-1) (listed.setIfInBounds i true)
 | .two i j t u,k,listed=>decide (i<n)&&decide (j<n)&&decide (0<k)&&decide (Region.ready md ops listed=[i,j])&&trB md ops n t (k-1) (listed.setIfInBounds i true)&&trB md ops n u (k-1) (listed.setIfInBounds j true)
def Qvd(md:Region.Mode)(ops:Array Oper)(n:Nat)(t:Tr)(k:Nat):List Nat→Array Bool→Bool
 |i::A,listed=>decide (i<n)&&(Region.ready md ops listed).contains i&&Region.free md ops listed i&&Qvd md ops n t k A (listed.setIfInBounds i true)
 |[],listed=>trB md ops n t k listed
def Qw8(md:Region.Mode)(ops:Array Oper)(n:Nat)(A:List Nat)(t:Tr):Bool:=
 Region.noSelect ops&&decide (n<ops.size)&&Region.sinkB md ops n&&Region.chainB md ops n&&decide (A.length≤n)&&Qvd md ops n t (n-A.length) A (Array.replicate ops.size false)
def Qhx(P:Program)(ops:Array Oper)(Q:Exit→Act→World→Prop)(S:World→Prop)(n:Nat):Tr→Act→World→Prop
 | .one i t,a,w=>wpOp P ops Q i (fun a' w'=>S w'∧Qhx P ops Q S n t a' w') a w
 | .two i j t u,a,w=>wpOp P ops Q i (fun a' w'=>S w'∧Qhx P ops Q S n t a' w') a w∧wpOp P ops Q j (fun a' w'=>S w'∧Qhx P ops Q S n u a' w') a w
 | .tail,a,w=>wpList P ops Q (ops.toList.drop n) a w
def Q107(P:Program)(ops:Array Oper)(S:World→Prop)(K:Act→World→Prop):List Nat→Act→World→Prop
 |i::A,a,w=> ∃oi v,ops[i]? =some oi∧YieldsIf P ops S oi v a∧Q107 P ops S K A (a.put oi.dst v) w
 |[],a,w=>K a w
theorem Qi0{md:Region.Mode}{S:World→Prop}{n:Nat}(hsel:Region.noSelect ops=true)(hn:n<ops.size)(hs:Region.sinkB md ops n=true)(hc:Region.chainB md ops n=true)(hQ: ∀c a w,¬Q (.panic c) a w):
  ∀(t:Tr) (k:Nat) (listed:Array Bool) (a:Act) (w:World),HeadInv md ops n listed→S w→trB md ops n t k listed=true→Qhx P ops Q S n t a w→
   Q86 P md ops Q S n (k+(ops.size-n)) listed a w
 | .one i t,k,listed,a,w,inv,hS,hB,h=>by
  simp only[trB,Bool.and_eq_true,decide_eq_true_eq] at hB
  obtain ⟨⟨⟨hin,hk⟩,hr⟩,hB⟩:=hB
  rw[show k+(ops.size-n)=(k-1+(ops.size-n))+1 from by omega]
  refine ⟨fun h0=>Z7l,fun j hj=> ?_⟩
  have hmem:=hj
  rw[hr] at hj
  have hji:j=i:=by simpa using hj
  subst hji
  have h:wpOp P ops Q j (fun a' w'=>S w'∧Qhx P ops Q S n t a' w') a w:=h
  exact wpOp_mono (fun a' w' h'=>⟨fun _=>h'.1,Qi0 hsel hn hs hc hQ t _ _ _ _ (inv.set hmem hin) h'.1 hB h'.2⟩) h
 | .two i i2 t u,k,listed,a,w,inv,hS,hB,h=>by
  simp only[trB,Bool.and_eq_true,decide_eq_true_eq] at hB
  obtain ⟨⟨⟨⟨⟨hin,hin2⟩,hk⟩,hr⟩,hB⟩,hB2⟩:=hB
  rw[show k+(ops.size-n)=(k-1+(ops.size-n))+1 from by omega]
  refine ⟨fun h0=>Z7l,fun j hj=> ?_⟩
  have hmem:=hj
  rw[hr] at hj
  have h:wpOp P ops Q i (fun a' w'=>S w'∧Qhx P ops Q S n t a' w') a w∧wpOp P ops Q i2 (fun a' w'=>S w'∧Qhx P ops Q S n u a' w') a w:=h
  have hji:j=i∨j=i2:=by simpa using hj
  rcases hji with rfl|rfl
  ·exact wpOp_mono (fun a' w' h'=>⟨fun _=>h'.1,Qi0 hsel hn hs hc hQ t _ _ _ _ (inv.set hmem hin) h'.1 hB h'.2⟩) h.1
  ·exact wpOp_mono (fun a' w' h'=>⟨fun _=>h'.1,Qi0 hsel hn hs hc hQ u _ _ _ _ (inv.set hmem hin2) h'.1 hB2 h'.2⟩) h.2
 | .tail,k,listed,a,w,inv,hS,hB,h=>by
  simp only[trB,Bool.and_eq_true,decide_eq_true_eq] at hB
  obtain ⟨rfl,hB⟩:=hB
  have h:wpList P ops Q (ops.toList.drop n) a w:=h
  have hlen:(ops.toList.drop n).length=ops.size-n:=by simp
  have:=Q9m (P:=P) (Q:=Q) (md:=md) (S:=S) (n:=n) (ops.toList.drop n) n listed a w (Nat.le_refl _) (fun j=>by simp) (fun h=>by omega) inv.size Zbv h
  rw[hlen] at this
  simpa using this
theorem Qkn{md:Region.Mode}{S:World→Prop}{n:Nat}(hsel:Region.noSelect ops=true)(hn:n<ops.size)(hs:Region.sinkB md ops n=true)(hc:Region.chainB md ops n=true)(hQ: ∀c a w,¬Q (.panic c) a w)(t:Tr)(k:Nat):
  ∀(A:List Nat) (listed:Array Bool) (a:Act) (w:World),HeadInv md ops n listed→S w→Qvd md ops n t k A listed=true→Q107 P ops S (Qhx P ops Q S n t) A a w→
   Q86 P md ops Q S n (A.length+k+(ops.size-n)) listed a w
 |i::A,listed,a,w,inv,hS,hB,⟨oi,v,hi,hy,h⟩=>by
  simp only[Qvd,Bool.and_eq_true,decide_eq_true_eq] at hB
  obtain ⟨⟨⟨hin,hr⟩,hf⟩,hB⟩:=hB
  have hr':i∈Region.ready md ops listed:=by simpa using hr
  have:=Qkn hsel hn hs hc hQ t k A _ _ _ (inv.set hr' hin) hS hB h
  rw[show (i::A).length+k+(ops.size-n)=(A.length+k+(ops.size-n))+1 from by simp;omega]
  exact Qaj hi (Region.noSelect_spec hsel) hs hc hn hin hQ _ listed a w inv (Region.free_spec hi hf) hr' hy hS this
 |[],listed,a,w,inv,hS,hB,h=>by
  have:=Qi0 (P:=P) (Q:=Q) (S:=S) hsel hn hs hc hQ t k listed a w inv hS hB h
  simpa using this
theorem Qqi{id:Nat}{S:World→Prop}{n:Nat}{A:List Nat}{t:Tr}{a:Act}{w:World}(hm:P.follows .mixedOrders=true)(hB:Qw8 .any ops n A t=true)(hQ: ∀c a w,¬Q (.panic c) a w)
  (hS:S {w with drawn:=w.drawn+1}) (h:Q107 P ops S (Qhx P ops Q S n t) A a {w with drawn:=w.drawn+1}):(Code.region id ops true).wp P Q a w:=by
 simp only[Qw8,Bool.and_eq_true,decide_eq_true_eq] at hB
 obtain ⟨⟨⟨⟨⟨hsel,hn⟩,hs⟩,hc⟩,hAB⟩,hhead⟩:=hB
 have inv0:HeadInv .any ops n (Array.replicate ops.size false):=
  ⟨by simp,fun j oj _ hl=>Z6f,fun t _ ht=>getD_in Zag (getD_replicate_false _ _)⟩
 have:=Qkn hsel hn hs hc hQ t (n-A.length) A _ _ _ inv0 hS hhead h
 rw[show A.length+(n-A.length)+(ops.size-n)=ops.size from by omega] at this
 exact wp_region_any hm (Qav _ _ _ _ this)
end
section
variable {P:Program} {X:Ctx} {st s1 s2 s3:St} {Q:Exit→St→Prop} {T:Nat→Option TI} {ls:List Oper} {L:List Nat}
theorem Qmr(hT:TOK P T){n0:Nat}{ops:Array Oper}{w:World}{m:Mp}{cn:Nat→Cnt}{K:Act→World→Prop}:
  ∀{A:List Nat} {st s1:St} {a:Act},Q4q T n0 ops L A st=some s1→Inv X w st.ob m cn→Sl X w m cn st.tm a→a.defers=[]→
   (∀a',Sl X w m cn s1.tm a'→a'.defers=[]→K a' w)→Q107 P ops (Kr X cn L w) K A a w
 |[],st,s1,a,h,hi,hs,hd,hk=>by simp only[Q4q] at h;cases h;exact hk a hs hd
 |i::A,st,s1,a,h,hi,hs,hd,hk=>by
  simp only[Q4q] at h
  split at h
  ·cases h
  ·rename_i o ho
   split at h
   ·rename_i hg
    split at h
    ·rename_i hp
     split at h
     ·rename_i x st' hx
      obtain ⟨u,hu,hR⟩:=(Qi7 (X:=X) (L:=L) hT hx hp.1 hp.2).1 w m cn a hi hs
      refine ⟨o,u,ho,.inl ⟨Q62 hs hg,hu⟩,Qmr hT h hi ?_ (Q3n _ _ hd) hk⟩
      have:=hs.set o.dst hR
      cases hod:o.dst<;>simpa[Q2l,hod] using this
     ·cases h
    ·cases h
   ·rename_i hg
    refine ⟨o,undef,ho,.inr ⟨Q62 hs hg,rfl⟩,Qmr hT h hi ?_ (Q3n _ _ hd) hk⟩
    have:=hs.set o.dst (x:= .tup []) (u:=undef) (.tup .lnil)
    cases hod:o.dst<;>simpa[Q2l,hod] using this
   ·cases h
inductive Qa7 (P:Program) (ops:Array Oper) (L:List Nat):Tr→St→St→Prop
 |tail {s:St}:Qa7 P ops L .tail s s
 |one {i:Nat} {o:Oper} {t:Tr} {s s' s1 s2:St} (ho:ops[i]? =some o) (hL: ∀id∈L,id<s.ob.length)
   (h: ∀X':Ctx,X'.n0=s.ob.length→Q8 P X' ops [o] ⟨s.tm,hid L s.ob⟩ s') (he:(⟨s'.tm,unh s.ob L s'.ob⟩:St)=s1) (ht:Qa7 P ops L t s1 s2):Qa7 P ops L (.one i t) s s2
 |two {i j:Nat} {t u:Tr} {s s2:St} (h1:Qa7 P ops L (.one i t) s s2) (h2:Qa7 P ops L (.one j u) s s2):Qa7 P ops L (.two i j t u) s s2
theorem Q10e{n:Nat}{ops:Array Oper}{Qf:Exit→Act→World→Prop}{w0:World}{cn0:Nat→Cnt}{t:Tr}(h:Qa7 P ops L t st s1):
  ∀{w:World} {m:Mp} {cn:Nat→Cnt} {a:Act},Inv X w st.ob m cn→Sl X w m cn st.tm a→a.defers=[]→Kr X cn0 L w0 w→(∀b,b<w0.heap.size→frz X cn0 b→frz X cn b)→(∀id∈L,cn id=cn0 id)→
   (∀w m cn a,Inv X w s1.ob m cn→Sl X w m cn s1.tm a→a.defers=[]→wpList P ops Qf (ops.toList.drop n) a w)→Qhx P ops Qf (Kr X cn0 L w0) n t a w:=by
 induction h with
 |tail=>intro w m cn a hi hs hd _ _ _ hk;exact hk w m cn a hi hs hd
 |two h1 h2 ih1 ih2=>intro w m cn a hi hs hd hK hF hC hk;exact ⟨ih1 hi hs hd hK hF hC hk,ih2 hi hs hd hK hF hC hk⟩
 | @one i o t s s' s1 s2 ho hL h he ht ih=>
  intro w m cn a hi hs hd hK hF hC hk
  subst he
  obtain ⟨h1,h2⟩:=hi.hide L
  have hs':Sl (Q75 X w m cn L s.ob.length) w m (cnH L cn) s.tm a:=hs.mono (Nat.le_refl _) (fun b hb hf=>⟨h2 b hb hf,rfl⟩) (fun _ _=>rfl) trivial (fun _ _ h=>⟨h,rfl⟩)
  have hr:=h (Q75 X w m cn L s.ob.length) rfl [] (fun e st=>e= .normal∧st=s') (Q8w ⟨rfl,rfl⟩) w m (cnH L cn) a h1 hs' hd
  have step:wpList P ops (post (Q75 X w m cn L s.ob.length) (fun e st=>e= .normal∧st=s')) [o] a w:=hr
  have fin: ∀a' w',post (Q75 X w m cn L s.ob.length) (fun e st=>e= .normal∧st=s') .normal a' w'→Kr X cn0 L w0 w'∧Qhx P ops Qf (Kr X cn0 L w0) n t a' w':=by
   rintro a' w' ⟨st2,m',cn',⟨_,rfl⟩,hi',hs2,hd'⟩
   obtain ⟨u1,u2,u3,u4⟩:=hi.unhide hL hi'
   have hK':Kr X cn0 L w0 w':=⟨Nat.le_trans hK.1 hi'.le,fun b hb hc=>by
    rw[u3 b (Nat.lt_of_lt_of_le hb hK.1) (hc.imp (hF b hb) (fun ⟨id,hid,hc⟩=>⟨id,hid,by rw[hC id hid];exact hc⟩))]
    exact hK.2 b hb hc⟩
   refine ⟨hK',ih u1 (hs2.mono (Nat.le_refl _) (fun b _ hf=>⟨u2 b hf,rfl⟩) (fun _ _=>rfl) trivial (fun _ _ h=>⟨h,rfl⟩)) hd' hK' (fun b hb hf=>u4 b (Nat.lt_of_lt_of_le hb hK.1) (hF b hb hf)) (fun id hid=> ?_) hk⟩
   unfold cnU
   rw[if_pos hid]
   exact hC id hid
  show wpOp P ops Qf i _ a w
  unfold wpOp
  simp only[ho]
  unfold wpList at step
  split
  ·rename_i hw
   rw[if_pos hw] at step
   rcases step with step|⟨_,a',w',st2,m',cn',⟨h0,_⟩,_⟩
   ·exact .inl (Qcq (fun a' w' h=>fin a' w' h) (fun e a' w' hne ⟨st2,m',cn',⟨h0,_⟩,_⟩=>absurd h0 hne) step)
   ·cases h0
  ·rename_i hw
   rw[if_neg hw] at step
   exact fin _ _ step
theorem Q16x{id n:Nat}{A:List Nat}{t:Tr}(hm:P.follows .mixedOrders=true)(hB:Qw8 .any ls.toArray n A t=true)(hT:TOK P T){n0:Nat}(hX:X.n0=n0)(hA:Q4q T n0 ls.toArray L A st=some s1)
  (hH:Qa7 P ls.toArray L t s1 s2) (h2:Q8 P X ls.toArray (ls.drop n) s2 s3) (hq:Q .normal s3):W P X (.region id ls.toArray true) st Q:=by
 intro w m cn a hi hs hd
 have hi':Inv X {w with drawn:=w.drawn+1} st.ob m cn:=hi.drew
 have hs':Sl X {w with drawn:=w.drawn+1} m cn st.tm a:=Ext.drew.Sl hs
 have hob:=Qb0 hA
 refine Code.wp_mono (Q:=Qtq (post X Q)) (fun e a' w' h=> ?_) ?_
 ·cases e<;>exact Z9g
 refine Qqi (S:=Kr X cn L {w with drawn:=w.drawn+1}) hm hB (fun _ _ _ h=>h) (Kr.refl _) (Qmr hT hA hi' hs' hd fun a' hs2 hd2=> ?_)
 refine Q10e hH (hob▸hi') hs2 hd2 (Kr.refl _) (fun _ _ h=>h) (fun _ _=>rfl) (fun w3 m3 cn3 a3 hi3 hs3 hd3=> ?_)
 have:=h2 [] (fun e s=>e= .normal∧Q .normal s) (Q8w ⟨rfl,hq⟩) w3 m3 cn3 a3 hi3 hs3 hd3
 rw[List.append_nil] at this
 refine Q4a (fun a w ⟨s,m,cn,⟨_,h⟩,r⟩=>⟨s,m,cn,h,r⟩) (fun e a w hne ⟨s,m,cn,⟨h0,_⟩,_⟩=>absurd h0 hne) _ _ _ this
theorem Q157{id:Nat}{y:Code}(n:Nat)(A:List Nat)(t:Tr)(ks:List Nat)(L:List Nat)(hm:P.follows .mixedOrders=true)(hB:Qw8 .any ls.toArray n A t=true)(hT:TOK P T){n0:Nat}(hX:X.n0=n0)(hA:Q4q T n0 ls.toArray L A st=some s1)
  (hH:Qa7 P ls.toArray L t s1 s2) (h2:Q8 P X ls.toArray (ls.drop n) s2 s3) (hk:W P X y (s3.keep ks) Q):W P X (.seq (.region id ls.toArray true) y) st Q:=
 Q4 (Q16x hm hB hT hX hA hH h2 (Q15 (Le.keep ks s3) hk))
end
end Go.Ev
namespace Go.Ev
open Go
section
variable {P:Program} {X:Ctx} {st s1 s2:St} {Q:Exit→St→Prop} {r:Nat} {ops:Array Oper}
abbrev rfc (r:Nat):Fence:=Fence.wide.inRound r
theorem Qxg{n r:Nat}{f:FuncId}{args:Array Value}{w:World}{R:Ending→World→Prop}(h:Calls P f args w R):CallsIn (rfc r) n P f args w R:=
 callsIn_wide.2 h
def Qky:List Oper→Bool
 |[]=>true
 |o::l=>(match o.op with| .defer _=>false|_=>true)&&Qky l
theorem Qoj{n:Nat}{Q:Exit→Act→World→Prop}(hq: ∀a w,¬Q .outgrown a w): ∀(l:List Oper),Qky l=true→ ∀(a:Act) (w:World),wpList P ops Q l a w→wpListIn (rfc r) n P ops Q l a w
 |[],_,a,w,h=>h
 |o::l,hd,a,w,h=>by
  simp only[Qky,Bool.and_eq_true] at hd
  have ih:=Qoj (n:=n) hq l hd.2
  have hnd: ∀c,o.op≠ .defer c:=fun c e=>by rw[e] at hd;exact absurd hd.1 Z3
  have hno: ¬LetsOut Q:=fun ⟨a,w,hx⟩=>hq a w hx
  unfold wpList at h
  unfold wpListIn
  split at h
  ·rename_i hw
   rw[if_pos hw]
   have h:o.wp P a w (wpList P ops Q l) Q:=h.resolve_right (fun hx=>hno hx.2)
   refine ⟨fun _ _=>trivial,?_⟩
   show o.uponIn (rfc r) n P a (wpListIn (rfc r) n P ops Q l) Q ((o.semAt (some r) a.eval).run P w)
   rw[Oper.semAt_some r a.eval o hnd]
   unfold Oper.wp at h
   revert h
   generalize (execOp a.eval o).run P w=res
   intro h
   match res,h with
   | .ok (.value v) w',h=>exact ih _ _ h
   | .ok .skip w',h=>exact ih _ _ h
   | .ok (.defer d) w',h=>exact ih _ _ h
   | .ok (.enter f args) w',h=>
    refine ⟨fun hx=>by simp[Fence.wide,Fence.inRound] at hx,Qxg (Calls.mono h ?_)⟩
    intro e w''
    match e with
    | .returned v=>exact fun hx=>ih _ _ hx
    | .panicked c=>exact fun hx=>hx
    | .outgrown=>exact fun hx=>hx
   | .ok (.row row args) w',h=>
    refine ⟨fun hx=>by simp[Fence.wide,Fence.inRound] at hx,fun c cs _=> ?_⟩
    obtain ⟨v,w'',hR,hs⟩:=h c cs
    exact ⟨v,w'',ih _ _ hR,stepsIn_wide.2 hs⟩
   | .ok (.round l' f tmps assign body) w',h=>exact h.elim
   | .halt (.panic v) w',h=>exact h
  ·rename_i hw
   rw[if_neg hw]
   exact ⟨fun _ _=>trivial,ih _ _ h⟩
def WI(P:Program)(X:Ctx)(r:Nat)(c:Code)(st:St)(Q:Exit→St→Prop):Prop:=
 ∀n w m cn a,Inv X w st.ob m cn→Sl X w m cn st.tm a→a.defers=[]→c.wpIn (rfc r) n P (post X Q) a w
theorem Q104(h:Q .normal st):WI P X r .skip st Q:=fun _ _ m cn _ hi hs hd=>wpIn_skip ⟨st,m,cn,h,hi,hs,hd⟩
theorem Q15g{id:Nat}(h:Q (.exit id) st):WI P X r (.exit id) st Q:=fun _ _ m cn _ hi hs hd=>wpIn_exit ⟨st,m,cn,h,hi,hs,hd⟩
theorem Qyt{x y:Code}(h:WI P X r x st (Qg9 (fun s=>WI P X r y s Q) Q)):WI P X r (.seq x y) st Q:=by
 intro n w m cn a hi hs hd
 refine wpIn_seq (wpIn_mono (h n w m cn a hi hs hd) ?_)
 rintro e a' w' ⟨s,m',cn',hq,hi',hs',hd'⟩
 cases e with
 |normal=>exact hq n w' m' cn' a' hi' hs' hd'
 |_=>exact ⟨s,m',cn',hq,hi',hs',hd'⟩
theorem Qsn{id:Nat}{c:Code}(h:WI P X r c st (Qsi id Q)):WI P X r (.block id c) st Q:=by
 intro n w m cn a hi hs hd
 refine wpIn_block (wpIn_mono (h n w m cn a hi hs hd) ?_)
 rintro e a' w' ⟨s,m',cn',hq,hi',hs',hd'⟩
 cases e with
 |exit id'=>
  simp only[Exit.inBlock]
  simp only[Qsi] at hq
  split<;>rename_i hid
  ·rw[if_pos hid] at hq;exact ⟨s,m',cn',hq,hi',hs',hd'⟩
  ·rw[if_neg hid] at hq;exact ⟨s,m',cn',hq,hi',hs',hd'⟩
 |_=>exact ⟨s,m',cn',hq,hi',hs',hd'⟩
theorem Q15h{c:Operand}{x y:Code}{t:Bool}(hc:val st c= .bool t)(h1:t=true→WI P X r x st Q)(h2:t=false→WI P X r y st Q):
  WI P X r (.cond c x y) st Q:=by
 intro n w m cn a hi hs hd
 have hR:=Q14 hs c
 rw[hc] at hR
 have he:a.eval c= .bool t:=by
  generalize a.eval c=u at hR
  cases hR
  rfl
 exact wpIn_cond_split he (fun ht=>h1 ht n w m cn a hi hs hd) (fun ht=>h2 ht n w m cn a hi hs hd)
theorem Qxn{c:Operand}{x y:Code}{t:Bool}{v:V}(h1:t=true→WI P X r x st Q)(h2:t=false→WI P X r y st Q)(hc:val st c=v:=by simp;rfl)(hv:v= .bool t:=by rfl):WI P X r (.cond c x y) st Q:=
 Q15h (hc.trans hv) h1 h2
theorem Q13u{c:Code}(h:Le X st s1)(hk:WI P X r c s1 Q):WI P X r c st Q:=by
 intro n w m cn a hi hs hd
 obtain ⟨m',cn',hi',hs'⟩:=h w m cn a hi hs
 exact hk n w m' cn' a hi' hs' hd
theorem Qw1{id:Nat}(h:Q8 P X ops ops.toList st s1)(hq:Q .normal s1)(hnd:Qky ops.toList=true:=by rfl):WI P X r (.region id ops false) st Q:=by
 intro n w m cn a hi hs hd
 have h1:=h [] (fun e s=>e= .normal∧s=s1) (Q8w ⟨rfl,rfl⟩) w m cn a hi hs hd
 rw[List.append_nil] at h1
 have h2:=Qoj (r:=r) (n:=n) (fun a w hx=>by obtain ⟨_,_,_,⟨hx,_⟩,_⟩:=hx;cases hx) ops.toList hnd a w h1
 refine wpIn_mono (wpIn_region_list (id:=id) h2) ?_
 rintro e a' w' ⟨s,m',cn',⟨rfl,rfl⟩,hr⟩
 exact ⟨s,m',cn',hq,hr⟩
theorem Qhv{id:Nat}{y:Code}(ks:List Nat)(h:Q8 P X ops ops.toList st s1)(hk:WI P X r y (s1.keep ks) Q)(hnd:Qky ops.toList=true:=by rfl):WI P X r (.seq (.region id ops false) y) st Q:=
 Qyt (Qw1 h (Q13u (Le.keep ks s1) hk) hnd)
theorem Q13t{α:Type}{c:Code}(f:α→St)(I:α→Prop)(μ:α→Nat)(a0:α)(h0:Le X st (f a0))(hI:I a0)
  (round: ∀a,I a→WI P X r c (f a) (Qg9 (fun s'=> ∃a',Le X s' (f a')∧I a'∧μ a'<μ a) Q)):WI P X r (.loop c) st Q:=by
 refine Q13u h0 ?_
 intro rm w m cn a hi hs hd
 intro b k cs hro hb hr
 have key: ∀n x,μ x=n→I x→ ∀w m cn a,Inv X w (f x).ob m cn→Sl X w m cn (f x).tm a→a.defers=[]→
   ∃e a' w',post X Q e a' w'∧ArrivesIn (Machine.fenced P (rfc r)) P (lone (b.atR a (.code c:: .inLoop c::k)) cs w) b k cs e a' w':=by
  intro n
  induction n using Nat.strongRecOn with
  |_ n ih=>
   intro x hn hI w m cn a hi hs hd
   obtain ⟨e,a₁,w₁,⟨s₁,m₁,cn₁,hq,hi₁,hs₁,hd₁⟩,harr⟩:=round x hI rm w m cn a hi hs hd b (.inLoop c::k) cs hro hb hr
   cases e with
   |normal=>
    obtain ⟨x',hle,hI₁,hlt⟩:=hq
    obtain ⟨m₂,cn₂,hi₂,hs₂⟩:=hle _ _ _ _ hi₁ hs₁
    obtain ⟨e₂,a₂,w₂,hq₂,harr₂⟩:=ih (μ x') (hn▸hlt) x' rfl hI₁ w₁ m₂ cn₂ a₁ hi₂ hs₂ hd₁
    exact ⟨e₂,a₂,w₂,hq₂,.of_steps (StepsIn.trans harr (.one (fenced_calm hb hr rfl) stepR_inLoop)) harr₂⟩
   |exit id=>exact ⟨_,a₁,w₁,⟨s₁,m₁,cn₁,hq,hi₁,hs₁,hd₁⟩,.pass (x:= .inLoop c) rfl (fun _ _=> .inl Z3) harr⟩
   |goto l=>exact ⟨_,a₁,w₁,⟨s₁,m₁,cn₁,hq,hi₁,hs₁,hd₁⟩,.pass (x:= .inLoop c) rfl (fun _ _=> .inl Z3) harr⟩
   |ret=>exact ⟨_,a₁,w₁,⟨s₁,m₁,cn₁,hq,hi₁,hs₁,hd₁⟩,.pass (x:= .inLoop c) rfl (fun _ _=> .inl Z3) harr⟩
   |panic ch=>exact ⟨_,a₁,w₁,⟨s₁,m₁,cn₁,hq,hi₁,hs₁,hd₁⟩,.pass (x:= .inLoop c) rfl (fun _ _=> .inl Z3) harr⟩
   |outgrown=>exact ⟨_,a₁,w₁,⟨s₁,m₁,cn₁,hq,hi₁,hs₁,hd₁⟩,.pass (x:= .inLoop c) rfl (fun _ _=> .inl Z3) harr⟩
 obtain ⟨e,a',w',hq,harr⟩:=key _ a0 rfl hI w m cn a hi hs hd
 exact ⟨e,a',w',hq,.of_steps (.one (fenced_calm hb hr rfl) stepR_loop) harr⟩
theorem Q13s{α:Type}{c:Code}(ks:List Nat)(u:α→List (Nat×V))(uo:α→List (Nat×Ob))(I:α→Prop)(μ:α→Nat)(a0:α){f:α→St}
  (hf: ∀a,(st.keep ks).upd (u a) (uo a)=f a) (h0:st.keep ks=f a0) (hI:I a0)
  (round: ∀a,I a→WI P X r c (f a) (Qg9 (fun s'=> ∃a',Le X s' (f a')∧I a'∧μ a'<μ a) Q)):WI P X r (.loop c) st Q:=
 Q13t f I μ a0 (Le.trans (Le.keep ks st) (Le.of_eq h0)) hI round
end
end Go.Ev
namespace Go.Ev
open Go
section
variable {P:Program} {X:Ctx} {T:Nat→Option TI} {st:St} {w w':World} {m:Mp} {cn:Nat→Cnt} {ob:List Ob} {tm:List V} {a:Act}
theorem Qgh.world{fr fr':Nat→Prop}{cnt:Cnt}{id:Nat}{o:Ob}(hsz:w.heap.size≤w'.heap.size)(hf: ∀b,b<w.heap.size→fr b→fr' b∧w'.heap[b]? =w.heap[b]?)
  (hc: ∀b,0<cnt b→w'.heap[b]? =w.heap[b]?) (hm: ∀id x,m id=some x→w'.shape? x.1=w.shape? x.1) (h:Qgh w fr m cnt id o):Qgh w' fr' m cnt id o:=by
 cases o with
 |none=>trivial
 |some p=>
  rcases h with h|⟨b,cur,e,c,h1,h2,h3,h4,h5,h6⟩
  ·exact .inl h
  ·have hb:w'.heap[b]? =w.heap[b]? :=hc b (by rw[h6];simp)
   exact .inr ⟨b,cur,e,c,h1,hb.trans h2,h3,h4,h5.mono hsz hf (fun x hx=>hc x (by rw[h6];omega)) (.inr hb) (fun id x hx=>⟨hx,hm id x hx⟩),h6⟩
theorem Qjh{b:Nat}(h:w'.heap[b]? =w.heap[b]?):w'.shape? b=w.shape? b:=by simp only[World.shape?,h]
def Qkx:Obj→Bool
 | .cells .. =>false
 |_=>true
theorem Qtj{b:Nat}{o:Obj}(h:w.heap[b]? =some o)(ho:Qkx o=true):w.shape? b=none:=by
 unfold World.shape?;rw[h];cases o<;>first|rfl|cases ho
def JB(X:Ctx)(r:Nat)(o:Obj)(w:World)(cn:Nat→Cnt):Prop:=
 r<X.w0.heap.size∧X.own0 r∧ ¬X.fr0 r∧w.heap[r]? =some o∧Qkx o=true∧ ∀id,cn id r=0
theorem JB.update{r:Nat}{o o':Obj}(hi:Inv X w ob m cn)(hs:Sl X w m cn tm a)(hj:JB X r o w cn)(ho:Qkx o'=true):
  Inv X (w.putObj r o') ob m cn∧Sl X (w.putObj r o') m cn tm a∧JB X r o' (w.putObj r o') cn:=by
 obtain ⟨j1,j2,j3,j4,j5,j6⟩:=hj
 have hlt:r<w.heap.size:=(Array.getElem?_eq_some_iff.1 j4).1
 have s1:(w.putObj r o').heap[r]? =some o':=World.putObj_heap_same hlt
 have s2: ∀b,b≠r→(w.putObj r o').heap[b]? =w.heap[b]? :=fun b hb=>World.putObj_heap_other hb
 have hsh: ∀b,(w.putObj r o').shape? b=w.shape? b:=fun b=>by
  by_cases hb:b=r
  ·subst hb;rw[Qtj s1 ho,Qtj j4 j5]
  ·exact Qjh (s2 b hb)
 have hfz: ∀b,frz X cn b→b≠r:=by
  rintro b ⟨h1,_⟩ rfl
  rcases h1 with h1|h1
  ·exact j3 h1
  ·omega
 have hsz:w.heap.size≤(w.putObj r o').heap.size:=by simp[World.putObj]
 have hown: ∀i b,0<cn i b→b≠r:=by rintro i b h rfl;rw[j6 i] at h;omega
 refine ⟨⟨Nat.le_trans hi.le hsz,fun b hb ho=> ?_,hi.os,hi.tape,hi.output,fun i o ho=> ?_,hi.dis,hi.one,fun i b h=>⟨Nat.lt_of_lt_of_le (hi.new i b h).1 hsz,(hi.new i b h).2⟩,hi.fresh,hi.pas,fun id x hx=>Nat.lt_of_lt_of_le (hi.mlt id x hx) hsz,hi.n0,fun b hb=> ?_⟩,?_,j1,j2,j3,s1,ho,j6⟩
 ·rw[s2 b (fun e=>ho (e▸j2))];exact hi.kept b hb ho
 ·exact (hi.obj i o ho).world hsz (fun b _ hf=>⟨hf,s2 b (hfz b hf)⟩) (fun b hb=>s2 b (hown i b hb)) (fun _ _ _=>hsh _)
 ·rw[hsh];exact hi.shp b hb
 ·exact R.mono hs hsz (fun b _ hf=>⟨hf,s2 b (hfz b hf)⟩) (fun b hb=>absurd hb Z2z) trivial (fun id x hx=>⟨hx,hsh _⟩)
def Qil(X:Ctx)(w W:World)(m:Mp)(cn:Nat→Cnt)(n:Nat):Ctx:=
 ⟨W,fun b=>b<w.heap.size∧frz X cn b,fun b=>(∃id,0<cn id b)∨w.heap.size≤b,m,n⟩
theorem Inv.lay{W:World}(hi:Inv X w ob m cn)(hs:Sl X w m cn tm a)(hsz:w.heap.size≤W.heap.size)(hsame: ∀b,b<w.heap.size→W.heap[b]? =w.heap[b]?){nn:Nat}(hnn:nn≤ob.length):
  Inv (Qil X w W m cn nn) W ob m cn∧Sl (Qil X w W m cn nn) W m cn tm a∧ ∀r o,w.heap.size≤r→W.heap[r]? =some o→Qkx o=true→JB (Qil X w W m cn nn) r o W cn:=by
 have hown: ∀i b,0<cn i b→b<w.heap.size:=fun i b h=>(hi.new i b h).1
 have hfr: ∀b,b<w.heap.size→frz X cn b→frz (Qil X w W m cn nn) cn b∧W.heap[b]? =w.heap[b]? :=fun b hb hf=>⟨⟨.inl ⟨hb,hf⟩,hf.2⟩,hsame b hb⟩
 have hm: ∀id x,m id=some x→W.shape? x.1=w.shape? x.1:=fun id x hx=>Qjh (hsame _ (hi.mlt id x hx))
 refine ⟨⟨Nat.le_refl _,fun _ _ _=>rfl,rfl,rfl,rfl,fun i o ho=> ?_,hi.dis,hi.one,fun i b h=>⟨Nat.lt_of_lt_of_le (hown i b h) hsz,.inr (.inl ⟨i,h⟩)⟩,hi.fresh,fun _ _=>rfl,fun id x hx=>Nat.lt_of_lt_of_le (hi.mlt id x hx) hsz,hnn,fun _ _=>rfl⟩,?_,fun r o hr hro hn=> ?_⟩
 ·exact (hi.obj i o ho).world hsz hfr (fun b hb=>hsame b (hown i b hb)) hm
 ·exact R.mono hs hsz hfr (fun b hb=>absurd hb Z2z) trivial (fun id x hx=>⟨hx,hm id x hx⟩)
 ·refine ⟨(Array.getElem?_eq_some_iff.1 hro).1,.inr hr,fun h=> ?_,hro,hn,fun id=> ?_⟩
  ·have:r<w.heap.size:=h.1
   omega
  ·rcases Nat.eq_zero_or_pos (cn id r) with h0|h0
   ·exact h0
   ·have:=hown id r h0;omega
theorem JB.other{r q:Nat}{o2 o':Obj}(hq:q≠r)(hj:JB X q o2 w cn):JB X q o2 (w.putObj r o') cn:=
 ⟨hj.1,hj.2.1,hj.2.2.1,(World.putObj_heap_other hq).trans hj.2.2.2.1,hj.2.2.2.2.1,hj.2.2.2.2.2⟩
theorem Inv.back{W:World}{ob':List Ob}{m':Mp}{cn':Nat→Cnt}(hi:Inv X w ob m cn)(hsz:w.heap.size≤W.heap.size)(hsame: ∀b,b<w.heap.size→W.heap[b]? =w.heap[b]?)
  (hos:W.os=w.os) (htp:W.tape=w.tape) (hou:W.output=w.output) {nn:Nat} (hnn:X.n0≤nn) (h:Inv (Qil X w W m cn nn) w' ob' m' cn'):
  Inv X w' ob' m' cn'∧ ∀b,frz (Qil X w W m cn nn) cn' b→frz X cn' b:=by
 have hle:W.heap.size≤w'.heap.size:=h.le
 have hXw:=hi.le
 have hfr: ∀b,frz (Qil X w W m cn nn) cn' b→frz X cn' b:=by
  rintro b ⟨h1,h2⟩
  rcases h1 with ⟨_,h1⟩|h1
  ·exact ⟨h1.1,h2⟩
  ·have h1:W.heap.size≤b:=h1
   exact ⟨.inr Zb,h2⟩
 have hnot: ∀b,b<X.w0.heap.size→ ¬X.own0 b→ ¬(Qil X w W m cn nn).own0 b:=by
  rintro b hb ho (⟨id,hid⟩|hw)
  ·rcases (hi.new id b hid).2 with h|h
   ·omega
   ·exact ho h
  ·omega
 refine ⟨⟨by omega,fun b hb ho=> ?_,h.os.trans (hos.trans hi.os),h.tape.trans (htp.trans hi.tape),h.output.trans (hou.trans hi.output),fun i o ho=>(h.obj i o ho).mono (fun b _ hf=>hfr b hf),h.dis,h.one,fun i b hb=>⟨(h.new i b hb).1,?_⟩,
  h.fresh,fun id hid=> ?_,h.mlt,Nat.le_trans hnn h.n0,fun b hb=> ?_⟩,hfr⟩
 ·have h1:w'.heap[b]? =W.heap[b]? :=h.kept b (show b<W.heap.size by omega) (hnot b hb ho)
  rw[h1,hsame b Zb];exact hi.kept b hb ho
 ·rcases (h.new i b hb).2 with h1|⟨id,h1⟩|h1
  ·have h1:W.heap.size≤b:=h1
   exact .inl Zb
  ·exact (hi.new id b h1).2
  ·exact .inl Zb
 ·have h1:m' id=m id:=h.pas id (show id<nn from Nat.lt_of_lt_of_le hid hnn)
  rw[h1];exact hi.pas id hid
 ·have h1:w'.shape? b=W.shape? b:=h.shp b (show b<W.heap.size by omega)
  rw[h1,Qjh (hsame b Zb)];exact hi.shp b hb
theorem Qqt{ob':List Ob}{m':Mp}{cn':Nat→Cnt}{nn:Nat}(hnn:X.n0≤nn)(hi:Inv X w ob m cn)(h:Inv (Qil X w w m cn nn) w' ob' m' cn'):
  Inv X w' ob' m' cn'∧(∀r o,JB X r o w cn→JB X r o w' cn')∧(∀b,b<w.heap.size→frz X cn b→frz X cn' b∧w'.heap[b]? =w.heap[b]?)∧
   ∀id,id<nn→m' id=m id∧ ∀x,m id=some x→w'.shape? x.1=w.shape? x.1:=by
 obtain ⟨g1,g2⟩:=hi.back (Nat.le_refl _) (fun _ _=>rfl) rfl rfl rfl hnn h
 have hnew: ∀id b,0<cn' id b→b<w.heap.size→ ∃k,0<cn k b:=fun id b hb hlt=>by
  rcases (h.new id b hb).2 with h1|h1|h1
  ·have h1:w.heap.size≤b:=h1
   omega
  ·exact h1
  ·omega
 have hkept: ∀b,b<w.heap.size→(∀id,cn id b=0)→w'.heap[b]? =w.heap[b]? :=fun b hb h0=>h.kept b hb (by
  rintro (⟨id,hid⟩|h1)
  ·rw[h0 id] at hid;omega
  ·omega)
 have hz: ∀b,b<w.heap.size→(∀id,cn id b=0)→ ∀id,cn' id b=0:=fun b hb h0 id=>by
  rcases Nat.eq_zero_or_pos (cn' id b) with h1|h1
  ·exact h1
  ·obtain ⟨k,hk⟩:=hnew id b h1 hb
   rw[h0 k] at hk;omega
 refine ⟨g1,fun r o ⟨j1,j2,j3,j4,j5,j6⟩=> ?_,fun b hb hf=>⟨⟨hf.1,hz b hb hf.2⟩,hkept b hb hf.2⟩,fun id hid=>⟨h.pas id hid,fun x hx=>h.shp _ (hi.mlt id x hx)⟩⟩
 have hbw:r<w.heap.size:=Nat.lt_of_lt_of_le j1 hi.le
 exact ⟨j1,j2,j3,(hkept r hbw j6).trans j4,j5,hz r hbw j6⟩
theorem Sl.after{nn:Nat}{m':Mp}{cn':Nat→Cnt}(hs:Sl X w m cn tm a)(hl:limL nn tm=true)(hsz:w.heap.size≤w'.heap.size)(hf: ∀b,b<w.heap.size→frz X cn b→frz X cn' b∧w'.heap[b]? =w.heap[b]?)
  (hm: ∀id,id<nn→m' id=m id∧ ∀x,m id=some x→w'.shape? x.1=w.shape? x.1):Sl X w' m' cn' tm a:=by
 have h1:R w (frz X cn) (fun id=>if id<nn then m id else none) (.list tm a.tmps.toList) z0:=R.limM (n:=nn) (fun id hid=>by simp[hid]) hs hl
 refine R.mono h1 hsz hf (fun b hb=>absurd hb Z2z) trivial (fun id x hx=> ?_)
 have hx:(if id<nn then m id else none)=some x:=hx
 split at hx
 ·rename_i hid
  exact ⟨(hm id hid).1.trans hx,(hm id hid).2 x hx⟩
 ·cases hx
end
end Go.Ev
namespace Go.Ev
open Go
section
variable {P:Program} {X:Ctx} {w w':World} {m:Mp} {cn:Nat→Cnt} {ob:List Ob} {tm:List V} {a:Act}
theorem Q9g{w:World}{o:Obj}{k:Nat}(h:k<w.heap.size):(w.alloc o).heap[k]? =w.heap[k]? :=(MapKept.heap_alloc w o).2 k h
theorem Qzv{A B:World}{p:Addr}(h:B.heap[p.block]? =A.heap[p.block]?):B.cell? p=A.cell? p:=by simp[World.cell?,h]
theorem Quc{fr:Nat→Prop}{m:Mp}{b:Nat}: ∀{xs:List (List UInt8)} {off:Nat} {c:Cnt},R w fr m (.cells b off (Q1y (xs.map V.str))) c→ ∀j (h:j<xs.length),w.cell? ⟨b,off+j,none⟩=some (.string ⟨(xs[j]).toArray⟩)
 |[],_,_,_,j,h=>by simp at h
 |x::xs,off,c,hR,j,h=>by
  rw[List.map_cons,flat_cons] at hR
  have hR:R w fr m (.cells b off (V.str x::Q1y (xs.map V.str))) c:=hR
  cases hR with
  |ccons hc h1c h1 h2 he=>
   cases j with
   |zero=>cases h1;exact hc
   |succ j=>
    have:=Quc h2 j Z49
    rw[show off+(j+1)=off+1+j from by omega]
    exact this
theorem Q14w{fr:Nat→Prop}{gf:FuncId}{xs:List (List UInt8)}{u:Value}{c:Cnt}(h:R w fr m (.one (.clo (.func gf) [] [.fp [.lst false 1 (xs.map V.str)]]) u) c):
  ∃Bs bo,u= .func (.func gf) #[] #[.pointer (some ⟨Bs,bo,none⟩)]∧Bs<w.heap.size∧fr Bs∧ ∃ad cap,w.cell? ⟨Bs,bo,none⟩=some (.slice ad xs.length cap)∧
   ∃b,b<w.heap.size∧fr b∧(xs.length=0∨ ∃off,ad=some ⟨b,off,none⟩∧ ∀j (h:j<xs.length),w.cell? ⟨b,off+j,none⟩=some (.string ⟨(xs[j]).toArray⟩)):=by
 cases h with
 |clo h1 h2 he=>
  cases h1
  cases h2 with
  |lcons h3 h4 he2=>
   cases h4
   cases h3 with
   |fp hl hb h5=>
    cases h5 with
    |ccons hc h1c h6 h7 he3=>
     rename_i Bs bo u _ _
     refine ⟨Bs,bo,rfl,hl,hb,?_⟩
     generalize hy:V.lst false 1 (xs.map V.str)=y at h6
     cases h6 with
     |nil=>
      have hx:xs.map V.str=[]:=by injection hy
      have hx:xs=[]:=by simpa using hx
      subst hx
      exact ⟨_,_,hc,Bs,hl,hb,.inl rfl⟩
     |nilz=>
      have hx:xs.map V.str=[]:=by injection hy
      have hx:xs=[]:=by simpa using hx
      subst hx
      exact ⟨_,_,hc,Bs,hl,hb,.inl rfl⟩
     |frz hl2 hb2 hk hn h8=>
      injection hy with e1 e2 e3
      subst e2
      subst e3
      refine ⟨_,_,by rw[List.length_map] at hc;exact hc,_,hl2,hb2,.inr ⟨_,rfl,Quc h8⟩⟩
     |_=>cases hy
def Qyu(P:Program)(gf:FuncId):Prop:=
 ∀(l Bs bo b len cap:Nat) (ad:Option Addr) (gv:Nat→Value) (J:Nat→World→Prop) (W:World),len≤1099511627776→
  W.cell? ⟨Bs,bo,none⟩=some (.slice ad len cap)→(len=0∨ ∃off,ad=some ⟨b,off,none⟩∧ ∀j,j<len→W.cell? ⟨b,off+j,none⟩=some (gv j))→
  (∀k W,J k W→k<len→YieldAt Fence.wide 0 P l #[.int .i64 ((len:Int)-1-(k:Int)),gv (len-1-k)] W fun e W'=>
   e= .returned (.bool true)∧J (k+1) W'∧W'.heap[Bs]? =W.heap[Bs]? ∧W'.heap[b]? =W.heap[b]?)→
  J 0 W→CallsIn Fence.wide 1 P gf (#[.func (.yield l) #[] #[]]++ #[.pointer (some ⟨Bs,bo,none⟩)]) W fun e W'=>(∃v,e= .returned v)∧J len W'
def tmR(tm:List V)(p1 p2 q:Tmp)(i:Int)(s:List UInt8):List V:=
 let t:=(tm.set p1 (.int .i64 i)).set p2 (.str s)
 t.set q (val ⟨t,[]⟩ (.tmp p2))
theorem Q10m{gf:FuncId}{g:Operand}{p1 p2 q:Tmp}{assign body:Code}{xs:List (List UInt8)}{fo:Nat→List Ob}{nn:Nat}{B:Exit→Act→World→Prop}
  (eg: ∀args w,(callFunc gf args).run P w= .ok (.enter gf args) w) (hback:Qyu P gf)
  (hg:val ⟨tm,fo 0⟩ g= .clo (.func gf) [] [.fp [.lst false 1 (xs.map V.str)]]) (hxs:xs.length≤1099511627776)
  (ha: ∀(r:Nat) (W:World) (a0:Act) (K:Act→World→Prop),K (a0.put (some q) (a0.eval (.tmp p2))) W→assign.wpIn (rfc r) 0 P (Exit.then K (fun _ _ _=>False)) a0 W)
  (hlim:limL nn tm=true) (hnn: ∀k,nn≤(fo k).length) (hX:X.n0≤nn)
  (hbody: ∀(r k:Nat) (hk:k<xs.length) (X':Ctx),X'.n0=nn→WI P X' r body ⟨tmR tm p1 p2 q ((xs.length:Int)-1-(k:Int)) (xs[xs.length-1-k]'Zb),fo k⟩ (fun e s=>e= .normal∧ ∃s',Le X' s s'∧s'.ob=fo (k+1)))
  (hi:Inv X w (fo 0) m cn) (hs:Sl X w m cn tm a) (hd:a.defers=[])
  (hfin: ∀(D:Nat) (X1:Ctx) (W':World) (m':Mp) (cn':Nat→Cnt),X1.n0=nn→Inv X1 W' (fo xs.length) m' cn'→Sl X1 W' m' cn' tm a→JB X1 D (.deferred (some [])) W' cn'→
   (∀w2 ob2 m2 cn2,Inv X1 w2 ob2 m2 cn2→Inv X w2 ob2 m2 cn2∧ ∀b,frz X1 cn2 b→frz X cn2 b)→B .normal {a with defers:=[{target:= .collected D,args:= #[]}]} W'):
  (Code.rangeFunc g #[p1,p2] assign body).wp P B a w:=by
 refine wpIn_wide.1 (wpIn_rangeFunc (F:=Fence.wide) (n:=2) fun fn _=> ?_)
 have hR:=Q14 (st:=⟨tm,fo 0⟩) hs g
 rw[hg] at hR
 obtain ⟨Bs,bo,hge,hBl,hBf,ad,cap,hc,b,hbl,hbf,hel⟩:=Q14w hR
 obtain ⟨rec,hrec⟩: ∃rec:LoopState→Loop,rec=fun st=>{state:=st,pending:=none,fn,tmps:=a.tmps,params:= #[p1,p2],assign,body,defers:=w.heap.size}:=⟨_,rfl⟩
 obtain ⟨W1,hW1⟩: ∃W1,(w.alloc (.deferred (some []))).alloc (.loop (rec .ready))=W1:=⟨_,rfl⟩
 have hsz:w.heap.size≤W1.heap.size:=by rw[←hW1];simp;omega
 have hsame: ∀x,x<w.heap.size→W1.heap[x]? =w.heap[x]? :=fun x hx=>by
  rw[←hW1];exact (Q9g Z3l).trans (Q9g hx)
 have hD1:W1.heap[w.heap.size]? =some (.deferred (some [])):=by
  rw[←hW1];exact (Q9g Z3).trans (World.alloc_heap_new w _)
 have hL1:W1.heap[w.heap.size+1]? =some (.loop (rec .ready)):=by
  rw[←hW1];have:=World.alloc_heap_new (w.alloc (.deferred (some []))) (.loop (rec .ready));rwa [World.size_alloc] at this
 obtain ⟨i1,s1,jb⟩:=hi.lay hs hsz hsame (hnn 0)
 have hback1: ∀w2 ob2 m2 cn2,Inv (Qil X w W1 m cn nn) w2 ob2 m2 cn2→Inv X w2 ob2 m2 cn2∧ ∀b,frz (Qil X w W1 m cn nn) cn2 b→frz X cn2 b:=
  fun w2 ob2 m2 cn2 h=>hi.back hsz hsame (by rw[←hW1];rfl) (by rw[←hW1];rfl) (by rw[←hW1];rfl) hX h
 have hX1:(Qil X w W1 m cn nn).n0=nn:=rfl
 have fB:frz (Qil X w W1 m cn nn) cn Bs:=⟨.inl ⟨hBl,hBf⟩,hBf.2⟩
 have fb:frz (Qil X w W1 m cn nn) cn b:=⟨.inl ⟨hbl,hbf⟩,hbf.2⟩
 have jD:=jb _ _ (Nat.le_refl _) hD1 rfl
 have jL:=jb (w.heap.size+1) _ Zb hL1 rfl
 have hx0: ∀x,x<w.heap.size→x≠w.heap.size+1:=fun x hx=>by omega
 generalize Qil X w W1 m cn nn=X1 at*
 refine ⟨w.heap.size+1,[{target:= .collected w.heap.size,args:= #[]}],W1,{target:= .fn (.func gf) #[.pointer (some ⟨Bs,bo,none⟩)],args:= #[.func (.yield (w.heap.size+1)) #[] #[]]},W1,gf,
  #[.func (.yield (w.heap.size+1)) #[] #[]]++ #[.pointer (some ⟨Bs,bo,none⟩)],W1,?_,?_,fun _ _=>trivial,?_,fun h=>by simp[Fence.wide] at h,?_⟩
 ·rw[←hW1,hrec];exact run_enterLoop_outer _ _ _ _ _
 ·simp only[resolve,hge]
  simp[go_sem]
 ·simp[invoke,go_sem,eg]
 ·refine (hback (w.heap.size+1) Bs bo b xs.length cap ad (fun j=> .string ⟨(xs.getD j []).toArray⟩)
   (fun k W=> ∃m' cn',Inv X1 W (fo k) m' cn'∧Sl X1 W m' cn' tm a∧JB X1 w.heap.size (.deferred (some [])) W cn'∧JB X1 (w.heap.size+1) (.loop (rec .ready)) W cn'∧frz X1 cn' Bs∧frz X1 cn' b∧w.heap.size≤W.heap.size)
   W1 hxs ((Qzv (hsame Bs hBl)).trans hc) ?_ ?_ ⟨m,cn,i1,s1,jD,jL,fB,fb,hsz⟩).mono ?_
  ·rcases hel with h0|⟨off,e1,e2⟩
   ·exact .inl h0
   ·refine .inr ⟨off,e1,fun j hj=>(Qzv (hsame b hbl)).trans ?_⟩
    rw[e2 j hj];simp[hj]
  ·rintro k W ⟨m',cn',hi',hs',jD',jL',fB',fb',hsW⟩ hk
   have hl:W.heap[w.heap.size+1]? =some (.loop (rec .ready)):=jL'.2.2.2.1
   have hlt:w.heap.size+1<W.heap.size:=(Array.getElem?_eq_some_iff.1 hl).1
   have hgv:xs.getD (xs.length-1-k) []=xs[xs.length-1-k]'Zb:=by
    rw[List.getD_eq_getElem?_getD,List.getElem?_eq_getElem Zb];rfl
   have hy:=run_yield (P:=P) (args:= #[Value.int .i64 ((xs.length:Int)-1-(k:Int)),.string ⟨(xs.getD (xs.length-1-k) []).toArray⟩]) hl (by rw[hrec];rfl)
   rw[hrec] at hy
   refine ⟨fn,_,assign,body,hy,roundIn_of_wpIn trivial (ha _ W _ _ ⟨_,run_beginRound hl (by rw[hrec]),?_⟩)⟩
   obtain ⟨i2,s2,jL2⟩:=jL'.update hi' hs' (o':= .loop {rec .ready with state:= .busy}) rfl
   have jD2:=jD'.other (r:=w.heap.size+1) (o':= .loop {rec .ready with state:= .busy}) Zb
   have hP: ∀x,x<w.heap.size→(W.putObj (w.heap.size+1) (.loop {rec .ready with state:= .busy})).heap[x]? =W.heap[x]? :=fun x hx=>World.putObj_heap_other (hx0 x hx)
   have hz2:(W.putObj (w.heap.size+1) (.loop {rec .ready with state:= .busy})).heap.size=W.heap.size:=by simp[World.putObj]
   generalize W.putObj (w.heap.size+1) (.loop {rec .ready with state:= .busy})=W2 at*
   have t1:=s2.set (some p1) (x:= .int .i64 ((xs.length:Int)-1-(k:Int))) (.int _ _)
   have t2:=t1.set (some p2) (x:= .str (xs.getD (xs.length-1-k) [])) (.str _)
   have t3:=t2.set (some q) (Q14 (st:=⟨_,[]⟩) t2 (.tmp p2))
   rw[hgv] at t3
   obtain ⟨i4,s4,_⟩:=i2.lay t3 (Nat.le_refl _) (fun _ _=>rfl) (hnn k)
   refine wpIn_mono (hbody _ k hk _ rfl 0 W2 m' cn' _ i4 (by
    rw[hgv]
    have e0: ∀v1 v2:Value,Array.foldl (fun (tmps:Array Value) (x:Tmp×Value)=>match x with|(t,a)=>tmps.setIfInBounds t a) a.tmps (#[p1,p2].zip #[v1,v2])=(a.tmps.setIfInBounds p1 v1).setIfInBounds p2 v2:=fun v1 v2=>by simp
    dsimp only
    rw[e0]
    exact s4) rfl) ?_
   rintro e a3 W3 ⟨s,m3,cn3,⟨rfl,s',hle,hob⟩,hi3,hs3,_⟩
   obtain ⟨m3,cn3,hi3,_⟩:=hle _ _ _ _ hi3 hs3
   rw[hob] at hi3
   obtain ⟨i5,j5,f5,m5⟩:=Qqt (Nat.le_of_eq hX1) i2 hi3
   have jL5:=j5 _ _ jL2
   have jD5:=j5 _ _ jD2
   have hl3:=jL5.2.2.2.1
   have hBW:Bs<W2.heap.size:=by omega
   have hbW:b<W2.heap.size:=by omega
   obtain ⟨u1,u2,u3⟩:=jL5.update i5 (s2.after hlim hi3.le f5 m5) (o':= .loop (rec .ready)) rfl
   refine ⟨_,_,run_endRound (P:=P) none hl3,rfl,?_,?_,?_⟩
   ·rw[hrec] at u1 u2 u3⊢
    refine ⟨m3,cn3,u1,u2,jD5.other Zb,u3,(f5 Bs hBW fB').1,(f5 b hbW fb').1,?_⟩
    have h9:W2.heap.size≤W3.heap.size:=hi3.le
    simp[World.putObj];omega
   ·rw[World.putObj_heap_other (hx0 Bs hBl),(f5 Bs hBW fB').2,hP Bs hBl]
   ·rw[World.putObj_heap_other (hx0 b hbl),(f5 b hbW fb').2,hP b hbl]
  ·rintro e W2 ⟨⟨v,rfl⟩,m',cn',hi',hs',jD',jL',_⟩
   have hl:W2.heap[w.heap.size+1]? =some (.loop (rec .ready)):=jL'.2.2.2.1
   refine ⟨none,W2.putObj (w.heap.size+1) (.loop (rec .exhausted)),?_,?_⟩
   ·have:=run_endLoop (P:=P) hl (by rw[hrec];simp)
    rw[hrec] at this⊢;exact this
   ·obtain ⟨u1,u2,u3⟩:=jL'.update hi' hs' (o':= .loop (rec .exhausted)) rfl
    rw[hd]
    exact hfin w.heap.size X1 _ m' cn' hX1 u1 u2 (jD'.other Zb) hback1
end
end Go.Ev
namespace Go.Ev
open Go
section
variable {P:Program} {X:Ctx} {T:Nat→Option TI} {ops:Array Oper}
theorem Qul(hT:TOK P T){n0:Nat}(hX:X.n0=n0){ds:List Deferred}{Q:Exit→Act→World→Prop}{s1:St}
  (hq: ∀w m cn a,Inv X w s1.ob m cn→Sl X w m cn s1.tm a→a.defers=ds→Q .normal a w): ∀{l:List Oper} {st:St},Qgc T n0 ops l st=some s1→
   ∀w m cn a,Inv X w st.ob m cn→Sl X w m cn st.tm a→a.defers=ds→wpList P ops Q l a w
 |[],st,h,w,m,cn,a,hi,hs,hd=>by simp only[Qgc] at h;cases h;exact hq w m cn a hi hs hd
 |o::l,st,h,w,m,cn,a,hi,hs,hd=>by
  simp only[Qgc] at h
  split at h
  ·rename_i hg
   split at h
   ·rename_i x st2 hx
    obtain ⟨nx,u,w',m',cn',hrun,hnx,hi',hs',hR⟩:=Qqw (P:=P) hT hX hx w m cn a hi hs
    refine wpList_step fun K hK=> ?_
    rw[Q62 hs hg,if_pos rfl]
    have hs2:Sl X w' m' cn' (Q2l o.dst x st2.tm) (a.put o.dst u):=by
     have:=hs'.set o.dst hR
     cases ho:o.dst<;>simpa[Q2l,ho] using this
    have hd2:(a.put o.dst u).defers=ds:=by cases ho:o.dst<;>simpa[Act.put] using hd
    unfold Oper.wp
    rw[hrun]
    rcases hnx with rfl|⟨rfl,rfl⟩
    ·exact hK _ _ (Qul hT hX hq h w' m' cn' _ hi' hs2 hd2)
    ·exact hK _ _ (Qul hT hX hq h w' m' cn' _ hi' hs2 hd2)
   ·cases h
  ·rename_i hg
   refine wpList_step fun K hK=> ?_
   rw[Q62 hs hg,if_neg Z3]
   have hs2:Sl X w m cn (Q2l o.dst (.tup []) st.tm) (a.put o.dst undef):=by
    have:=hs.set o.dst (x:= .tup []) (u:=undef) (.tup .lnil)
    cases ho:o.dst<;>simpa[Q2l,ho] using this
   have hd2:(a.put o.dst undef).defers=ds:=by cases ho:o.dst<;>simpa[Act.put] using hd
   exact hK _ _ (Qul hT hX hq h w m cn _ hi hs2 hd2)
  ·cases h
def Q13w(T:Nat→Option TI)(X:Ctx)(fn:Func)(n0:Nat)(r:V)(ob':List Ob)(e:Exit)(a:Act)(w:World):Prop:=
 (e= .ret∨e= .normal)∧ ∃D X1 st m cn,a.defers=[{target:= .collected D,args:= #[]}]∧Inv X1 w st.ob m cn∧Sl X1 w m cn st.tm a∧JB X1 D (.deferred (some [])) w cn∧
  (∀w2 ob2 m2 cn2,Inv X1 w2 ob2 m2 cn2→Inv X w2 ob2 m2 cn2∧ ∀b,frz X1 cn2 b→frz X cn2 b)∧Qj6 T fn n0 r ob' .ret st
theorem Q13y(hT:TOK P T){f:FuncId}{fn:Func}{c:Code}(hf:P.funcs[f]? =some fn)(hb:fn.body=some c){args:List V}{ob ob':List Ob}{r:V}
  (h: ∀X:Ctx,X.n0=ob.length→ ∀w m cn a,Inv X w ob m cn→Sl X w m cn (args++List.replicate (fn.ntmps-args.length) (.tup [])) a→a.defers=[]→c.wp P (Q13w T X fn ob.length r ob') a w):Ct P f args ob r ob':=by
 intro w fr m cn us hfr hi hR
 have hlen:=hR.len
 refine callsIn_wide.1 (callsIn_of_wp_marks (F:=Fence.wide) (n:=0) hf hb trivial (wpIn_wide.2 ?_))
 refine Code.wp_mono ?_ (h _ rfl w m cn ⟨us.toArray++Array.replicate (fn.ntmps-us.toArray.size) undef,[]⟩ hi ?_ rfl)
 ·rintro e a' w' ⟨he,D,X1,st,m',cn',hd,hi1,hs1,hj,hback,_,xs,r2,ob2,h1,h2,h3,h4,h5,h6,h7⟩
  obtain ⟨k1,k2,_⟩:=hj.update hi1 hs1 (o':= .deferred none) rfl
  have htk:=run_takeDeferred (P:=P) hj.2.2.2.1
  generalize w'.putObj D (.deferred none)=w2 at*
  obtain ⟨hi',hfz⟩:=hback _ _ _ _ k1
  have hs':Sl ⟨w,fr,fun b=> ∃id,0<cn id b,m,ob.length⟩ w2 m' cn' st.tm a':=R.mono k2 (Nat.le_refl _) (fun b _ hf=>⟨hfz b hf,rfl⟩) (fun _ _=>rfl) trivial (fun _ _ h=>⟨h,rfl⟩)
  obtain ⟨u,hu,hRu⟩:=Qji hT hi' hs' h1
  obtain ⟨cn2,d,a1,a2,a3,a4,a5⟩:=Qcs ob.length (Qv0 xs) h2 (N:=st.ob.length) hi' (Nat.le_refl _) hRu
  have htrim:=a1.trim (n:=ob.length) (Nat.le_refl _) h4 (fun o ho=>by rw[h5] at ho;exact List.all_eq_true.1 h6 o ho)
  rw[h5] at htrim
  have hfin:(fun (e:Ending) (w':World)=> ∃u m' cn' d,e= .returned u∧Inv ⟨w,fr,fun b=> ∃id,0<cn id b,m,ob.length⟩ w' ob' m' cn'∧
    R w' (frz ⟨w,fr,fun b=> ∃id,0<cn id b,m,ob.length⟩ cn') m' (.one r u) d∧ob'.length=ob.length∧ ∃n,ob.length≤n∧ ∀z,d z≤cn' n z) (.returned u) w2:=
   ⟨u,_,cn2,d,rfl,htrim,h3 _ _ _ _ _ (R.limM (n:=ob.length) (fun id hid=>by simp[hid]) a3 h7),by rw[←h5,List.length_take];omega,st.ob.length,by omega,fun z=>by have:=a4 z;omega⟩
  have hlv:LeavesInM Fence.wide 0 P fn a'.tmps (fun (e:Ending) (w':World)=> ∃u m' cn' d,e= .returned u∧Inv ⟨w,fr,fun b=> ∃id,0<cn id b,m,ob.length⟩ w' ob' m' cn'∧
    R w' (frz ⟨w,fr,fun b=> ∃id,0<cn id b,m,ob.length⟩ cn') m' (.one r u) d∧ob'.length=ob.length∧ ∃n,ob.length≤n∧ ∀z,d z≤cn' n z) a'.defers .returning w':=by
   rw[hd]
   exact ⟨by simp,.inl ⟨D,w2,rfl,htk,u,hu,hfin⟩⟩
  rcases he with rfl|rfl
  ·exact hlv
  ·exact hlv
 ·have:=R.ljoin hR (Qge (w:=w) (fr:=frz ⟨w,fr,fun b=> ∃id,0<cn id b,m,ob.length⟩ cn) (m:=m) (fn.ntmps-args.length))
  have h2:=this.zero fun z=>by simp[z0]
  simp only[Sl]
  rw[show (us.toArray++Array.replicate (fn.ntmps-us.toArray.size) undef).toList=us++List.replicate (fn.ntmps-args.length) undef from by simp[hlen]]
  exact h2
def WF(P:Program)(X:Ctx)(c:Code)(st:St)(B:Exit→Act→World→Prop):Prop:=
 ∀w m cn a,Inv X w st.ob m cn→Sl X w m cn st.tm a→a.defers=[]→c.wp P B a w
variable {st s1 s2:St} {B:Exit→Act→World→Prop}
theorem Q15x{c:Code}(h:Le X st s1)(hk:WF P X c s1 B):WF P X c st B:=by
 intro w m cn a hi hs hd
 obtain ⟨m',cn',hi',hs'⟩:=h w m cn a hi hs
 exact hk w m' cn' a hi' hs' hd
theorem Qxo{id:Nat}{y:Code}(ks:List Nat)(h:Q8 P X ops ops.toList st s1)(hk:WF P X y (s1.keep ks) B):WF P X (.seq (.region id ops false) y) st B:=by
 intro w m cn a hi hs hd
 refine wp_seq (Code.wp_mono ?_ (Qb (id:=id) h (Q:=fun e s=>e= .normal∧s=s1) ⟨rfl,rfl⟩ w m cn a hi hs hd))
 rintro e a' w' ⟨s,m',cn',⟨rfl,rfl⟩,hi',hs',hd'⟩
 exact Q15x (Le.keep ks s) hk w' m' cn' a' hi' hs' hd'
theorem Q13v{T:Nat→Option TI}{fn:Func}{n0:Nat}{r:V}{ob':List Ob}{id2 id3 bid:Nat}{ops2 ops3:Array Oper}{gf:FuncId}{g:Operand}{p1 p2 q:Tmp}{assign body:Code}{xs:List (List UInt8)}{tm:List V}{fo:Nat→List Ob}(nn:Nat){s3:St}
  (hT:TOK P T) (h2:Q8 P X ops2 ops2.toList st s1) (hle:Le X s1 ⟨tm,fo 0⟩)
  (eg: ∀args w,(callFunc gf args).run P w= .ok (.enter gf args) w) (hback:Qyu P gf)
  (hg:val ⟨tm,fo 0⟩ g= .clo (.func gf) [] [.fp [.lst false 1 (xs.map V.str)]]) (hxs:xs.length≤1099511627776)
  (ha: ∀(r:Nat) (W:World) (a0:Act) (K:Act→World→Prop),K (a0.put (some q) (a0.eval (.tmp p2))) W→assign.wpIn (rfc r) 0 P (Exit.then K (fun _ _ _=>False)) a0 W)
  (hlim:limL nn tm=true) (hnn: ∀k,nn≤(fo k).length) (hX:X.n0≤nn)
  (hbody: ∀(r k:Nat) (hk:k<xs.length) (X':Ctx),X'.n0=nn→WI P X' r body ⟨tmR tm p1 p2 q ((xs.length:Int)-1-(k:Int)) (xs[xs.length-1-k]'Zb),fo k⟩ (fun e s=>e= .normal∧ ∃s',Le X' s s'∧s'.ob=fo (k+1)))
  (h3:Qgc T nn ops3 ops3.toList ⟨tm,fo xs.length⟩=some s3) (hdone:Qj6 T fn n0 r ob' .ret s3):
  WF P X (.seq (.seq (.region id2 ops2 false) (.block bid (.rangeFunc g #[p1,p2] assign body))) (.seq (.region id3 ops3 false) .ret)) st (Q13w T X fn n0 r ob'):=by
 intro w m cn a hi hs hd
 refine wp_seq (wp_seq (Code.wp_mono ?_ (Qb (id:=id2) h2 (Q:=fun e s=>e= .normal∧s=s1) ⟨rfl,rfl⟩ w m cn a hi hs hd)))
 rintro e a' w' ⟨s,m',cn',⟨rfl,rfl⟩,hi',hs',hd'⟩
 obtain ⟨m2,cn2,i2,t2⟩:=hle w' m' cn' a' hi' hs'
 refine wp_block (Q10m (nn:=nn) (xs:=xs) (fo:=fo) eg hback hg hxs ha hlim hnn hX hbody i2 t2 hd' ?_)
 intro D X1 W' m3 cn3 hX1 i3 t3 j3 hb3
 refine wp_seq (wp_region_list ?_)
 obtain ⟨i5,t5,_⟩:=i3.lay t3 (Nat.le_refl _) (fun _ _=>rfl) (hnn xs.length)
 refine Qul hT (X:=Qil X1 W' W' m3 cn3 nn) rfl (st:=⟨tm,fo xs.length⟩) (s1:=s3) (ds:=[{target:= .collected D,args:= #[]}]) ?_ h3 W' m3 cn3 _ i5 t5 rfl
 intro w4 m4 cn4 a4 i4 t4 hd4
 obtain ⟨g1,g2⟩:=i3.back (Nat.le_refl _) (fun _ _=>rfl) rfl rfl rfl (Nat.le_of_eq hX1) i4
 obtain ⟨_,j5,_,_⟩:=Qqt (Nat.le_of_eq hX1) i3 i4
 exact wp_ret ⟨.inl rfl,D,X1,s3,m4,cn4,hd4,g1,R.mono t4 (Nat.le_refl _) (fun b _ hf=>⟨g2 b hf,rfl⟩) (fun _ _=>rfl) trivial (fun _ _ h=>⟨h,rfl⟩),j5 _ _ j3,hb3,hdone⟩
theorem Q11l{T:Nat→Option TI}(hT:TOK P T){f:FuncId}{fn:Func}{c:Code}(hf:P.funcs[f]? =some fn)(hb:fn.body=some c)(n:Nat)(hn:fn.ntmps=n){args:List V}(hl:Nat.ble args.length n=true){ob ob':List Ob}{r:V}
  (h: ∀X:Ctx,X.n0=ob.length→WF P X c ⟨sp n (Qvy 0 args),ob⟩ (Q13w T X fn ob.length r ob')):Ct P f args ob r ob':=by
 refine Q13y hT hf hb fun X hX=>Q15x (Le.less ?_ fun i y hy=> ?_) (h X hX)
 ·have:=Nat.le_of_ble_eq_true hl
  rw[Q4e,List.length_append,List.length_replicate];omega
 ·rw[Qax] at hy
  split at hy
  ·rw[Qqa] at hy
   simp at hy
   by_cases hi:i<args.length
   ·left
    rw[List.getElem?_append_left hi,List.getElem?_eq_getElem hi]
    rw[List.getElem?_eq_getElem hi] at hy
    simpa using hy
   ·right
    rw[List.getElem?_eq_none Zb] at hy
    simpa using hy.symm
  ·cases hy
theorem Q11e{id r:Nat}{o:Oper}{q p2:Tmp}{W:World}{a0:Act}{K:Act→World→Prop}(hk:K (a0.put (some q) (a0.eval (.tmp p2))) W)(hd:o.dst=some q)(hop:o.op= .assign (.tmp p2))(hg:o.guard=none):
  (Code.region id #[o] false).wpIn (rfc r) 0 P (Exit.then K (fun _ _ _=>False)) a0 W:=by
 refine wpIn_region_list ?_
 show wpListIn (rfc r) 0 P #[o] _ [o] a0 W
 unfold wpListIn
 rw[if_pos (by simp[Region.wanted,hg])]
 refine ⟨fun _ _=>trivial,?_⟩
 show o.uponIn (rfc r) 0 P a0 _ _ ((o.semAt (some r) a0.eval).run P W)
 rw[Oper.semAt_some r a0.eval o (fun c e=>by rw[hop] at e;cases e)]
 have:(execOp a0.eval o).run P W= .ok (.value (a0.eval (.tmp p2))) W:=by simp[execOp,hop]
 rw[this,Oper.uponIn_value,hd]
 exact hk
end
end Go.Ev
namespace Go.Ev
open Go
inductive It where
 |pur (i:Nat)
 |one (i:Nat)
section
variable {P:Program} {ops:Array Oper} {Q:Exit→Act→World→Prop}
theorem Qg4{md:Region.Mode}{S S':World→Prop}{n:Nat}(hS: ∀w,S' w→S w): ∀(f:Nat) (listed:Array Bool) (a:Act) (w:World),Q86 P md ops Q S' n f listed a w→Q86 P md ops Q S n f listed a w
 |0,_,_,_,h=>h
 |f+1,_,_,_,h=>⟨h.1,fun i hi=>wpOp_mono (fun a' w' h'=>⟨fun ht=>hS _ (h'.1 ht),Qg4 hS f _ a' w' h'.2⟩) (h.2 i hi)⟩
end
section
variable {P:Program} {X:Ctx} {st s1 s2 s3:St} {Q:Exit→St→Prop} {T:Nat→Option TI} {ls:List Oper} {L:List Nat}
inductive Qso (P:Program) (T:Nat→Option TI) (n0:Nat) (ops:Array Oper) (L:List Nat):List It→St→St→Prop
 |nil {s:St}:Qso P T n0 ops L [] s s
 |pur {A:List Nat} {l r:List It} {s s1 s2:St} (h:Q4q T n0 ops L A s=some s1) (he:l=A.map It.pur++r) (k:Qso P T n0 ops L r s1 s2):Qso P T n0 ops L l s s2
 |one {i:Nat} {o:Oper} {r:List It} {s s' s1 s2:St} (ho:ops[i]? =some o) (hL: ∀id∈L,id<s.ob.length)
   (h: ∀X':Ctx,X'.n0=s.ob.length→Q8 P X' ops [o] ⟨s.tm,hid L s.ob⟩ s') (he:(⟨s'.tm,unh s.ob L s'.ob⟩:St)=s1) (k:Qso P T n0 ops L r s1 s2):Qso P T n0 ops L (.one i::r) s s2
end
end Go.Ev
namespace Go.Ev
open Go
inductive Ti where
 |tail
 |pur (i:Nat) (t:Ti)
 |one (i:Nat) (t:Ti)
 |two (i j:Nat) (t u:Ti)
section
variable {P:Program} {ops:Array Oper} {Q:Exit→Act→World→Prop}
def tiB(md:Region.Mode)(ops:Array Oper)(n:Nat):Ti→Nat→Array Bool→Bool
 | .pur i t,k,listed=>decide (i<n)&&decide (0<k)&&(Region.ready md ops listed).contains i&&Region.free md ops listed i&&tiB md ops n t (k-1) (listed.setIfInBounds i true)
 | .one i t,k,listed=>decide (i<n)&&decide (0<k)&&decide (Region.ready md ops listed=[i])&&tiB md ops n t (k-1) (listed.setIfInBounds i true)
 | .two i j t u,k,listed=>decide (i<n)&&decide (j<n)&&decide (0<k)&&decide (Region.ready md ops listed=[i,j])&&tiB md ops n t (k-1) (listed.setIfInBounds i true)&&tiB md ops n u (k-1) (listed.setIfInBounds j true)
 | .tail,k,listed=>decide (k=0)&&Region.seqB md ops (ops.size-n) n listed
def tisB(md:Region.Mode)(ops:Array Oper)(n:Nat)(t:Ti):Bool:=
 Region.noSelect ops&&decide (n<ops.size)&&Region.sinkB md ops n&&Region.chainB md ops n&&tiB md ops n t n (Array.replicate ops.size false)
def Qhy(P:Program)(ops:Array Oper)(Q:Exit→Act→World→Prop)(n:Nat):Ti→(World→Prop)→Act→World→Prop
 | .pur i t,S,a,w=> ∃oi v,ops[i]? =some oi∧YieldsIf P ops S oi v a∧Qhy P ops Q n t S (a.put oi.dst v) w
 | .one i t,S,a,w=>wpOp P ops Q i (fun a' w'=> ∃S':World→Prop,(∀x,S' x→S x)∧S' w'∧Qhy P ops Q n t S' a' w') a w
 | .two i j t u,S,a,w=>wpOp P ops Q i (fun a' w'=> ∃S':World→Prop,(∀x,S' x→S x)∧S' w'∧Qhy P ops Q n t S' a' w') a w∧
   wpOp P ops Q j (fun a' w'=> ∃S':World→Prop,(∀x,S' x→S x)∧S' w'∧Qhy P ops Q n u S' a' w') a w
 | .tail,_,a,w=>wpList P ops Q (ops.toList.drop n) a w
theorem Qcr{md:Region.Mode}{n:Nat}(hsel:Region.noSelect ops=true)(hn:n<ops.size)(hs:Region.sinkB md ops n=true)(hc:Region.chainB md ops n=true)(hQ: ∀c a w,¬Q (.panic c) a w):
  ∀(t:Ti) (k:Nat) (S:World→Prop) (listed:Array Bool) (a:Act) (w:World),HeadInv md ops n listed→S w→tiB md ops n t k listed=true→Qhy P ops Q n t S a w→
   Q86 P md ops Q S n (k+(ops.size-n)) listed a w
 | .pur i t,k,S,listed,a,w,inv,hS,hB,⟨oi,v,hi,hy,h⟩=>by
  simp only[tiB,Bool.and_eq_true,decide_eq_true_eq] at hB
  obtain ⟨⟨⟨⟨hin,hk⟩,hr⟩,hf⟩,hB⟩:=hB
  have hr':i∈Region.ready md ops listed:=by simpa using hr
  have:=Qcr hsel hn hs hc hQ t (k-1) S _ _ _ (inv.set hr' hin) hS hB h
  rw[show k+(ops.size-n)=(k-1+(ops.size-n))+1 from by omega]
  exact Qaj hi (Region.noSelect_spec hsel) hs hc hn hin hQ _ listed a w inv (Region.free_spec hi hf) hr' hy hS this
 | .one i t,k,S,listed,a,w,inv,hS,hB,h=>by
  simp only[tiB,Bool.and_eq_true,decide_eq_true_eq] at hB
  obtain ⟨⟨⟨hin,hk⟩,hr⟩,hB⟩:=hB
  rw[show k+(ops.size-n)=(k-1+(ops.size-n))+1 from by omega]
  refine ⟨fun h0=>Z7l,fun j hj=> ?_⟩
  have hmem:=hj
  rw[hr] at hj
  have hji:j=i:=by simpa using hj
  subst hji
  have h:wpOp P ops Q j (fun a' w'=> ∃S':World→Prop,(∀x,S' x→S x)∧S' w'∧Qhy P ops Q n t S' a' w') a w:=h
  exact wpOp_mono (fun a' w' ⟨S',h1,h2,h3⟩=>⟨fun _=>h1 _ h2,Qg4 h1 _ _ _ _ (Qcr hsel hn hs hc hQ t _ S' _ _ _ (inv.set hmem hin) h2 hB h3)⟩) h
 | .two i i2 t u,k,S,listed,a,w,inv,hS,hB,h=>by
  simp only[tiB,Bool.and_eq_true,decide_eq_true_eq] at hB
  obtain ⟨⟨⟨⟨⟨hin,hin2⟩,hk⟩,hr⟩,hB⟩,hB2⟩:=hB
  rw[show k+(ops.size-n)=(k-1+(ops.size-n))+1 from by omega]
  refine ⟨fun h0=>Z7l,fun j hj=> ?_⟩
  have hmem:=hj
  rw[hr] at hj
  obtain ⟨ha,hb⟩:wpOp P ops Q i (fun a' w'=> ∃S':World→Prop,(∀x,S' x→S x)∧S' w'∧Qhy P ops Q n t S' a' w') a w∧
   wpOp P ops Q i2 (fun a' w'=> ∃S':World→Prop,(∀x,S' x→S x)∧S' w'∧Qhy P ops Q n u S' a' w') a w:=h
  have hji:j=i∨j=i2:=by simpa using hj
  rcases hji with rfl|rfl
  ·exact wpOp_mono (fun a' w' ⟨S',h1,h2,h3⟩=>⟨fun _=>h1 _ h2,Qg4 h1 _ _ _ _ (Qcr hsel hn hs hc hQ t _ S' _ _ _ (inv.set hmem hin) h2 hB h3)⟩) ha
  ·exact wpOp_mono (fun a' w' ⟨S',h1,h2,h3⟩=>⟨fun _=>h1 _ h2,Qg4 h1 _ _ _ _ (Qcr hsel hn hs hc hQ u _ S' _ _ _ (inv.set hmem hin2) h2 hB2 h3)⟩) hb
 | .tail,k,S,listed,a,w,inv,hS,hB,h=>by
  simp only[tiB,Bool.and_eq_true,decide_eq_true_eq] at hB
  obtain ⟨rfl,hB⟩:=hB
  have h:wpList P ops Q (ops.toList.drop n) a w:=h
  have hlen:(ops.toList.drop n).length=ops.size-n:=by simp
  have:=Q9m (P:=P) (Q:=Q) (md:=md) (S:=S) (n:=n) (ops.toList.drop n) n listed a w (Nat.le_refl _) (fun j=>by simp) (fun h=>by omega) inv.size Zbv h
  rw[hlen] at this
  simpa using this
theorem Qsr{id:Nat}{S:World→Prop}{n:Nat}{t:Ti}{a:Act}{w:World}(hm:P.follows .mixedOrders=true)(hB:tisB .any ops n t=true)(hQ: ∀c a w,¬Q (.panic c) a w)
  (hS:S {w with drawn:=w.drawn+1}) (h:Qhy P ops Q n t S a {w with drawn:=w.drawn+1}):(Code.region id ops true).wp P Q a w:=by
 simp only[tisB,Bool.and_eq_true,decide_eq_true_eq] at hB
 obtain ⟨⟨⟨⟨hsel,hn⟩,hs⟩,hc⟩,hhead⟩:=hB
 have inv0:HeadInv .any ops n (Array.replicate ops.size false):=
  ⟨by simp,fun j oj _ hl=>Z6f,fun t _ ht=>getD_in Zag (getD_replicate_false _ _)⟩
 have:=Qcr hsel hn hs hc hQ t n S _ _ _ inv0 hS hhead h
 rw[show n+(ops.size-n)=ops.size from by omega] at this
 exact wp_region_any hm (Qav _ _ _ _ this)
end
section
variable {X:Ctx} {w w':World} {ob ob':List Ob} {m m':Mp} {cn cn':Nat→Cnt}
def Qt0(X:Ctx)(w:World)(m:Mp)(cn:Nat→Cnt):Ctx:=⟨w,fun b=>b<w.heap.size∧frz X cn b,fun b=> ∃id,0<cn id b,m,X.n0⟩
theorem Inv.live(hi:Inv X w ob m cn):Inv (Qt0 X w m cn) w ob m cn∧ ∀b,b<w.heap.size→frz X cn b→frz (Qt0 X w m cn) cn b:=by
 have hfr: ∀b,b<w.heap.size→frz X cn b→frz (Qt0 X w m cn) cn b:=fun b hb h=>⟨.inl ⟨hb,h⟩,h.2⟩
 exact ⟨⟨Nat.le_refl _,fun _ _ _=>rfl,rfl,rfl,rfl,fun i o ho=>(hi.obj i o ho).mono hfr,hi.dis,hi.one,fun i b h=>⟨(hi.new i b h).1,.inr ⟨i,h⟩⟩,hi.fresh,fun _ _=>rfl,hi.mlt,hi.n0,fun _ _=>rfl⟩,hfr⟩
theorem Inv.unlive(hi:Inv X w ob m cn)(h':Inv (Qt0 X w m cn) w' ob' m' cn'):
  Inv X w' ob' m' cn'∧(∀b,frz (Qt0 X w m cn) cn' b→frz X cn' b)∧(∀b,b<w.heap.size→frz X cn b→w'.heap[b]? =w.heap[b]?)∧(∀b,b<w.heap.size→frz X cn b→frz X cn' b):=by
 have hfr: ∀b,frz (Qt0 X w m cn) cn' b→frz X cn' b:=by
  rintro b ⟨h1,h2⟩
  rcases h1 with ⟨_,h1⟩|hb
  ·exact ⟨h1.1,h2⟩
  ·exact ⟨.inr (Nat.le_trans hi.le hb),h2⟩
 have hnew': ∀id b,0<cn' id b→b<w.heap.size→ ∃k,0<cn k b:=fun id b h hb=>by
  rcases (h'.new id b h).2 with h|h
  ·have:w.heap.size≤b:=h
   omega
  ·exact h
 have hfrz2: ∀b,b<w.heap.size→frz X cn b→frz X cn' b:=fun b hb h=>⟨h.1,fun id=>by
  rcases Nat.eq_zero_or_pos (cn' id b) with h0|h0
  ·exact h0
  ·obtain ⟨k,hk⟩:=hnew' id b h0 hb
   have:=h.2 k;omega⟩
 have hheap: ∀b,b<w.heap.size→frz X cn b→w'.heap[b]? =w.heap[b]? :=fun b hb h=>by
  refine h'.kept b hb fun ⟨k,hc⟩=> ?_
  have:=h.2 k;omega
 refine ⟨⟨Nat.le_trans hi.le h'.le,fun b hb ho=> ?_,h'.os.trans hi.os,h'.tape.trans hi.tape,h'.output.trans hi.output,fun i o ho=>(h'.obj i o ho).mono (fun b _ h=>hfr b h),h'.dis,h'.one,fun i b h=> ?_,
  h'.fresh,fun i h=> ?_,h'.mlt,h'.n0,fun b hb=> ?_⟩,hfr,hheap,hfrz2⟩
 ·rw[h'.kept b (Nat.lt_of_lt_of_le hb hi.le) (fun ⟨k,hk⟩=> ?_)]
  ·exact hi.kept b hb ho
  ·rcases (hi.new k b hk).2 with h|h
   ·omega
   ·exact ho h
 ·obtain ⟨g1,g2⟩:=h'.new i b h
  refine ⟨g1,?_⟩
  rcases g2 with g2|⟨k,hk⟩
  ·exact .inl (Nat.le_trans hi.le g2)
  ·exact (hi.new k b hk).2
 ·rw[h'.pas i h];exact hi.pas i h
 ·rw[h'.shp b (Nat.lt_of_lt_of_le hb hi.le)];exact hi.shp b hb
end
section
variable {P:Program} {X:Ctx} {st s1 s2 s3:St} {Q:Exit→St→Prop} {T:Nat→Option TI} {ls:List Oper}
inductive Q5z (P:Program) (T:Nat→Option TI) (n0:Nat) (ops:Array Oper):Ti→St→St→Prop
 |tail {s:St}:Q5z P T n0 ops .tail s s
 |pur {i:Nat} {t:Ti} {s s1 s2:St} (h:Q4q T n0 ops [] [i] s=some s1) (k:Q5z P T n0 ops t s1 s2):Q5z P T n0 ops (.pur i t) s s2
 |one {i:Nat} {o:Oper} {t:Ti} {s s1 s2:St} (ho:ops[i]? =some o) (h: ∀X':Ctx,X'.n0=n0→Q8 P X' ops [o] s s1) (k:Q5z P T n0 ops t s1 s2):Q5z P T n0 ops (.one i t) s s2
 |two {i j:Nat} {t u:Ti} {s s2:St} (h1:Q5z P T n0 ops (.one i t) s s2) (h2:Q5z P T n0 ops (.one j u) s s2):Q5z P T n0 ops (.two i j t u) s s2
theorem Q10g(hT:TOK P T){n n0:Nat}(hX:X.n0=n0){ops:Array Oper}{Qf:Exit→Act→World→Prop}{l:Ti}(h:Q5z P T n0 ops l st s1):
  ∀{w:World} {m:Mp} {cn:Nat→Cnt} {a:Act},Inv X w st.ob m cn→Sl X w m cn st.tm a→a.defers=[]→
   (∀w m cn a,Inv X w s1.ob m cn→Sl X w m cn s1.tm a→a.defers=[]→wpList P ops Qf (ops.toList.drop n) a w)→Qhy P ops Qf n l (Kr X cn [] w) a w:=by
 induction h with
 |tail=>intro w m cn a hi hs hd hk;exact hk w m cn a hi hs hd
 |two h1 h2 ih1 ih2=>intro w m cn a hi hs hd hk;exact ⟨ih1 hi hs hd hk,ih2 hi hs hd hk⟩
 | @pur i t s s1 s2 h k ih=>
  intro w m cn a hi hs hd hk
  have hob:=Qb0 h
  simp only[Q4q] at h
  split at h
  ·cases h
  ·rename_i o ho
   split at h
   ·rename_i hg
    split at h
    ·rename_i hp
     split at h
     ·rename_i x st' hx
      obtain ⟨u,hu,hR⟩:=(Qi7 (X:=X) (L:=[]) hT hx hp.1 hp.2).1 w m cn a hi hs
      cases h
      refine ⟨o,u,ho,.inl ⟨Q62 hs hg,hu⟩,ih hi ?_ (Q3n _ _ hd) hk⟩
      have:=hs.set o.dst hR
      cases hod:o.dst<;>simpa[Q2l,hod] using this
     ·cases h
    ·cases h
   ·rename_i hg
    cases h
    refine ⟨o,undef,ho,.inr ⟨Q62 hs hg,rfl⟩,ih hi ?_ (Q3n _ _ hd) hk⟩
    have:=hs.set o.dst (x:= .tup []) (u:=undef) (.tup .lnil)
    cases hod:o.dst<;>simpa[Q2l,hod] using this
   ·cases h
 | @one i o t s s1 s2 ho h k ih=>
  intro w m cn a hi hs hd hk
  obtain ⟨h1,h2⟩:=hi.live
  have hs':Sl (Qt0 X w m cn) w m cn s.tm a:=hs.mono (Nat.le_refl _) (fun b hb hf=>⟨h2 b hb hf,rfl⟩) (fun _ _=>rfl) trivial (fun _ _ h=>⟨h,rfl⟩)
  have hr:=h (Qt0 X w m cn) hX [] (fun e st=>e= .normal∧st=s1) (Q8w ⟨rfl,rfl⟩) w m cn a h1 hs' hd
  have step:wpList P ops (post (Qt0 X w m cn) (fun e st=>e= .normal∧st=s1)) [o] a w:=hr
  have fin: ∀a' w',post (Qt0 X w m cn) (fun e st=>e= .normal∧st=s1) .normal a' w'→ ∃S':World→Prop,(∀x,S' x→Kr X cn [] w x)∧S' w'∧Qhy P ops Qf n t S' a' w':=by
   rintro a' w' ⟨st2,m',cn',⟨_,rfl⟩,hi',hs2,hd'⟩
   obtain ⟨u1,u2,u3,u4⟩:=hi.unlive hi'
   refine ⟨Kr X cn' [] w',fun x hx=>⟨Nat.le_trans hi'.le hx.1,fun b hb hc=> ?_⟩,Kr.refl _,
    ih u1 (hs2.mono (Nat.le_refl _) (fun b _ hf=>⟨u2 b hf,rfl⟩) (fun _ _=>rfl) trivial (fun _ _ h=>⟨h,rfl⟩)) hd' hk⟩
   rcases hc with hc|⟨_,hid,_⟩
   ·rw[hx.2 b (Nat.lt_of_lt_of_le hb hi'.le) (.inl (u4 b hb hc)),u3 b hb hc]
   ·cases hid
  show wpOp P ops Qf i _ a w
  unfold wpOp
  simp only[ho]
  unfold wpList at step
  split
  ·rename_i hw
   rw[if_pos hw] at step
   rcases step with step|⟨_,a',w',st2,m',cn',⟨h0,_⟩,_⟩
   ·exact .inl (Qcq (fun a' w' h=>fin a' w' h) (fun e a' w' hne ⟨st2,m',cn',⟨h0,_⟩,_⟩=>absurd h0 hne) step)
   ·cases h0
  ·rename_i hw
   rw[if_neg hw] at step
   exact fin _ _ step
theorem Q18g{id n:Nat}{t:Ti}(hm:P.follows .mixedOrders=true)(hB:tisB .any ls.toArray n t=true)(hT:TOK P T){n0:Nat}(hX:X.n0=n0)
  (hH:Q5z P T n0 ls.toArray t st s2) (h2:Q8 P X ls.toArray (ls.drop n) s2 s3) (hq:Q .normal s3):W P X (.region id ls.toArray true) st Q:=by
 intro w m cn a hi hs hd
 have hi':Inv X {w with drawn:=w.drawn+1} st.ob m cn:=hi.drew
 have hs':Sl X {w with drawn:=w.drawn+1} m cn st.tm a:=Ext.drew.Sl hs
 refine Code.wp_mono (Q:=Qtq (post X Q)) (fun e a' w' h=> ?_) ?_
 ·cases e<;>exact Z9g
 refine Qsr (S:=Kr X cn [] {w with drawn:=w.drawn+1}) hm hB (fun _ _ _ h=>h) (Kr.refl _) ?_
 refine Q10g hT hX hH hi' hs' hd (fun w3 m3 cn3 a3 hi3 hs3 hd3=> ?_)
 have:=h2 [] (fun e s=>e= .normal∧Q .normal s) (Q8w ⟨rfl,hq⟩) w3 m3 cn3 a3 hi3 hs3 hd3
 rw[List.append_nil] at this
 refine Q4a (fun a w ⟨s,m,cn,⟨_,h⟩,r⟩=>⟨s,m,cn,h,r⟩) (fun e a w hne ⟨s,m,cn,⟨h0,_⟩,_⟩=>absurd h0 hne) _ _ _ this
theorem Q13n{id:Nat}{y:Code}(n:Nat)(t:Ti)(ks:List Nat)(hm:P.follows .mixedOrders=true)(hB:tisB .any ls.toArray n t=true)(hT:TOK P T){n0:Nat}(hX:X.n0=n0)
  (hH:Q5z P T n0 ls.toArray t st s2) (h2:Q8 P X ls.toArray (ls.drop n) s2 s3) (hk:W P X y (s3.keep ks) Q):W P X (.seq (.region id ls.toArray true) y) st Q:=
 Q4 (Q18g hm hB hT hX hH h2 (Q15 (Le.keep ks s3) hk))
end
end Go.Ev
namespace Go.Ev
open Go
def swp(a b id:Nat):Nat:=if id=a then b else if id=b then a else id
theorem Quq(a b id:Nat):swp a b (swp a b id)=id:=by
 unfold swp
 by_cases h1:id=a
 ·subst h1;rw[if_pos rfl];by_cases h2:b=id
  ·rw[if_pos h2,h2]
  ·rw[if_neg h2,if_pos rfl]
 ·rw[if_neg h1];by_cases h2:id=b
  ·subst h2;rw[if_pos rfl,if_pos rfl]
  ·rw[if_neg h2,if_neg h1,if_neg h2]
def gSw(a b:Nat)(id:Nat):Option Nat:=some (swp a b id)
def St.swap(a b:Nat)(s:St):St:=
 ⟨mapL (gSw a b) s.tm,((s.ob.map (Qjn (gSw a b))).set a (Qjn (gSw a b) (s.ob.getD b none))).set b (Qjn (gSw a b) (s.ob.getD a none))⟩
theorem Q141{a b:Nat}{ob:List Ob}(ha:a<ob.length)(hb:b<ob.length)(g:Ob→Ob)(i:Nat):(((ob.map g).set a (g (ob.getD b none))).set b (g (ob.getD a none)))[i]? =ob[swp a b i]?.map g:=by
 unfold swp
 by_cases h1:i=a
 ·subst h1
  rw[if_pos rfl]
  by_cases h2:b=i
  ·subst h2;rw[List.getElem?_set_self (by simpa using hb)];simp[hb]
  ·rw[List.getElem?_set_ne h2,List.getElem?_set_self (by simpa using ha)];simp[hb]
 ·rw[if_neg h1]
  by_cases h2:i=b
  ·subst h2
   rw[if_pos rfl,List.getElem?_set_self (by simpa using hb)];simp[ha]
  ·rw[if_neg h2,List.getElem?_set_ne (Ne.symm h2),List.getElem?_set_ne (Ne.symm h1),List.getElem?_map]
theorem Qqn{X:Ctx}(a b:Nat){s:St}(h:X.n0≤a∧X.n0≤b∧a<s.ob.length∧b<s.ob.length){w:World}{m:Mp}{cn:Nat→Cnt}{act:Act}(hi:Inv X w s.ob m cn)(hs:Sl X w m cn s.tm act):
  frz X (fun id=>cn (swp a b id))=frz X cn∧Inv X w (s.swap a b).ob (fun id=>m (swp a b id)) (fun id=>cn (swp a b id))∧Sl X w (fun id=>m (swp a b id)) (fun id=>cn (swp a b id)) (s.swap a b).tm act:=by
 obtain ⟨h1,h2,h3,h4⟩:=h
 have hlo: ∀id,id<X.n0→swp a b id=id:=fun id hid=>by unfold swp;rw[if_neg Zb,if_neg Zb]
 have hhi: ∀id,s.ob.length≤id→swp a b id=id:=fun id hid=>by unfold swp;rw[if_neg Zb,if_neg Zb]
 have hfr:frz X (fun id=>cn (swp a b id))=frz X cn:=by
  funext x
  refine propext ⟨fun ⟨p,q⟩=>⟨p,fun id=> ?_⟩,fun ⟨p,q⟩=>⟨p,fun id=>q _⟩⟩
  have:=q (swp a b id)
  simpa only[Quq] using this
 have hm: ∀id q,gSw a b id=some q→(fun id=>m (swp a b id)) q=m id:=fun id q e=>by
  simp only[gSw,Option.some.injEq] at e
  subst e
  show m (swp a b (swp a b id))=m id
  rw[Quq]
 have hobl:(s.swap a b).ob.length=s.ob.length:=by simp[St.swap]
 refine ⟨hfr,⟨hi.le,hi.kept,hi.os,hi.tape,hi.output,fun id o ho=> ?_,fun x i j p q=> ?_,fun i x=>hi.one _ x,fun i x p=>hi.new _ x p,fun id hid=> ?_,fun id hid=> ?_,fun id x p=>hi.mlt _ x p,by rw[hobl];exact hi.n0,hi.shp⟩,?_⟩
 ·rw[hfr]
  rw[show (s.swap a b).ob[id]? =s.ob[swp a b id]?.map (Qjn (gSw a b)) from Q141 h3 h4 _ id] at ho
  cases ho0:s.ob[swp a b id]? with
  |none=>rw[ho0] at ho;cases ho
  |some o0=>
   rw[ho0] at ho
   cases ho
   have hk:=hi.obj _ _ ho0
   cases o0 with
   |none=>trivial
   |some kx=>
    obtain ⟨k,xs⟩:=kx
    simp only[Qjn]
    rcases hk with ⟨e,p,q⟩|⟨bl,cur,e,c,p1,p2,p3,p4,p5,p6⟩
    ·subst e;exact .inl ⟨rfl,p,q⟩
    ·refine .inr ⟨bl,cur,e,c,p1,p2,Qql p3 _,by rw[Q9p,List.length_map];exact p4,?_,p6⟩
     have:=p5.mapId hm
     rw[Qmx];exact this
 ·have:=hi.dis x _ _ p q
  have:=congrArg (swp a b) this
  simpa only[Quq] using this
 ·rw[hobl] at hid
  show m (swp a b id)=none
  rw[hhi id hid];exact hi.fresh id hid
 ·show m (swp a b id)=_
  rw[hlo id hid];exact hi.pas id hid
 ·show R w (frz X fun id=>cn (swp a b id)) _ _ _
  rw[hfr]
  exact R.mapId hm hs
theorem Le.swap{X:Ctx}(a b:Nat){s:St}(h:X.n0≤a∧X.n0≤b∧a<s.ob.length∧b<s.ob.length):Le X s (s.swap a b):=fun _ _ _ _ hi hs=>
 let ⟨_,h2,h3⟩:=Qqn a b h hi hs
 ⟨_,_,h2,h3⟩
section
variable {P:Program} {X:Ctx} {st s1 s2 s3:St} {Q:Exit→St→Prop} {T:Nat→Option TI} {ls:List Oper} {L:List Nat}
inductive Qhw (P:Program) (ops:Array Oper) (n0:Nat) (L:List Nat):Tr→St→St→Prop
 |sw {a b:Nat} {t:Tr} {s s' s2:St} (hb:n0≤a∧n0≤b∧a<s.ob.length∧b<s.ob.length) (hl:a∉L∧b∉L) (he:s.swap a b=s') (k:Qhw P ops n0 L t s' s2):Qhw P ops n0 L t s s2
 |tail {s:St}:Qhw P ops n0 L .tail s s
 |one {i:Nat} {o:Oper} {t:Tr} {s s' s1 s2:St} (ho:ops[i]? =some o) (hL: ∀id∈L,id<s.ob.length)
   (h: ∀X':Ctx,X'.n0=s.ob.length→Q8 P X' ops [o] ⟨s.tm,hid L s.ob⟩ s') (he:(⟨s'.tm,unh s.ob L s'.ob⟩:St)=s1) (ht:Qhw P ops n0 L t s1 s2):Qhw P ops n0 L (.one i t) s s2
 |two {i j:Nat} {t u:Tr} {s s2:St} (h1:Qhw P ops n0 L (.one i t) s s2) (h2:Qhw P ops n0 L (.one j u) s s2):Qhw P ops n0 L (.two i j t u) s s2
end
end Go.Ev
namespace Go.Ev
open Go
inductive Tm where
 |tail
 |stop
 |pur (i:Nat) (t:Tm)
 |alt (i:Nat) (t:Tm) (r:Tm)
def Tm.ids:Tm→List Nat
 | .alt i _ r=>i::r.ids
 |_=>[]
section
variable {P:Program} {ops:Array Oper} {Q:Exit→Act→World→Prop}
def tmB(md:Region.Mode)(ops:Array Oper)(n:Nat):Tm→Nat→Array Bool→Bool→Bool
 | .tail,k,listed,fst=>fst&&decide (k=0)&&Region.seqB md ops (ops.size-n) n listed
 | .stop,_,_,fst=> !fst
 | .pur i t,k,listed,fst=>fst&&decide (i<n)&&decide (0<k)&&(Region.ready md ops listed).contains i&&Region.free md ops listed i&&tmB md ops n t (k-1) (listed.setIfInBounds i true) true
 | .alt i t r,k,listed,fst=>(!fst||decide (Region.ready md ops listed=i::r.ids))&&decide (i<n)&&decide (0<k)&&tmB md ops n t (k-1) (listed.setIfInBounds i true) true&&tmB md ops n r k listed false
def Qss(md:Region.Mode)(ops:Array Oper)(n:Nat)(t:Tm):Bool:=
 Region.noSelect ops&&decide (n<ops.size)&&Region.sinkB md ops n&&Region.chainB md ops n&&tmB md ops n t n (Array.replicate ops.size false) true
def Q9z(P:Program)(ops:Array Oper)(Q:Exit→Act→World→Prop)(n:Nat):Tm→(World→Prop)→Act→World→Prop
 | .tail,_,a,w=>wpList P ops Q (ops.toList.drop n) a w
 | .stop,_,_,_=>True
 | .pur i t,S,a,w=> ∃oi v,ops[i]? =some oi∧YieldsIf P ops S oi v a∧Q9z P ops Q n t S (a.put oi.dst v) w
 | .alt i t r,S,a,w=>wpOp P ops Q i (fun a' w'=> ∃S':World→Prop,(∀x,S' x→S x)∧S' w'∧Q9z P ops Q n t S' a' w') a w∧Q9z P ops Q n r S a w
theorem Qi1{md:Region.Mode}{n:Nat}(hsel:Region.noSelect ops=true)(hn:n<ops.size)(hs:Region.sinkB md ops n=true)(hc:Region.chainB md ops n=true)(hQ: ∀c a w,¬Q (.panic c) a w):
  ∀(t:Tm) (k:Nat) (S:World→Prop) (listed:Array Bool) (a:Act) (w:World),HeadInv md ops n listed→S w→
   (tmB md ops n t k listed true=true→Q9z P ops Q n t S a w→Q86 P md ops Q S n (k+(ops.size-n)) listed a w)∧
   (tmB md ops n t k listed false=true→Q9z P ops Q n t S a w→ ∀j∈t.ids,j∈Region.ready md ops listed→0<k∧wpOp P ops Q j (fun a' w'=>S w'∧Q86 P md ops Q S n (k-1+(ops.size-n)) (listed.setIfInBounds j true) a' w') a w)
 | .tail,k,S,listed,a,w,inv,hS=>by
  refine ⟨fun hB h=> ?_,fun hB _=> ?_⟩
  ·simp only[tmB,Bool.true_and,Bool.and_eq_true,decide_eq_true_eq] at hB
   obtain ⟨rfl,hB⟩:=hB
   have h:wpList P ops Q (ops.toList.drop n) a w:=h
   have hlen:(ops.toList.drop n).length=ops.size-n:=by simp
   have:=Q9m (P:=P) (Q:=Q) (md:=md) (S:=S) (n:=n) (ops.toList.drop n) n listed a w (Nat.le_refl _) (fun j=>by simp) (fun h=>by omega) inv.size Zbv h
   rw[hlen] at this
   simpa using this
  ·simp[tmB] at hB
 | .stop,k,S,listed,a,w,inv,hS=>by
  refine ⟨fun hB=> ?_,fun _ _ j hj=> ?_⟩
  ·simp[tmB] at hB
  ·simp[Tm.ids] at hj
 | .pur i t,k,S,listed,a,w,inv,hS=>by
  refine ⟨fun hB h=> ?_,fun hB=> ?_⟩
  ·simp only[tmB,Bool.true_and,Bool.and_eq_true,decide_eq_true_eq] at hB
   obtain ⟨⟨⟨⟨hin,hk⟩,hr⟩,hf⟩,hB⟩:=hB
   obtain ⟨oi,v,hi,hy,h⟩:=h
   have hr':i∈Region.ready md ops listed:=by simpa using hr
   have:=(Qi1 hsel hn hs hc hQ t (k-1) S _ _ _ (inv.set hr' hin) hS).1 hB h
   rw[show k+(ops.size-n)=(k-1+(ops.size-n))+1 from by omega]
   exact Qaj hi (Region.noSelect_spec hsel) hs hc hn hin hQ _ listed a w inv (Region.free_spec hi hf) hr' hy hS this
  ·simp[tmB] at hB
 | .alt i t r,k,S,listed,a,w,inv,hS=>by
  have hr2:=(Qi1 hsel hn hs hc hQ r k S listed a w inv hS).2
  have here:tmB md ops n t (k-1) (listed.setIfInBounds i true) true=true→i<n→i∈Region.ready md ops listed→wpOp P ops Q i (fun a' w'=> ∃S':World→Prop,(∀x,S' x→S x)∧S' w'∧Q9z P ops Q n t S' a' w') a w→
    wpOp P ops Q i (fun a' w'=>S w'∧Q86 P md ops Q S n (k-1+(ops.size-n)) (listed.setIfInBounds i true) a' w') a w:=fun hB hin hmem h=>
   wpOp_mono (fun a' w' ⟨S',h1,h2,h3⟩=>⟨h1 _ h2,Qg4 h1 _ _ _ _ ((Qi1 hsel hn hs hc hQ t (k-1) S' _ a' w' (inv.set hmem hin) h2).1 hB h3)⟩) h
  refine ⟨fun hB h=> ?_,fun hB h j hj hjr=> ?_⟩
  ·simp only[tmB,Bool.not_true,Bool.false_or,Bool.and_eq_true,decide_eq_true_eq] at hB
   obtain ⟨⟨⟨⟨hr,hin⟩,hk⟩,hB⟩,hB2⟩:=hB
   rw[show k+(ops.size-n)=(k-1+(ops.size-n))+1 from by omega]
   refine ⟨fun h0=>Z7l,fun j hj=> ?_⟩
   have hmem:=hj
   rw[hr] at hj
   rcases List.mem_cons.1 hj with rfl|hj
   ·exact wpOp_mono (fun a' w' h'=>⟨fun _=>h'.1,h'.2⟩) (here hB hin hmem h.1)
   ·exact wpOp_mono (fun a' w' h'=>⟨fun _=>h'.1,h'.2⟩) (hr2 hB2 h.2 j hj hmem).2
  ·simp only[tmB,Bool.not_false,Bool.true_or,Bool.true_and,Bool.and_eq_true,decide_eq_true_eq] at hB
   obtain ⟨⟨⟨hin,hk⟩,hB⟩,hB2⟩:=hB
   rcases List.mem_cons.1 (show j∈i::r.ids from hj) with rfl|hj
   ·exact ⟨hk,here hB hin hjr h.1⟩
   ·exact hr2 hB2 h.2 j hj hjr
theorem Qkm{id:Nat}{S:World→Prop}{n:Nat}{t:Tm}{a:Act}{w:World}(hm:P.follows .mixedOrders=true)(hB:Qss .any ops n t=true)(hQ: ∀c a w,¬Q (.panic c) a w)
  (hS:S {w with drawn:=w.drawn+1}) (h:Q9z P ops Q n t S a {w with drawn:=w.drawn+1}):(Code.region id ops true).wp P Q a w:=by
 simp only[Qss,Bool.and_eq_true,decide_eq_true_eq] at hB
 obtain ⟨⟨⟨⟨hsel,hn⟩,hs⟩,hc⟩,hhead⟩:=hB
 have inv0:HeadInv .any ops n (Array.replicate ops.size false):=
  ⟨by simp,fun j oj _ hl=>Z6f,fun t _ ht=>getD_in Zag (getD_replicate_false _ _)⟩
 have:=(Qi1 hsel hn hs hc hQ t n S _ _ _ inv0 hS).1 hhead h
 rw[show n+(ops.size-n)=ops.size from by omega] at this
 exact wp_region_any hm (Qav _ _ _ _ this)
end
section
variable {P:Program} {X:Ctx} {st s1 s2 s3:St} {Q:Exit→St→Prop} {T:Nat→Option TI} {ls:List Oper} {L:List Nat}
def Q17:List Nat→Tm→Tm
 |[],t=>t
 |i::A,t=> .pur i (Q17 A t)
theorem Qi5(hT:TOK P T){n0 n:Nat}{ops:Array Oper}{Qf:Exit→Act→World→Prop}{r:Tm}{w:World}{m:Mp}{cn:Nat→Cnt}:
  ∀{A:List Nat} {st s1:St} {a:Act},Q4q T n0 ops L A st=some s1→Inv X w st.ob m cn→Sl X w m cn st.tm a→a.defers=[]→
   (∀a',Sl X w m cn s1.tm a'→a'.defers=[]→Q9z P ops Qf n r (Kr X cn L w) a' w)→Q9z P ops Qf n (Q17 A r) (Kr X cn L w) a w
 |[],st,s1,a,h,hi,hs,hd,hk=>by simp only[Q4q] at h;cases h;exact hk a hs hd
 |i::A,st,s1,a,h,hi,hs,hd,hk=>by
  simp only[Q4q] at h
  split at h
  ·cases h
  ·rename_i o ho
   split at h
   ·rename_i hg
    split at h
    ·rename_i hp
     split at h
     ·rename_i x st' hx
      obtain ⟨u,hu,hR⟩:=(Qi7 (X:=X) (L:=L) hT hx hp.1 hp.2).1 w m cn a hi hs
      refine ⟨o,u,ho,.inl ⟨Q62 hs hg,hu⟩,Qi5 hT h hi ?_ (Q3n _ _ hd) hk⟩
      have:=hs.set o.dst hR
      cases hod:o.dst<;>simpa[Q2l,hod] using this
     ·cases h
    ·cases h
   ·rename_i hg
    refine ⟨o,undef,ho,.inr ⟨Q62 hs hg,rfl⟩,Qi5 hT h hi ?_ (Q3n _ _ hd) hk⟩
    have:=hs.set o.dst (x:= .tup []) (u:=undef) (.tup .lnil)
    cases hod:o.dst<;>simpa[Q2l,hod] using this
   ·cases h
inductive Q52 (P:Program) (T:Nat→Option TI) (n0:Nat) (ops:Array Oper) (L:List Nat):Tm→St→St→Prop
 |tail {s:St}:Q52 P T n0 ops L .tail s s
 |stop {s s2:St}:Q52 P T n0 ops L .stop s s2
 |sw {a b:Nat} {t:Tm} {s s' s2:St} (hb:n0≤a∧n0≤b∧a<s.ob.length∧b<s.ob.length) (hl:a∉L∧b∉L) (he:s.swap a b=s') (k:Q52 P T n0 ops L t s' s2):Q52 P T n0 ops L t s s2
 |pur {A:List Nat} {t r:Tm} {s s1 s2:St} (h:Q4q T n0 ops L A s=some s1) (he:t=Q17 A r) (k:Q52 P T n0 ops L r s1 s2):Q52 P T n0 ops L t s s2
 |alt {i:Nat} {o:Oper} {t r:Tm} {s s' s1 s2:St} (ho:ops[i]? =some o) (hL: ∀id∈L,id<s.ob.length)
   (h: ∀X':Ctx,X'.n0=s.ob.length→Q8 P X' ops [o] ⟨s.tm,hid L s.ob⟩ s') (he:(⟨s'.tm,unh s.ob L s'.ob⟩:St)=s1) (k:Q52 P T n0 ops L t s1 s2) (kr:Q52 P T n0 ops L r s s2):Q52 P T n0 ops L (.alt i t r) s s2
theorem Q10f(hT:TOK P T){n n0:Nat}(hX:X.n0=n0){ops:Array Oper}{Qf:Exit→Act→World→Prop}{l:Tm}(h:Q52 P T n0 ops L l st s1):
  ∀{w:World} {m:Mp} {cn:Nat→Cnt} {a:Act},Inv X w st.ob m cn→Sl X w m cn st.tm a→a.defers=[]→
   (∀w m cn a,Inv X w s1.ob m cn→Sl X w m cn s1.tm a→a.defers=[]→wpList P ops Qf (ops.toList.drop n) a w)→Q9z P ops Qf n l (Kr X cn L w) a w:=by
 induction h with
 |tail=>intro w m cn a hi hs hd hk;exact hk w m cn a hi hs hd
 |stop=>intro w m cn a hi hs hd hk;trivial
 | @sw a b t s s' s2 hb hl he k ih=>
  intro w m cn act hi hs hd hk
  subst he
  obtain ⟨g1,g2,g3⟩:=Qqn a b (by rw[hX];exact hb) hi hs
  have hKr:Kr X (fun id=>cn (swp a b id)) L w=Kr X cn L w:=by
   funext x
   refine propext ⟨fun h=>⟨h.1,fun bl hbl hc=>h.2 bl hbl ?_⟩,fun h=>⟨h.1,fun bl hbl hc=>h.2 bl hbl ?_⟩⟩
   ·rw[g1]
    refine hc.imp id fun ⟨id,hid,h0⟩=>⟨id,hid,?_⟩
    have e1:id≠a:=fun e=>hl.1 Z81
    have e2:id≠b:=fun e=>hl.2 Z81
    show 0<cn (swp a b id) bl
    rw[show swp a b id=id from by unfold swp;rw[if_neg e1,if_neg e2]];exact h0
   ·rw[g1] at hc
    refine hc.imp id fun ⟨id,hid,h0⟩=>⟨id,hid,?_⟩
    have e1:id≠a:=fun e=>hl.1 Z81
    have e2:id≠b:=fun e=>hl.2 Z81
    have h0:0<cn (swp a b id) bl:=h0
    rwa [show swp a b id=id from by unfold swp;rw[if_neg e1,if_neg e2]] at h0
  have:=ih g2 g3 hd hk
  rwa [hKr] at this
 | @pur A l r s s1 s2 h he k ih=>
  intro w m cn a hi hs hd hk
  subst he
  exact Qi5 hT h hi hs hd fun a' hs2 hd2=>ih (Qb0 h▸hi) hs2 hd2 hk
 | @alt i o t r s s' s1 s2 ho hL h he k kr ih ihr=>
  intro w m cn a hi hs hd hk
  subst he
  refine ⟨?_,ihr hi hs hd hk⟩
  obtain ⟨h1,h2⟩:=hi.hide L
  have hs':Sl (Q75 X w m cn L s.ob.length) w m (cnH L cn) s.tm a:=hs.mono (Nat.le_refl _) (fun b hb hf=>⟨h2 b hb hf,rfl⟩) (fun _ _=>rfl) trivial (fun _ _ h=>⟨h,rfl⟩)
  have hr:=h (Q75 X w m cn L s.ob.length) rfl [] (fun e st=>e= .normal∧st=s') (Q8w ⟨rfl,rfl⟩) w m (cnH L cn) a h1 hs' hd
  have step:wpList P ops (post (Q75 X w m cn L s.ob.length) (fun e st=>e= .normal∧st=s')) [o] a w:=hr
  have fin: ∀a' w',post (Q75 X w m cn L s.ob.length) (fun e st=>e= .normal∧st=s') .normal a' w'→ ∃S':World→Prop,(∀x,S' x→Kr X cn L w x)∧S' w'∧Q9z P ops Qf n t S' a' w':=by
   rintro a' w' ⟨st2,m',cn',⟨_,rfl⟩,hi',hs2,hd'⟩
   obtain ⟨u1,u2,u3,u4⟩:=hi.unhide hL hi'
   refine ⟨Kr X (cnU L cn cn') L w',fun x hx=>⟨Nat.le_trans hi'.le hx.1,fun b hb hc=> ?_⟩,Kr.refl _,
    ih u1 (hs2.mono (Nat.le_refl _) (fun b _ hf=>⟨u2 b hf,rfl⟩) (fun _ _=>rfl) trivial (fun _ _ h=>⟨h,rfl⟩)) hd' hk⟩
   rw[hx.2 b (Nat.lt_of_lt_of_le hb hi'.le) (hc.imp (u4 b hb) (fun ⟨id,hid,hc⟩=>⟨id,hid,by unfold cnU;rw[if_pos hid];exact hc⟩)),u3 b hb hc]
  show wpOp P ops Qf i _ a w
  unfold wpOp
  simp only[ho]
  unfold wpList at step
  split
  ·rename_i hw
   rw[if_pos hw] at step
   rcases step with step|⟨_,a',w',st2,m',cn',⟨h0,_⟩,_⟩
   ·exact .inl (Qcq (fun a' w' h=>fin a' w' h) (fun e a' w' hne ⟨st2,m',cn',⟨h0,_⟩,_⟩=>absurd h0 hne) step)
   ·cases h0
  ·rename_i hw
   rw[if_neg hw] at step
   exact fin _ _ step
theorem Q15w{id n:Nat}{l:Tm}(hm:P.follows .mixedOrders=true)(hB:Qss .any ls.toArray n l=true)(hT:TOK P T){n0:Nat}(hX:X.n0=n0)
  (hH:Q52 P T n0 ls.toArray L l st s2) (h2:Q8 P X ls.toArray (ls.drop n) s2 s3) (hq:Q .normal s3):W P X (.region id ls.toArray true) st Q:=by
 intro w m cn a hi hs hd
 have hi':Inv X {w with drawn:=w.drawn+1} st.ob m cn:=hi.drew
 have hs':Sl X {w with drawn:=w.drawn+1} m cn st.tm a:=Ext.drew.Sl hs
 refine Code.wp_mono (Q:=Qtq (post X Q)) (fun e a' w' h=> ?_) ?_
 ·cases e<;>exact Z9g
 refine Qkm (S:=Kr X cn L {w with drawn:=w.drawn+1}) hm hB (fun _ _ _ h=>h) (Kr.refl _) ?_
 refine Q10f hT hX hH hi' hs' hd (fun w3 m3 cn3 a3 hi3 hs3 hd3=> ?_)
 have:=h2 [] (fun e s=>e= .normal∧Q .normal s) (Q8w ⟨rfl,hq⟩) w3 m3 cn3 a3 hi3 hs3 hd3
 rw[List.append_nil] at this
 refine Q4a (fun a w ⟨s,m,cn,⟨_,h⟩,r⟩=>⟨s,m,cn,h,r⟩) (fun e a w hne ⟨s,m,cn,⟨h0,_⟩,_⟩=>absurd h0 hne) _ _ _ this
theorem Q18f{id:Nat}{y:Code}(n:Nat)(l:Tm)(ks:List Nat)(L:List Nat)(hm:P.follows .mixedOrders=true)(hB:Qss .any ls.toArray n l=true)(hT:TOK P T){n0:Nat}(hX:X.n0=n0)
  (hH:Q52 P T n0 ls.toArray L l st s2) (h2:Q8 P X ls.toArray (ls.drop n) s2 s3) (hk:W P X y (s3.keep ks) Q):W P X (.seq (.region id ls.toArray true) y) st Q:=
 Q4 (Q15w hm hB hT hX hH h2 (Q15 (Le.keep ks s3) hk))
end
end Go.Ev
namespace Go.Ev
open Go
section
variable {P:Program} {X:Ctx} {L:List Nat} {st s2:St} {o:Oper} {T:Nat→Option TI} {ops:Array Oper} {rest:List Oper}
theorem Qy2(hT:TOK P T){t e:Nat}{s x:Operand}{ti ei:TI}(ho:o.op= .call {callee:= .builtin .append,args:= #[s,x],argTypes:= #[t,t]})(ht:T t=some ti)(hk:ti.kd= .slice e)(he:T e=some ei)
  (hz0:ei.zero.cells.length=ei.size) {k:Nat} (hs0:val st s= .lst true k []) {ys:List V} (hy:Qcu st.ob (val st x)=some (ei.size,ys))
  (hbig:ys.length*ei.bytes≤140737488355328) (h63:ys.length≤1099511627776):
  OKo P X st o (.arr st.ob.length 0 ys.length) ⟨jkL (· ==st.ob.length) st.tm,(st.ob++[some (ei.size,[])]).map (jkO (· ==st.ob.length))|>.set st.ob.length (some (ei.size,jkL (· ==st.ob.length) ys))⟩:=by
 intro w m cn a hi hs
 obtain ⟨h1,h2⟩:=hi.nameNil ei.size
 have hv: ∀y,val (⟨st.tm,st.ob++[some (ei.size,[])]⟩:St) y=val st y:=fun y=>by cases y<;>rfl
 have:=Qjj (P:=P) (X:=X) (st:=⟨st.tm,st.ob++[some (ei.size,[])]⟩) hT ho ht hk he hz0 (id:=st.ob.length) (n:=0) (xs:=[])
  (fun w m cn a hi hs=>by
   have:=Q14 hs s
   rw[hv,hs0] at this
   generalize a.eval s=u at this⊢
   generalize hzz:z0=c0 at this
   cases this with
   |nil=>exact .arrn
   |nilz=>exact .arrn
   |own hb hs hk hn h hc=>
    rename_i b _ _ _ _
    subst hzz
    have:=hc b
    simp[z0] at this) hi.n0 Z3 (Nat.le_refl _) (ys:=ys) (by rw[hv];exact Qqz hy) (by simpa using hbig) (by simpa using h63)
 simp only[Nat.zero_add,List.take_nil,List.nil_append] at this
 exact this w m _ a h1 (h2.Sl hs)
theorem Q8.oko{x:V}{st':St}(h:OKo P X st o x st')(hg:gd ops st o.guard=some true)(k:Q8 P X ops rest ⟨Q2l o.dst x st'.tm,st'.ob⟩ s2):Q8 P X ops (o::rest) st s2:=
 fun r Q hq=>Q102 h hg (k r Q hq)
end
end Go.Ev
namespace Go.Ev
open Go
section
variable {P:Program} {X:Ctx} {T:Nat→Option TI} {ops:Array Oper} {rest:List Oper} {st s2:St} {o:Oper}
theorem OKo.frz(hT:TOK P T){x r:V}{st2:St}{ob2:List Ob}(h:opB T 0 ⟨fzL st.tm,[]⟩ o.op=some (x,st2))(ht:Q88 0 st2.ob x=some (r,ob2))(hl:r.lim 0=true):OKo P X st o r.fz st:=by
 intro w m cn a hi hs
 obtain ⟨hinv,hfr⟩:=Qex hi (ps:=[]) List.nodup_nil (fun id h=>by simp at h)
 have hs0:Sl (Q8y X w m cn []) w (fun q=>(([]:List Nat)[q]?).bind m) (Qiy [] cn) (fzL st.tm) a:=R.fz hfr hs (fun _ _ h=>absurd h Z2z) _
 obtain ⟨nx,u,w',m',cn',hrun,hnx,hi',hs',hR⟩:=Qqw (X:=Q8y X w m cn []) hT (n0:=0) rfl h w _ _ a hinv hs0
 obtain ⟨cn2,d,a1,a2,a3,a4,a5⟩:=Qcs 0 x ht (N:=st2.ob.length) hi' (Nat.le_refl _) hR
 have htrim:=a1.trim (n:=0) (Nat.zero_le _) (Nat.zero_le _) (fun o ho=>by simp at ho)
 have hRl:=R.limM (n:=0) (m':=fun id=>if id<0 then m' id else none) (fun id hid=>by simp at hid) a3 hl
 have h5: ∀z,d z≤cn2 st2.ob.length z:=fun z=>by have:=a4 z;omega
 have htrim:Inv (Q8y X w m cn []) w' [] (fun id=>if id<0 then m' id else none) cn2:=htrim
 have hnewb: ∀b,0<d b→w.heap.size≤b:=by
  intro b hb
  obtain ⟨_,g2⟩:=htrim.new _ b (Nat.lt_of_lt_of_le hb (h5 b))
  rcases g2 with g2|⟨id,g2⟩
  ·exact g2
  ·rw[Q5n rfl] at g2;exact absurd g2 Z2z
 obtain ⟨c1,c2,c3,c4⟩:=Q7t hi (ps:=[]) List.nodup_nil (fun id h=>by simp at h) htrim hRl rfl (Nat.zero_le _) h5 (Nat.le_refl _)
 replace c1:Inv X w' st.ob m _:=c1
 obtain ⟨cn3,b1,b2,b3⟩:=c1.freezeN (Nat.le_refl _) c3 c4 (fun b hb=>Nat.le_trans hi.le (hnewb b hb))
 rw[Qda] at b3
 exact ⟨nx,u,w',m,cn3,hrun,hnx,b1,b2.Sl (c2.Sl hs),b3⟩
theorem Q8.frz(hT:TOK P T){x r r':V}{st2:St}{ob2:List Ob}(h:opB T 0 ⟨fzL st.tm,[]⟩ o.op=some (x,st2))(ht:Q88 0 st2.ob x=some (r,ob2))(hl:r.lim 0=true)(hr:r.fz=r')
  (hg:gd ops st o.guard=some true) (k:Q8 P X ops rest ⟨Q2l o.dst r' st.tm,st.ob⟩ s2):Q8 P X ops (o::rest) st s2:=Q8.oko (hr▸OKo.frz hT h ht hl) hg k
end
end Go.Ev
namespace Go.Ev
open Go
section
variable {X:Ctx} {w:World} {ob:List Ob} {m:Mp} {cn:Nat→Cnt}
theorem Inv.hideN(hi:Inv X w ob m cn)(L:List Nat){n:Nat}(hn:n≤ob.length):Inv (Q75 X w m cn L n) w (hid L ob) m (cnH L cn)∧ ∀b,b<w.heap.size→frz X cn b→frz (Q75 X w m cn L n) (cnH L cn) b:=by
 have hle: ∀i b,cnH L cn i b≤cn i b:=fun i b=>by unfold cnH;split<;>simp[z0]
 have hfr: ∀b,b<w.heap.size→frz X cn b→frz (Q75 X w m cn L n) (cnH L cn) b:=fun b hb h=>⟨.inl ⟨hb,h⟩,fun id=>by have:=hle id b;have:=h.2 id;omega⟩
 refine ⟨⟨Nat.le_refl _,fun _ _ _=>rfl,rfl,rfl,rfl,fun i o ho=> ?_,fun b i j h1 h2=>hi.dis b i j (Nat.lt_of_lt_of_le h1 (hle _ _)) (Nat.lt_of_lt_of_le h2 (hle _ _)),fun i b=>Nat.le_trans (hle i b) (hi.one i b),
  fun i b h=>⟨(hi.new i b (Nat.lt_of_lt_of_le h (hle i b))).1,.inr ?_⟩,fun i h=>hi.fresh i (by rw[Qb3] at h;exact h),fun _ _=>rfl,hi.mlt,by rw[Qb3];exact hn,fun _ _=>rfl⟩,hfr⟩
 ·rcases Qvc L ob i o ho with ⟨_,rfl⟩|⟨h1,h2⟩
  ·trivial
  ·have:cnH L cn i=cn i:=by unfold cnH;rw[if_neg h1]
   rw[this]
   exact (hi.obj i o h2).mono hfr
 ·by_cases hL:i∈L
  ·unfold cnH at h;rw[if_pos hL] at h;exact absurd h Z2z
  ·exact ⟨i,hL,Nat.lt_of_lt_of_le h (hle i b)⟩
theorem Inv.unhideN{L:List Nat}{n:Nat}{w':World}{ob':List Ob}{m':Mp}{cn':Nat→Cnt}(hi:Inv X w ob m cn)(hX:X.n0≤n)(hn:n≤ob.length)(hL: ∀id∈L,id<n)(hlim: ∀id∈L,Qy9 n (ob.getD id none)=true)(h':Inv (Q75 X w m cn L n) w' ob' m' cn'):
  Inv X w' (unh ob L ob') m' (cnU L cn cn')∧(∀b,frz (Q75 X w m cn L n) cn' b→frz X (cnU L cn cn') b)∧
   (∀b,b<w.heap.size→(frz X cn b∨ ∃id∈L,0<cn id b)→w'.heap[b]? =w.heap[b]?)∧(∀b,b<w.heap.size→frz X cn b→frz X (cnU L cn cn') b):=by
 have hin: ∀id,id∈L→cnU L cn cn' id=cn id:=fun id h=>by unfold cnU;rw[if_pos h]
 have hout: ∀id,id∉L→cnU L cn cn' id=cn' id:=fun id h=>by unfold cnU;rw[if_neg h]
 have hfr: ∀b,frz (Q75 X w m cn L n) cn' b→frz X (cnU L cn cn') b:=by
  rintro b ⟨h1,h2⟩
  rcases h1 with ⟨hb,h1⟩|hb
  ·refine ⟨h1.1,fun id=> ?_⟩
   by_cases h:id∈L
   ·rw[hin id h];exact h1.2 id
   ·rw[hout id h];exact h2 id
  ·have hb:w.heap.size≤b:=hb
   refine ⟨.inr (Nat.le_trans hi.le hb),fun id=> ?_⟩
   by_cases h:id∈L
   ·rw[hin id h]
    rcases Nat.eq_zero_or_pos (cn id b) with h0|h0
    ·exact h0
    ·have:=(hi.new id b h0).1;omega
   ·rw[hout id h];exact h2 id
 have hnew': ∀id b,0<cn' id b→b<w.heap.size→ ∃k,k∉L∧0<cn k b:=fun id b h hb=>by
  rcases (h'.new id b h).2 with h|h
  ·have:w.heap.size≤b:=h
   omega
  ·exact h
 have hfrz2: ∀b,b<w.heap.size→frz X cn b→frz X (cnU L cn cn') b:=fun b hb h=>⟨h.1,fun id=>by
  by_cases hl:id∈L
  ·rw[hin id hl];exact h.2 id
  ·rw[hout id hl]
   rcases Nat.eq_zero_or_pos (cn' id b) with h0|h0
   ·exact h0
   ·obtain ⟨k,_,hk⟩:=hnew' id b h0 hb
    have:=h.2 k;omega⟩
 have hheap: ∀b,b<w.heap.size→(frz X cn b∨ ∃id∈L,0<cn id b)→w'.heap[b]? =w.heap[b]? :=fun b hb h=>by
  refine h'.kept b hb fun ⟨k,hk,hc⟩=> ?_
  rcases h with h|⟨id,hid,hc2⟩
  ·have:=h.2 k;omega
  ·have:=hi.dis b id k hc2 hc
   subst this
   exact hk hid
 have hmp: ∀id x,(if id<n then m id else none)=some x→m' id=some x∧w'.shape? x.1=w.shape? x.1:=fun id x h=>by
  split at h
  ·rename_i hid
   have:=h'.pas id hid
   exact ⟨by rw[this];exact h,h'.shp x.1 (hi.mlt id x h)⟩
  ·cases h
 refine ⟨⟨Nat.le_trans hi.le h'.le,fun b hb ho=> ?_,h'.os.trans hi.os,h'.tape.trans hi.tape,h'.output.trans hi.output,fun i o ho=> ?_,fun b i j h1 h2=> ?_,fun i b=> ?_,fun i b h=> ?_,
  fun i h=>h'.fresh i (by rw[Qaw] at h;exact h),fun i h=> ?_,h'.mlt,by rw[Qaw];exact Nat.le_trans hX h'.n0,fun b hb=> ?_⟩,hfr,hheap,hfrz2⟩
 ·rw[h'.kept b (Nat.lt_of_lt_of_le hb hi.le) (fun ⟨k,_,hk⟩=> ?_)]
  ·exact hi.kept b hb ho
  ·rcases (hi.new k b hk).2 with h|h
   ·omega
   ·exact ho h
 ·rcases Qun ob L ob' i o ho with ⟨h1,rfl⟩|⟨h1,h2⟩
  ·rw[hin i h1]
   have hltn:=hL i h1
   have hlt:=Nat.lt_of_lt_of_le hltn hn
   have hli:=hlim i h1
   rw[List.getD_eq_getElem?_getD,List.getElem?_eq_getElem hlt,Option.getD_some] at hli
   have h3:=hi.obj i _ (List.getElem?_eq_getElem hlt)
   rw[List.getD_eq_getElem?_getD,List.getElem?_eq_getElem hlt,Option.getD_some]
   cases hob:ob[i] with
   |none=>trivial
   |some p=>
    rw[hob] at h3 hli
    have hmi:m' i=m i:=h'.pas i hltn
    rcases h3 with ⟨g1,g2,g3⟩|⟨b,cur,e,c,g1,g2,g3,g4,g5,g6⟩
    ·exact .inl ⟨g1,by rw[hmi];exact g2,g3⟩
    ·have hb0:0<cn i b:=by rw[g6];simp
     have hbl:=(hi.new i b hb0).1
     have hk:=hheap b hbl (.inr ⟨i,h1,hb0⟩)
     refine .inr ⟨b,cur,e,c,by rw[hmi];exact g1,by rw[hk];exact g2,g3,g4,(g5.limM (n:=n) (m':=fun id=>if id<n then m id else none) (fun id hid=>if_pos hid) (Qtw hli)).mono h'.le (fun x hx hf=>⟨hfrz2 x hx hf,hheap x hx (.inl hf)⟩) (fun x hx=> ?_) (.inr hk) hmp,g6⟩
     have hx0:0<cn i x:=by rw[g6];omega
     exact hheap x (hi.new i x hx0).1 (.inr ⟨i,h1,hx0⟩)
  ·rw[hout i h1]
   exact (h'.obj i o h2).mono (fun b _ h=>hfr b h)
 ·by_cases hl1:i∈L<;>by_cases hl2:j∈L
  ·rw[hin _ hl1] at h1;rw[hin _ hl2] at h2;exact hi.dis b i j h1 h2
  ·rw[hin _ hl1] at h1;rw[hout _ hl2] at h2
   obtain ⟨k,hk,hc⟩:=hnew' j b h2 (hi.new i b h1).1
   have:=hi.dis b i k h1 hc
   subst this;exact absurd hl1 hk
  ·rw[hout _ hl1] at h1;rw[hin _ hl2] at h2
   obtain ⟨k,hk,hc⟩:=hnew' i b h1 (hi.new j b h2).1
   have:=hi.dis b j k h2 hc
   subst this;exact absurd hl2 hk
  ·rw[hout _ hl1] at h1;rw[hout _ hl2] at h2;exact h'.dis b i j h1 h2
 ·by_cases hl:i∈L
  ·rw[hin _ hl];exact hi.one i b
  ·rw[hout _ hl];exact h'.one i b
 ·by_cases hl:i∈L
  ·rw[hin _ hl] at h
   have:=hi.new i b h
   exact ⟨Nat.lt_of_lt_of_le this.1 h'.le,this.2⟩
  ·rw[hout _ hl] at h
   obtain ⟨g1,g2⟩:=h'.new i b h
   refine ⟨g1,?_⟩
   rcases g2 with g2|⟨k,_,hk⟩
   ·exact .inl (Nat.le_trans hi.le g2)
   ·exact (hi.new k b hk).2
 ·rw[h'.pas i (Nat.lt_of_lt_of_le h hX)];exact hi.pas i h
 ·rw[h'.shp b (Nat.lt_of_lt_of_le hb hi.le)];exact hi.shp b hb
end
section
variable {P:Program} {X:Ctx} {st s1 s2 s3:St} {Q:Exit→St→Prop} {T:Nat→Option TI} {ls:List Oper} {L:List Nat}
inductive Q4c (P:Program) (T:Nat→Option TI) (n0:Nat) (ops:Array Oper) (L:List Nat):Tm→St→St→Prop
 |tail {s:St}:Q4c P T n0 ops L .tail s s
 |stop {s s2:St}:Q4c P T n0 ops L .stop s s2
 |sw {a b:Nat} {t:Tm} {s s' s2:St} (hb:n0≤a∧n0≤b∧a<s.ob.length∧b<s.ob.length) (hl:a∉L∧b∉L) (he:s.swap a b=s') (k:Q4c P T n0 ops L t s' s2):Q4c P T n0 ops L t s s2
 |pur {A:List Nat} {t r:Tm} {s s1 s2:St} (h:Q4q T n0 ops L A s=some s1) (he:t=Q17 A r) (k:Q4c P T n0 ops L r s1 s2):Q4c P T n0 ops L t s s2
 |alt {i:Nat} {o:Oper} {t r:Tm} {s s' s1 s2:St} (ho:ops[i]? =some o) (N:Nat) (hn:n0≤N∧N≤s.ob.length) (hL: ∀id∈L,id<N) (hlim:(L.all fun id=>Qy9 N (s.ob.getD id none))=true)
   (h: ∀X':Ctx,X'.n0=N→Q8 P X' ops [o] ⟨s.tm,hid L s.ob⟩ s') (he:(⟨s'.tm,unh s.ob L s'.ob⟩:St)=s1) (k:Q4c P T n0 ops L t s1 s2) (kr:Q4c P T n0 ops L r s s2):Q4c P T n0 ops L (.alt i t r) s s2
theorem Qtg(hT:TOK P T){n n0:Nat}(hX:X.n0=n0){ops:Array Oper}{Qf:Exit→Act→World→Prop}{l:Tm}(h:Q4c P T n0 ops L l st s1):
  ∀{w:World} {m:Mp} {cn:Nat→Cnt} {a:Act},Inv X w st.ob m cn→Sl X w m cn st.tm a→a.defers=[]→
   (∀w m cn a,Inv X w s1.ob m cn→Sl X w m cn s1.tm a→a.defers=[]→wpList P ops Qf (ops.toList.drop n) a w)→Q9z P ops Qf n l (Kr X cn L w) a w:=by
 induction h with
 |tail=>intro w m cn a hi hs hd hk;exact hk w m cn a hi hs hd
 |stop=>intro w m cn a hi hs hd hk;trivial
 | @sw a b t s s' s2 hb hl he k ih=>
  intro w m cn act hi hs hd hk
  subst he
  obtain ⟨g1,g2,g3⟩:=Qqn a b (by rw[hX];exact hb) hi hs
  have hKr:Kr X (fun id=>cn (swp a b id)) L w=Kr X cn L w:=by
   funext x
   refine propext ⟨fun h=>⟨h.1,fun bl hbl hc=>h.2 bl hbl ?_⟩,fun h=>⟨h.1,fun bl hbl hc=>h.2 bl hbl ?_⟩⟩
   ·rw[g1]
    refine hc.imp id fun ⟨id,hid,h0⟩=>⟨id,hid,?_⟩
    have e1:id≠a:=fun e=>hl.1 Z81
    have e2:id≠b:=fun e=>hl.2 Z81
    show 0<cn (swp a b id) bl
    rw[show swp a b id=id from by unfold swp;rw[if_neg e1,if_neg e2]];exact h0
   ·rw[g1] at hc
    refine hc.imp id fun ⟨id,hid,h0⟩=>⟨id,hid,?_⟩
    have e1:id≠a:=fun e=>hl.1 Z81
    have e2:id≠b:=fun e=>hl.2 Z81
    have h0:0<cn (swp a b id) bl:=h0
    rwa [show swp a b id=id from by unfold swp;rw[if_neg e1,if_neg e2]] at h0
  have:=ih g2 g3 hd hk
  rwa [hKr] at this
 | @pur A l r s s1 s2 h he k ih=>
  intro w m cn a hi hs hd hk
  subst he
  exact Qi5 hT h hi hs hd fun a' hs2 hd2=>ih (Qb0 h▸hi) hs2 hd2 hk
 | @alt i o t r s s' s1 s2 ho N hn hL hlim h he k kr ih ihr=>
  intro w m cn a hi hs hd hk
  subst he
  refine ⟨?_,ihr hi hs hd hk⟩
  obtain ⟨h1,h2⟩:=hi.hideN L hn.2
  have hs':Sl (Q75 X w m cn L N) w m (cnH L cn) s.tm a:=hs.mono (Nat.le_refl _) (fun b hb hf=>⟨h2 b hb hf,rfl⟩) (fun _ _=>rfl) trivial (fun _ _ h=>⟨h,rfl⟩)
  have hr:=h (Q75 X w m cn L N) rfl [] (fun e st=>e= .normal∧st=s') (Q8w ⟨rfl,rfl⟩) w m (cnH L cn) a h1 hs' hd
  have step:wpList P ops (post (Q75 X w m cn L N) (fun e st=>e= .normal∧st=s')) [o] a w:=hr
  have fin: ∀a' w',post (Q75 X w m cn L N) (fun e st=>e= .normal∧st=s') .normal a' w'→ ∃S':World→Prop,(∀x,S' x→Kr X cn L w x)∧S' w'∧Q9z P ops Qf n t S' a' w':=by
   rintro a' w' ⟨st2,m',cn',⟨_,rfl⟩,hi',hs2,hd'⟩
   obtain ⟨u1,u2,u3,u4⟩:=hi.unhideN (by rw[hX];exact hn.1) hn.2 hL (fun id hid=>List.all_eq_true.1 hlim id hid) hi'
   refine ⟨Kr X (cnU L cn cn') L w',fun x hx=>⟨Nat.le_trans hi'.le hx.1,fun b hb hc=> ?_⟩,Kr.refl _,
    ih u1 (hs2.mono (Nat.le_refl _) (fun b _ hf=>⟨u2 b hf,rfl⟩) (fun _ _=>rfl) trivial (fun _ _ h=>⟨h,rfl⟩)) hd' hk⟩
   rw[hx.2 b (Nat.lt_of_lt_of_le hb hi'.le) (hc.imp (u4 b hb) (fun ⟨id,hid,hc⟩=>⟨id,hid,by unfold cnU;rw[if_pos hid];exact hc⟩)),u3 b hb hc]
  show wpOp P ops Qf i _ a w
  unfold wpOp
  simp only[ho]
  unfold wpList at step
  split
  ·rename_i hw
   rw[if_pos hw] at step
   rcases step with step|⟨_,a',w',st2,m',cn',⟨h0,_⟩,_⟩
   ·exact .inl (Qcq (fun a' w' h=>fin a' w' h) (fun e a' w' hne ⟨st2,m',cn',⟨h0,_⟩,_⟩=>absurd h0 hne) step)
   ·cases h0
  ·rename_i hw
   rw[if_neg hw] at step
   exact fin _ _ step
theorem Q13m{id n:Nat}{l:Tm}(hm:P.follows .mixedOrders=true)(hB:Qss .any ls.toArray n l=true)(hT:TOK P T){n0:Nat}(hX:X.n0=n0)
  (hH:Q4c P T n0 ls.toArray L l st s2) (h2:Q8 P X ls.toArray (ls.drop n) s2 s3) (hq:Q .normal s3):W P X (.region id ls.toArray true) st Q:=by
 intro w m cn a hi hs hd
 have hi':Inv X {w with drawn:=w.drawn+1} st.ob m cn:=hi.drew
 have hs':Sl X {w with drawn:=w.drawn+1} m cn st.tm a:=Ext.drew.Sl hs
 refine Code.wp_mono (Q:=Qtq (post X Q)) (fun e a' w' h=> ?_) ?_
 ·cases e<;>exact Z9g
 refine Qkm (S:=Kr X cn L {w with drawn:=w.drawn+1}) hm hB (fun _ _ _ h=>h) (Kr.refl _) ?_
 refine Qtg hT hX hH hi' hs' hd (fun w3 m3 cn3 a3 hi3 hs3 hd3=> ?_)
 have:=h2 [] (fun e s=>e= .normal∧Q .normal s) (Q8w ⟨rfl,hq⟩) w3 m3 cn3 a3 hi3 hs3 hd3
 rw[List.append_nil] at this
 refine Q4a (fun a w ⟨s,m,cn,⟨_,h⟩,r⟩=>⟨s,m,cn,h,r⟩) (fun e a w hne ⟨s,m,cn,⟨h0,_⟩,_⟩=>absurd h0 hne) _ _ _ this
theorem Q170{id:Nat}{y:Code}(n:Nat)(l:Tm)(ks:List Nat)(L:List Nat)(hm:P.follows .mixedOrders=true)(hB:Qss .any ls.toArray n l=true)(hT:TOK P T){n0:Nat}(hX:X.n0=n0)
  (hH:Q4c P T n0 ls.toArray L l st s2) (h2:Q8 P X ls.toArray (ls.drop n) s2 s3) (hk:W P X y (s3.keep ks) Q):W P X (.seq (.region id ls.toArray true) y) st Q:=
 Q4 (Q13m hm hB hT hX hH h2 (Q15 (Le.keep ks s3) hk))
end
end Go.Ev
namespace Go.Ev
open Go
section
variable {P:Program} {ops:Array Oper} {Q:Exit→Act→World→Prop}
def Qdz(P:Program)(md:Region.Mode)(ops:Array Oper)(Q:Exit→Act→World→Prop)(S:World→Prop):Nat→Array Bool→Act→World→Prop
 |0,listed,a,w=>Region.ready md ops listed=[]∧Q .normal a w
 |f+1,listed,a,w=>(Region.ready md ops listed=[]→Q .normal a w)∧
  ∀i∈Region.ready md ops listed,wpOp P ops Q i (fun a' w'=>S w'∧Qdz P md ops Q S f (listed.setIfInBounds i true) a' w') a w
theorem Qqj{md:Region.Mode}{S:World→Prop}: ∀(f:Nat) (listed:Array Bool) (a:Act) (w:World),Qdz P md ops Q S f listed a w→wpAny P md ops Q f listed a w
 |0,_,_,_,h=>h
 |f+1,_,_,_,h=>⟨h.1,fun i hi=>wpOp_mono (fun a' w' h'=>Qqj f _ a' w' h'.2) (h.2 i hi)⟩
theorem Qw2{md:Region.Mode}{S S':World→Prop}(hS: ∀w,S' w→S w): ∀(f:Nat) (listed:Array Bool) (a:Act) (w:World),Qdz P md ops Q S' f listed a w→Qdz P md ops Q S f listed a w
 |0,_,_,_,h=>h
 |f+1,_,_,_,h=>⟨h.1,fun i hi=>wpOp_mono (fun a' w' h'=>⟨hS _ h'.1,Qw2 hS f _ a' w' h'.2⟩) (h.2 i hi)⟩
theorem Quk{md:Region.Mode}{S:World→Prop}{i:Nat}{oi:Oper}{v:Value}(hi:ops[i]? =some oi)(hsel: ∀(j:Nat) (o:Oper) cs b,ops[j]? =some o→o.op≠ .select cs b)
  (hQ: ∀c a w,¬Q (.panic c) a w):
  ∀(f:Nat) (listed:Array Bool) (a:Act) (w:World),HeadInv md ops ops.size listed→
   (∀j oj,ops[j]? =some oj→j≠i→listed.getD j true=false→(∀e∈oj.after,Region.binds md e=true→e.on≠i)→oi.apart ops oj=true)→
   i∈Region.ready md ops listed→YieldsIf P ops S oi v a→S w→
   Qdz P md ops Q S f (listed.setIfInBounds i true) (a.put oi.dst v) w→Qdz P md ops Q S (f+1) listed a w:=by
 intro f
 induction f with
 |zero=>
  intro listed a w inv _ hr hy hS H
  refine ⟨fun h=>Zbk,fun j hj=> ?_⟩
  by_cases hji:j=i
  ·subst hji;exact hy.wpOp hi hS ⟨hS,H⟩
  ·have:=ready_mono hj hji
   rw[H.1] at this
   cases this
 |succ f ih=>
  intro listed a w inv hfree hr hy hS H
  have hun:=(mem_ready.1 hr).1
  refine ⟨fun h=>Zbk,fun j hj=> ?_⟩
  have hjn:j<ops.size:=by obtain ⟨_,oj,hoj,_⟩:=mem_ready.1 hj;exact (Array.getElem?_eq_some_iff.1 hoj).1
  by_cases hji:j=i
  ·subst hji;exact hy.wpOp hi hS ⟨hS,H⟩
  ·have h1:=H.2 j (ready_mono hj hji)
   obtain ⟨hjun,oj,hoj,hall⟩:=mem_ready.1 hj
   have hnot: ∀e∈oj.after,Region.binds md e=true→e.on≠i:=fun e he hb heq=>by
    have h1:=hall e he hb
    rw[heq,getD_both hun] at h1
    cases h1
   have h2:=wpOp_putIf hoj (hfree j oj hoj hji hjun hnot) (fun cs b=>hsel i oi cs b hi) (fun cs b=>hsel j oj cs b hoj) (fun c a w h=>absurd h (hQ _ _ _)) hy h1
   have hfree': ∀k ok,ops[k]? =some ok→k≠i→(listed.setIfInBounds j true).getD k true=false→
     (∀e∈ok.after,Region.binds md e=true→e.on≠i)→oi.apart ops ok=true:=fun k ok hk hki hun hno=>by
    refine hfree k ok hk hki ?_ hno
    by_cases hjk:j=k
    ·subst hjk;exact hjun
    ·rw[getD_set_ne true hjk] at hun;exact hun
   refine wpOp_mono (fun a' w' h3=>⟨h3.2.1,ih (listed.setIfInBounds j true) a' w' (inv.set hj hjn) hfree' (ready_mono hr (Ne.symm hji)) h3.1 h3.2.1 ?_⟩) h2
   rw[Array.setIfInBounds_comm _ _ hji]
   exact h3.2.2
def tmZ(md:Region.Mode)(ops:Array Oper):Tm→Nat→Array Bool→Bool→Bool
 | .tail,k,listed,fst=>fst&&decide (k=0)&&decide (Region.ready md ops listed=[])
 | .stop,_,_,fst=> !fst
 | .pur i t,k,listed,fst=>fst&&decide (i<ops.size)&&decide (0<k)&&(Region.ready md ops listed).contains i&&Region.free md ops listed i&&tmZ md ops t (k-1) (listed.setIfInBounds i true) true
 | .alt i t r,k,listed,fst=>(!fst||decide (Region.ready md ops listed=i::r.ids))&&decide (i<ops.size)&&decide (0<k)&&tmZ md ops t (k-1) (listed.setIfInBounds i true) true&&tmZ md ops r k listed false
def tmsZ(md:Region.Mode)(ops:Array Oper)(t:Tm):Bool:=Region.noSelect ops&&tmZ md ops t ops.size (Array.replicate ops.size false) true
theorem Qhz{md:Region.Mode}(hsel:Region.noSelect ops=true)(hQ: ∀c a w,¬Q (.panic c) a w):
  ∀(t:Tm) (k:Nat) (S:World→Prop) (listed:Array Bool) (a:Act) (w:World),HeadInv md ops ops.size listed→S w→
   (tmZ md ops t k listed true=true→Q9z P ops Q ops.size t S a w→Qdz P md ops Q S k listed a w)∧
   (tmZ md ops t k listed false=true→Q9z P ops Q ops.size t S a w→ ∀j∈t.ids,j∈Region.ready md ops listed→0<k∧wpOp P ops Q j (fun a' w'=>S w'∧Qdz P md ops Q S (k-1) (listed.setIfInBounds j true) a' w') a w)
 | .tail,k,S,listed,a,w,inv,hS=>by
  refine ⟨fun hB h=> ?_,fun hB _=> ?_⟩
  ·simp only[tmZ,Bool.true_and,Bool.and_eq_true,decide_eq_true_eq] at hB
   obtain ⟨rfl,hB⟩:=hB
   have h:wpList P ops Q (ops.toList.drop ops.size) a w:=h
   rw[List.drop_eq_nil_of_le Z3] at h
   exact ⟨hB,h⟩
  ·simp[tmZ] at hB
 | .stop,k,S,listed,a,w,inv,hS=>by
  refine ⟨fun hB=> ?_,fun _ _ j hj=> ?_⟩
  ·simp[tmZ] at hB
  ·simp[Tm.ids] at hj
 | .pur i t,k,S,listed,a,w,inv,hS=>by
  refine ⟨fun hB h=> ?_,fun hB=> ?_⟩
  ·simp only[tmZ,Bool.true_and,Bool.and_eq_true,decide_eq_true_eq] at hB
   obtain ⟨⟨⟨⟨hin,hk⟩,hr⟩,hf⟩,hB⟩:=hB
   obtain ⟨oi,v,hi,hy,h⟩:=h
   have hr':i∈Region.ready md ops listed:=by simpa using hr
   have:=(Qhz hsel hQ t (k-1) S _ _ _ (inv.set hr' hin) hS).1 hB h
   rw[show k=(k-1)+1 from by omega]
   exact Quk hi (Region.noSelect_spec hsel) hQ _ listed a w inv (Region.free_spec hi hf) hr' hy hS this
  ·simp[tmZ] at hB
 | .alt i t r,k,S,listed,a,w,inv,hS=>by
  have hr2:=(Qhz hsel hQ r k S listed a w inv hS).2
  have here:tmZ md ops t (k-1) (listed.setIfInBounds i true) true=true→i<ops.size→i∈Region.ready md ops listed→wpOp P ops Q i (fun a' w'=> ∃S':World→Prop,(∀x,S' x→S x)∧S' w'∧Q9z P ops Q ops.size t S' a' w') a w→
    wpOp P ops Q i (fun a' w'=>S w'∧Qdz P md ops Q S (k-1) (listed.setIfInBounds i true) a' w') a w:=fun hB hin hmem h=>
   wpOp_mono (fun a' w' ⟨S',h1,h2,h3⟩=>⟨h1 _ h2,Qw2 h1 _ _ _ _ ((Qhz hsel hQ t (k-1) S' _ a' w' (inv.set hmem hin) h2).1 hB h3)⟩) h
  refine ⟨fun hB h=> ?_,fun hB h j hj hjr=> ?_⟩
  ·simp only[tmZ,Bool.not_true,Bool.false_or,Bool.and_eq_true,decide_eq_true_eq] at hB
   obtain ⟨⟨⟨⟨hr,hin⟩,hk⟩,hB⟩,hB2⟩:=hB
   rw[show k=(k-1)+1 from by omega]
   refine ⟨fun h0=>Z7l,fun j hj=> ?_⟩
   have hmem:=hj
   rw[hr] at hj
   rcases List.mem_cons.1 hj with rfl|hj
   ·exact wpOp_mono (fun a' w' h'=>⟨h'.1,h'.2⟩) (here hB hin hmem h.1)
   ·exact wpOp_mono (fun a' w' h'=>⟨h'.1,h'.2⟩) (hr2 hB2 h.2 j hj hmem).2
  ·simp only[tmZ,Bool.not_false,Bool.true_or,Bool.true_and,Bool.and_eq_true,decide_eq_true_eq] at hB
   obtain ⟨⟨⟨hin,hk⟩,hB⟩,hB2⟩:=hB
   rcases List.mem_cons.1 (show j∈i::r.ids from hj) with rfl|hj
   ·exact ⟨hk,here hB hin hjr h.1⟩
   ·exact hr2 hB2 h.2 j hj hjr
theorem Qsq{id:Nat}{S:World→Prop}{t:Tm}{a:Act}{w:World}(hm:P.follows .mixedOrders=true)(hB:tmsZ .any ops t=true)(hQ: ∀c a w,¬Q (.panic c) a w)
  (hS:S {w with drawn:=w.drawn+1}) (h:Q9z P ops Q ops.size t S a {w with drawn:=w.drawn+1}):(Code.region id ops true).wp P Q a w:=by
 simp only[tmsZ,Bool.and_eq_true] at hB
 obtain ⟨hsel,hhead⟩:=hB
 have inv0:HeadInv .any ops ops.size (Array.replicate ops.size false):=
  ⟨by simp,fun j oj _ hl=>Z6f,fun t h1 h2=>absurd h2 Zb⟩
 have:=(Qhz hsel hQ t ops.size S _ _ _ inv0 hS).1 hhead h
 exact wp_region_any hm (Qqj _ _ _ _ this)
end
section
variable {P:Program} {X:Ctx} {st s1 s2 s3:St} {Q:Exit→St→Prop} {T:Nat→Option TI} {ls:List Oper} {L:List Nat}
theorem Q16y{id:Nat}{l:Tm}(hm:P.follows .mixedOrders=true)(hB:tmsZ .any ls.toArray l=true)(hT:TOK P T){n0:Nat}(hX:X.n0=n0)
  (hH:Q4c P T n0 ls.toArray L l st s2) (hq:Q .normal s2):W P X (.region id ls.toArray true) st Q:=by
 intro w m cn a hi hs hd
 have hi':Inv X {w with drawn:=w.drawn+1} st.ob m cn:=hi.drew
 have hs':Sl X {w with drawn:=w.drawn+1} m cn st.tm a:=Ext.drew.Sl hs
 refine Code.wp_mono (Q:=Qtq (post X Q)) (fun e a' w' h=> ?_) ?_
 ·cases e<;>exact Z9g
 refine Qsq (S:=Kr X cn L {w with drawn:=w.drawn+1}) hm hB (fun _ _ _ h=>h) (Kr.refl _) ?_
 refine Qtg hT hX hH hi' hs' hd (fun w3 m3 cn3 a3 hi3 hs3 hd3=> ?_)
 rw[List.drop_eq_nil_of_le Z3]
 exact ⟨_,_,_,hq,hi3,hs3,hd3⟩
theorem Q16z{id:Nat}{y:Code}(l:Tm)(ks:List Nat)(L:List Nat)(hm:P.follows .mixedOrders=true)(hB:tmsZ .any ls.toArray l=true)(hT:TOK P T){n0:Nat}(hX:X.n0=n0)
  (hH:Q4c P T n0 ls.toArray L l st s2) (hk:W P X y (s2.keep ks) Q):W P X (.seq (.region id ls.toArray true) y) st Q:=
 Q4 (Q16y hm hB hT hX hH (Q15 (Le.keep ks s2) hk))
end
end Go.Ev
namespace Go.Ev
open Go
def St.nilF(p e j k:Nat)(s:St):Option St:=
 match s.ob[p]? with
 |some (some (kp,xs))=>match (xs.getD e .junk).cells[j]? with
  |some (.raw (.slice none 0 0))=>if e<xs.length then some ⟨s.tm,s.ob.set p (some (kp,xs.set e (Qe6 (xs.getD e .junk) j [.lst false k []])))⟩ else none
  |_=>none
 |_=>none
theorem Le.nilF{X:Ctx}(p e j k:Nat){s s':St}(h:s.nilF p e j k=some s'):Le X s s':=by
 unfold St.nilF at h
 split at h
 ·rename_i kp xs hp
  split at h
  ·rename_i hx
   split at h
   ·rename_i he
    cases h
    refine fun w m cn a hi hs=> ?_
    have h1:=hi.wkC hp he (List.getElem?_eq_some_iff.1 hx).1 hx (y:= .lst false k []) rfl (Wk.nilSlice _ _)
    exact ⟨m,_,h1,hs⟩
   ·cases h
  ·cases h
 ·cases h
end Go.Ev
namespace Go.Ev
open Go
def CtE(P:Program)(f:FuncId)(args:List V)(ob:List Ob)(S:V→List Ob→Prop):Prop:=
 ∀(w:World) (fr:Nat→Prop) (m:Mp) (cn:Nat→Cnt) (us:List Value),(∀b,fr b→b<w.heap.size∧ ∀id,cn id b=0)→
  Inv ⟨w,fr,fun b=> ∃id,0<cn id b,m,ob.length⟩ w ob m cn→R w (frz ⟨w,fr,fun b=> ∃id,0<cn id b,m,ob.length⟩ cn) m (.list args us) z0→
  Calls P f us.toArray w fun e w'=> ∃r ob' u m' cn' d,S r ob'∧e= .returned u∧Inv ⟨w,fr,fun b=> ∃id,0<cn id b,m,ob.length⟩ w' ob' m' cn'∧
   R w' (frz ⟨w,fr,fun b=> ∃id,0<cn id b,m,ob.length⟩ cn') m' (.one r u) d∧ob'.length=ob.length∧
   ∃n,ob.length≤n∧ ∀z,d z≤cn' n z
def Q160(T:Nat→Option TI)(fn:Func)(n0:Nat)(S:V→List Ob→Prop)(e:Exit)(st:St):Prop:= ∃r ob',S r ob'∧Qj6 T fn n0 r ob' e st
theorem CtE.of{P:Program}{f:FuncId}{args:List V}{ob ob':List Ob}{r:V}{S:V→List Ob→Prop}(h:Ct P f args ob r ob')(hs:S r ob'):CtE P f args ob S:=fun w fr m cn us h1 h2 h3=>
 Calls.mono (h w fr m cn us h1 h2 h3) fun e w' ⟨u,m',cn',d,h⟩=>⟨r,ob',u,m',cn',d,hs,h⟩
theorem CtE.mono{P:Program}{f:FuncId}{args:List V}{ob:List Ob}{S S':V→List Ob→Prop}(hs: ∀r ob',S r ob'→S' r ob')(h:CtE P f args ob S):CtE P f args ob S':=fun w fr m cn us h1 h2 h3=>
 Calls.mono (h w fr m cn us h1 h2 h3) fun e w' ⟨r,ob',u,m',cn',d,hq,h⟩=>⟨r,ob',u,m',cn',d,hs _ _ hq,h⟩
section
variable {P:Program} {X:Ctx} {ops:Array Oper} {rest l:List Oper} {st s1:St} {Q:Exit→St→Prop} {o:Oper} {T:Nat→Option TI}
theorem Qkk{α:Type}{x y:Code}(ks:List Nat)(u:α→List (Nat×V))(uo:α→List (Nat×Ob))(I:α→Prop){f:α→St}(hf: ∀a,(st.keep ks).upd (u a) (uo a)=f a)
  (hx:W P X x st (Qg9 (fun s=> ∃a,Le X s (f a)∧I a) Q)) (hy: ∀a,I a→W P X y (f a) Q):W P X x st (Qg9 (fun s=>W P X y s Q) Q):=
 Qys hx fun e s h=>by
  cases e with
  |normal=>obtain ⟨a,h1,h2⟩:=h;exact Q15 h1 (hy a h2)
  |_=>exact h
theorem Qc4{α:Type}{f:α→St}{I:α→Prop}{s:St}(a:α)(ks:List Nat)(h:s.keep ks=f a)(hI:I a): ∃a,Le X s (f a)∧I a:=⟨a,Le.trans (Le.keep ks s) (Le.of_eq h),hI⟩
theorem Qb6{α:Type}{f:α→St}{I:α→Prop}{s:St}(a:α)(ks:List Nat)(n:Nat)(hn0:X.n0≤n)(hn:n≤s.ob.length)(h:(s.keep ks).trim n=f a)(hI:I a): ∃a,Le X s (f a)∧I a:=
 ⟨a,Le.trans (Le.keep ks s) (Le.trans (Le.trim n hn0 _ hn) (Le.of_eq h)),hI⟩
theorem Q160.ret{fn:Func}{n0:Nat}{S:V→List Ob→Prop}{r':V}{ob'':List Ob}(h:Qgu T fn n0 st=some (r',ob''))(hs:S r' ob''):Q160 T fn n0 S .ret st:=⟨_,_,hs,Q1b h (Wk.refl _) rfl⟩
end
end Go.Ev
namespace Go.Ev
open Go
theorem R.lzn{w:World}{fr fr':Nat→Prop}{m m':Mp}{k:Nat}: ∀{xs xs':List V} {us:List Value} {q:Nat} {c c':Cnt},R w fr m (.list xs us) c→(∀z,c z=0)→xs[q]? =some (.lst true k [])→R w fr' m' (.list xs' us) c'→(∀z,c' z=0)→
  R w fr' m' (.list (xs'.set q (.lst true k [])) us) c'
 |[],_,_,_,_,_,_,_,hx,_,_=>by simp at hx
 |x::xs,[],us,q,c,c',h,hc,hx,h',hc'=>by simpa using h'
 |x::xs,x'::xs',us,q,c,c',h,hc,hx,h',hc'=>by
  cases h with
  |lcons h1 h2 he=>
   cases h' with
   |lcons g1 g2 ge=>
    rename_i u us c1 d1 c2 d2
    have e1: ∀z,c1 z=0:=fun z=>by have:=he z;have:=hc z;omega
    have e2: ∀z,d1 z=0:=fun z=>by have:=he z;have:=hc z;omega
    have e3: ∀z,c2 z=0:=fun z=>by have:=ge z;have:=hc' z;omega
    have e4: ∀z,d2 z=0:=fun z=>by have:=ge z;have:=hc' z;omega
    cases q with
    |succ q=>exact .lcons g1 (R.lzn h2 e2 Z8v g2 e4) ge
    |zero=>
     simp at hx
     subst hx
     refine .lcons (c:=fun _=>0) ?_ g2 (fun z=>by have:=ge z;have:=e3 z;omega)
     cases h1 with
     |nil=>exact .nil
     |nilz=>exact .nilz
     |own hb hs hk hn h hc2=>
      rename_i b _ _ _ _
      have:=hc2 b
      have:=e1 b
      simp at*
      omega
section
variable {P:Program} {X:Ctx} {T:Nat→Option TI} {ops:Array Oper} {rest:List Oper} {st s2:St} {o:Oper}
theorem OKo.zlit(hT:TOK P T){t e k:Nat}{y:V}{ti ei:TI}(ho:o.op= .buildSlice t 0 #[])(ht:T t=some ti)(hk:ti.kd= .slice e)(he:T e=some ei)(h:OKo P X st o y st):OKo P X st o (.lst true k []) st:=by
 intro w m cn a hi hs
 obtain ⟨nx,u,w',m',cn',hrun,hnx,h1,h2,h3⟩:=h w m cn a hi hs
 obtain ⟨it,d,z,hit,hut,_,hd,_⟩:=TI.of hT ht
 obtain ⟨ie,d2,z2,hie,_,hz2,_,hsz,hbytes,hzero,_⟩:=TI.of hT he
 rw[hk] at hd
 have:=Q6g hd
 subst this
 have hr: ∃w2,(execOp a.eval o).run P w= .ok (.value (.slice (some ⟨w.heap.size,0,none⟩) 0 0)) w2:=by
  simp[execOp,ho,Instr.buildSlice,Sem.run_bind,run_underlying hut,Q44 hie,Instr.fill,newRow]
 obtain ⟨w2,hr⟩:=hr
 rw[hr] at hrun
 cases hrun
 refine ⟨_,.slice (some ⟨w.heap.size,0,none⟩) 0 0,_,m',cn',hr,.inl rfl,h1,h2,.nilz⟩
theorem OKo.appF(hT:TOK P T){t e i:Nat}{x:Operand}{ti ei:TI}(ho:o.op= .call {callee:= .builtin .append,args:= #[.tmp i,x],argTypes:= #[t,t]})(ht:T t=some ti)(hk:ti.kd= .slice e)(he:T e=some ei)
  (hz0:ei.zero.cells.length=ei.size) {k:Nat} (hi0:st.tm[i]? =some (.lst true k [])) {ys:List V} (hy:Qcu [] (val ⟨(fzL st.tm).set i (.lst true k []),[]⟩ x)=some (ei.size,ys))
  (hbig:ys.length*ei.bytes≤140737488355328) (h63:ys.length≤1099511627776) (hj:jkL (· ==0) ys=ys) (hp:pureL ys=true):OKo P X st o (.lst false ei.size (fzL ys)) st:=by
 intro w m cn a hi hs
 obtain ⟨hinv,hfr⟩:=Qex hi (ps:=[]) List.nodup_nil (fun id h=>by simp at h)
 have hs0:Sl (Q8y X w m cn []) w (fun q=>(([]:List Nat)[q]?).bind m) (Qiy [] cn) (fzL st.tm) a:=R.fz hfr hs (fun _ _ h=>absurd h Z2z) _
 have hs1:Sl (Q8y X w m cn []) w (fun q=>(([]:List Nat)[q]?).bind m) (Qiy [] cn) ((fzL st.tm).set i (.lst true k [])) a:=R.lzn hs (fun _=>rfl) hi0 hs0 (fun _=>rfl)
 have hlt:=(List.getElem?_eq_some_iff.1 hi0).1
 have hval:val ⟨(fzL st.tm).set i (.lst true k []),[]⟩ (.tmp i)= .lst true k []:=by
  simp[val,Q6j,hlt]
 obtain ⟨nx,u,w',m',cn',hrun,hnx,hi',hs',hR⟩:=Qy2 (X:=Q8y X w m cn []) (st:=⟨(fzL st.tm).set i (.lst true k []),[]⟩) hT ho ht hk he hz0 hval hy hbig h63 w _ _ a hinv hs1
 have ht:Q88 0 ([some (ei.size,jkL (· ==0) ys)]:List Ob) (.arr 0 0 ys.length)=some (.lst true ei.size ys,[none]):=by
  simp[Q88,hj,hp]
 simp at hi' hR
 obtain ⟨cn2,d,a1,a2,a3,a4,a5⟩:=Qcs 0 (V.arr 0 0 ys.length) ht (N:=1) hi' (Nat.le_refl _) hR
 have htrim:=a1.trim (n:=0) (Nat.zero_le _) (Nat.zero_le _) (fun o ho=>by simp at ho)
 have hl:(V.lst true ei.size ys).lim 0=true:=by simp[V.lim]
 have hRl:=R.limM (n:=0) (m':=fun id=>if id<0 then m' id else none) (fun id hid=>by simp at hid) a3 hl
 have h5: ∀z,d z≤cn2 1 z:=fun z=>by have:=a4 z;omega
 have htrim:Inv (Q8y X w m cn []) w' [] (fun id=>if id<0 then m' id else none) cn2:=htrim
 have hnewb: ∀b,0<d b→w.heap.size≤b:=by
  intro b hb
  obtain ⟨_,g2⟩:=htrim.new _ b (Nat.lt_of_lt_of_le hb (h5 b))
  rcases g2 with g2|⟨id,g2⟩
  ·exact g2
  ·rw[Q5n rfl] at g2;exact absurd g2 Z2z
 obtain ⟨c1,c2,c3,c4⟩:=Q7t hi (ps:=[]) List.nodup_nil (fun id h=>by simp at h) htrim hRl rfl (Nat.zero_le _) h5 (Nat.le_refl _)
 replace c1:Inv X w' st.ob m _:=c1
 obtain ⟨cn3,b1,b2,b3⟩:=c1.freezeN (Nat.le_refl _) c3 c4 (fun b hb=>Nat.le_trans hi.le (hnewb b hb))
 rw[Qda] at b3
 exact ⟨nx,u,w',m,cn3,hrun,hnx,b1,b2.Sl (c2.Sl hs),b3⟩
theorem Q8.zlit(hT:TOK P T){t e k:Nat}{x r:V}{st2:St}{ob2:List Ob}{ti ei:TI}(ho:o.op= .buildSlice t 0 #[])(ht:T t=some ti)(hk:ti.kd= .slice e)(he:T e=some ei)
  (h:opB T 0 ⟨fzL st.tm,[]⟩ o.op=some (x,st2)) (htk:Q88 0 st2.ob x=some (r,ob2)) (hl:r.lim 0=true) (hg:gd ops st o.guard=some true) (c:Q8 P X ops rest ⟨Q2l o.dst (.lst true k []) st.tm,st.ob⟩ s2):Q8 P X ops (o::rest) st s2:=
 Q8.oko (OKo.zlit hT ho ht hk he (OKo.frz hT h htk hl)) hg c
theorem Q8.appF(hT:TOK P T){t e i k:Nat}{x:Operand}{ti ei:TI}{ys ys':List V}(ho:o.op= .call {callee:= .builtin .append,args:= #[.tmp i,x],argTypes:= #[t,t]})(ht:T t=some ti)(hk:ti.kd= .slice e)(he:T e=some ei)
  (hz0:ei.zero.cells.length=ei.size) (hi0:st.tm[i]? =some (.lst true k [])) (hy:Qcu [] (val ⟨(fzL st.tm).set i (.lst true k []),[]⟩ x)=some (ei.size,ys))
  (hbig:ys.length*ei.bytes≤140737488355328) (h63:ys.length≤1099511627776) (hj:jkL (· ==0) ys=ys) (hp:pureL ys=true) (hys:fzL ys=ys')
  (hg:gd ops st o.guard=some true) (c:Q8 P X ops rest ⟨Q2l o.dst (.lst false ei.size ys') st.tm,st.ob⟩ s2):Q8 P X ops (o::rest) st s2:=
 Q8.oko (hys▸OKo.appF hT ho ht hk he hz0 hi0 hy hbig h63 hj hp) hg c
end
end Go.Ev
namespace Go.Ev
open Go
theorem Ct.of0{P:Program}{f:FuncId}{args:List V}{r:V}(h: ∀(w:World) (fr:Nat→Prop) (m:Mp) (us:List Value),(∀b,fr b→b<w.heap.size)→
  Inv ⟨w,fr,fun _=>False,m,0⟩ w [] m (fun _=>z0)→R w (frz ⟨w,fr,fun _=>False,m,0⟩ (fun _=>z0)) m (.list args us) z0→
  Calls P f us.toArray w fun e w'=> ∃u m' cn' d,e= .returned u∧Inv ⟨w,fr,fun _=>False,m,0⟩ w' [] m' cn'∧R w' (frz ⟨w,fr,fun _=>False,m,0⟩ cn') m' (.one r u) d∧ ∃n,∀z,d z≤cn' n z):Ct P f args [] r []:=by
 intro w fr m cn us hfr hi hR
 have hi0:Inv ⟨w,fr,fun _=>False,m,0⟩ w [] m (fun _=>z0):=
  ⟨Nat.le_refl _,fun _ _ _=>rfl,rfl,rfl,rfl,fun i o ho=>by simp at ho,fun b i j h=>absurd h Z2z,fun i b=>by simp[z0],fun i b h=>absurd h Z2z,hi.fresh,fun id h=>absurd h (Nat.not_lt_zero _),hi.mlt,Nat.le_refl _,fun _ _=>rfl⟩
 refine Calls.mono (h w fr m us (fun b hb=>(hfr b hb).1) hi0 (hR.mono (Nat.le_refl _) (fun b hb hf=>⟨⟨hf.1,fun _=>rfl⟩,rfl⟩) (fun _ _=>rfl) trivial (fun _ _ h=>⟨h,rfl⟩))) ?_
 rintro e w' ⟨u,m',cn',d,rfl,h1,h2,n,h3⟩
 refine ⟨u,m',cn',d,rfl,⟨h1.le,fun b hb _=>h1.kept b hb (fun h=>h),h1.os,h1.tape,h1.output,fun i o ho=>by simp at ho,h1.dis,h1.one,fun i b h=>⟨(h1.new i b h).1,.inl ((h1.new i b h).2.resolve_right (fun h=>h))⟩,h1.fresh,fun id h=>absurd h (Nat.not_lt_zero _),h1.mlt,Nat.le_refl _,h1.shp⟩,h2,rfl,n,Nat.zero_le _,h3⟩
theorem Q13z{P:Program}{T:Nat→Option TI}(hT:TOK P T){f:FuncId}{fn:Func}{c:Code}(hf:P.funcs[f]? =some fn)(hb:fn.body=some c){args:List V}{r:V}
  (h: ∀X:Ctx,X.n0=0→(∀b,¬X.own0 b)→W P X c ⟨args++List.replicate (fn.ntmps-args.length) (.tup []),[]⟩ (Qj6 T fn 0 r [])):Ct P f args [] r []:=by
 refine Ct.of0 fun w fr m us hfr hi hR=> ?_
 have hlen:=hR.len
 refine calls_of_wp hf hb ?_
 refine Code.wp_mono ?_ (h _ rfl (fun _ h=>h) w m (fun _=>z0) ⟨us.toArray++Array.replicate (fn.ntmps-us.toArray.size) undef,[]⟩ hi ?_ rfl)
 ·rintro e a' w' ⟨st,m',cn',⟨he,xs,r2,ob2,h1,h2,h3,h4,h5,h6,h7⟩,hi',hs',hd'⟩
  obtain ⟨u,hu,hRu⟩:=Qji hT hi' hs' h1
  obtain ⟨cn2,d,a1,a2,a3,a4,a5⟩:=Qcs 0 (Qv0 xs) h2 (N:=st.ob.length) hi' (Nat.le_refl _) hRu
  have htrim:=a1.trim (n:=0) (Nat.le_refl _) h4 (fun o ho=>by rw[h5] at ho;exact List.all_eq_true.1 h6 o ho)
  rw[h5] at htrim
  have hfin:(fun (e:Ending) (w':World)=> ∃u m' cn' d,e= .returned u∧Inv ⟨w,fr,fun _=>False,m,0⟩ w' [] m' cn'∧
    R w' (frz ⟨w,fr,fun _=>False,m,0⟩ cn') m' (.one r u) d∧ ∃n,∀z,d z≤cn' n z) (.returned u) w':=
   ⟨u,_,cn2,d,rfl,htrim,h3 _ _ _ _ _ (R.limM (n:=0) (fun id hid=>by simp[hid]) a3 h7),st.ob.length,fun z=>by have:=a4 z;omega⟩
  rcases he with rfl|rfl
  ·exact ⟨hd',u,hu,hfin⟩
  ·exact ⟨hd',u,hu,hfin⟩
 ·have:=R.ljoin hR (Qge (w:=w) (fr:=frz ⟨w,fr,fun _=>False,m,0⟩ (fun _=>z0)) (m:=m) (fn.ntmps-args.length))
  have h2:=this.zero fun z=>by simp[z0]
  simp only[Sl]
  rw[show (us.toArray++Array.replicate (fn.ntmps-us.toArray.size) undef).toList=us++List.replicate (fn.ntmps-args.length) undef from by simp[hlen]]
  exact h2
theorem Q11k{P:Program}{T:Nat→Option TI}(hT:TOK P T){f:FuncId}{fn:Func}{c:Code}(hf:P.funcs[f]? =some fn)(hb:fn.body=some c)(n:Nat)(hn:fn.ntmps=n){args:List V}(hl:Nat.ble args.length n=true){r:V}
  (h: ∀X:Ctx,X.n0=0→(∀b,¬X.own0 b)→W P X c ⟨sp n (Qvy 0 args),[]⟩ (Qj6 T fn 0 r [])):Ct P f args [] r []:=by
 refine Q13z hT hf hb fun X hX h0=>Q15 (Le.less ?_ fun i y hy=> ?_) (h X hX h0)
 ·have:=Nat.le_of_ble_eq_true hl
  rw[Q4e,List.length_append,List.length_replicate];omega
 ·rw[Qax] at hy
  split at hy
  ·rw[Qqa] at hy
   simp at hy
   by_cases hi:i<args.length
   ·left
    rw[List.getElem?_append_left hi,List.getElem?_eq_getElem hi]
    rw[List.getElem?_eq_getElem hi] at hy
    simpa using hy
   ·right
    rw[List.getElem?_eq_none Zb] at hy
    simpa using hy.symm
  ·cases hy
section
variable {P:Program} {X:Ctx} {T:Nat→Option TI} {ops:Array Oper} {rest l l':List Oper} {st s1 s2:St} {Q:Exit→St→Prop} {o:Oper}
end
def St.frzO(p:Nat)(s:St):Option St:=
 match s.ob[p]? with
 |some (some (k,xs))=>some ⟨s.tm,s.ob.set p (some (k,fzL xs))⟩
 |_=>none
theorem Le.frzO{X:Ctx}(h0: ∀b,¬X.own0 b)(p:Nat){s s':St}(h:s.frzO p=some s'):Le X s s':=by
 unfold St.frzO at h
 split at h
 ·rename_i k xs hp
  cases h
  refine fun w m cn a hi hs=> ?_
  have hplt:=(List.getElem?_eq_some_iff.1 hp).1
  rcases hi.obj p _ hp with ⟨rfl,_,_⟩|⟨b,cur,e,c,g1,g2,g3,g4,g5,g6⟩
  ·refine ⟨m,cn,?_,hs⟩
   have:s.ob.set p (some (k,fzL []))=s.ob:=by
    apply List.ext_getElem?
    intro i
    by_cases hh:i=p
    ·subst hh;rw[List.getElem?_set_self hplt,hp];rfl
    ·rw[List.getElem?_set_ne (Ne.symm hh)]
   simp only[this]
   exact hi
  ·have hcb:c b=0:=by have h1:=g6 b;have h2:=hi.one p b;simp at h1;omega
   have hle: ∀i x,upd cn p (fun x=>if x=b then 1 else 0) i x≤cn i x:=by
    intro i x
    by_cases h:i=p
    ·subst h;rw[Q1h,g6];exact Nat.le_add_left _ _
    ·rw[Qu _ _ h];exact Nat.le_refl _
   have hext:Ext X w m cn w m (upd cn p (fun x=>if x=b then 1 else 0)):=
    ⟨Nat.le_refl _,fun x _ hf=>⟨⟨hf.1,fun i=>by have:=hle i x;have:=hf.2 i;omega⟩,rfl⟩,fun _ _ h=>⟨h,rfl⟩⟩
   refine ⟨m,upd cn p (fun x=>if x=b then 1 else 0),⟨hi.le,hi.kept,hi.os,hi.tape,hi.output,fun i o ho=> ?_,fun x i j h1 h2=>hi.dis x i j (Nat.lt_of_lt_of_le h1 (hle i x)) (Nat.lt_of_lt_of_le h2 (hle j x)),fun i x=>Nat.le_trans (hle i x) (hi.one i x),
    fun i x h=>hi.new i x (Nat.lt_of_lt_of_le h (hle i x)),fun i h=>hi.fresh i Z49,hi.pas,hi.mlt,by simpa using hi.n0,hi.shp⟩,hext.Sl hs⟩
   by_cases hip:i=p
   ·subst hip
    rw[List.getElem?_set_self hplt] at ho
    cases ho
    refine .inr ⟨b,cur,e,z0,g1,g2,Qq2 g3,by rw[Q6j];exact g4,?_,fun x=>by rw[Q1h];simp[z0]⟩
    rw[Qrp]
    refine R.fz (fun x hx hf=>(hext.fr x hx hf).1) g5 (fun x hx hc=> ?_) m
    have hcx:0<cn i x:=by rw[g6];omega
    have hxb:x≠b:=fun e=>by rw[e] at hc;omega
    refine ⟨.inr (((hi.new i x hcx).2).resolve_right (h0 x)),fun q=> ?_⟩
    by_cases hq:q=i
    ·subst hq;rw[Q1h,if_neg hxb]
    ·rw[Qu _ _ hq]
     rcases Nat.eq_zero_or_pos (cn q x) with h'|h'
     ·exact h'
     ·exact absurd (hi.dis x q i h' hcx) hq
   ·rw[List.getElem?_set_ne (Ne.symm hip)] at ho
    exact (hi.obj i o ho).ext hext (Qu _ _ hip) rfl (fun _ _=>rfl)
 ·cases h
end Go.Ev
namespace Go.Ev
open Go
inductive WkC:List V→List V→Prop
 |nil:WkC [] []
 |cons {x y:V} {xs ys:List V} (h:Wk x y) (k:WkC xs ys):WkC (x::xs) (y::ys)
theorem R.cwk{w:World}{fr:Nat→Prop}{m:Mp}: ∀{xs ys:List V},WkC xs ys→ ∀{b off:Nat} {c:Cnt},R w fr m (.cells b off xs) c→R w fr m (.cells b off ys) c:=by
 intro xs ys hw
 induction hw with
 |nil=>intro b off c h;exact h
 |cons h1 _ ih=>
  intro b off c h
  cases h with
  |ccons hc h1c g1 g2 he=>exact .ccons hc h1c (h1 _ _ _ _ _ g1) (ih g2) he
theorem Le.wkO{X:Ctx}(p:Nat){s:St}{k:Nat}{xs ys:List V}(hp:s.ob[p]? =some (some (k,xs)))(hw:WkC (Q1y xs) (Q1y ys))(hu:uni k ys)(hl:ys.length=xs.length):Le X s ⟨s.tm,s.ob.set p (some (k,ys))⟩:=by
 refine fun w m cn a hi hs=>⟨m,cn,?_,hs⟩
 have hplt:=(List.getElem?_eq_some_iff.1 hp).1
 refine ⟨hi.le,hi.kept,hi.os,hi.tape,hi.output,fun i o ho=> ?_,hi.dis,hi.one,hi.new,fun i h=>hi.fresh i Z49,hi.pas,hi.mlt,by simpa using hi.n0,hi.shp⟩
 by_cases hip:i=p
 ·subst hip
  rw[List.getElem?_set_self hplt] at ho
  cases ho
  rcases hi.obj i _ hp with ⟨rfl,h2,h3⟩|⟨b,cur,e,c,g1,g2,g3,g4,g5,g6⟩
  ·exact .inl ⟨List.length_eq_zero_iff.1 hl,h2,h3⟩
  ·exact .inr ⟨b,cur,e,c,g1,g2,hu,by rw[hl];exact g4,R.cwk hw g5,g6⟩
 ·rw[List.getElem?_set_ne (Ne.symm hip)] at ho
  exact hi.obj i o ho
theorem WkC.app{a b c d:List V}(h:WkC a b)(h2:WkC c d):WkC (a++c) (b++d):=by
 induction h with
 |nil=>exact h2
 |cons h1 _ ih=>exact .cons h1 ih
theorem WkC.rep{a b:V}(h:WkC a.cells b.cells): ∀n,WkC (Q1y (List.replicate n a)) (Q1y (List.replicate n b))
 |0=> .nil
 |n+1=>by rw[List.replicate_succ,List.replicate_succ,flat_cons,flat_cons];exact h.app (WkC.rep h n)
def nil2:V:= .agg [.raw (.slice none 0 0),.raw (.slice none 0 0)]
def Qwp(k:Nat):V:= .agg [.lst false k [],.lst false k []]
theorem Le.nil2{X:Ctx}(p k:Nat){n:Nat}{xs:List V}{s:St}(hp:s.ob[p]? =some (some (2,xs)))(hx:xs=List.replicate n Go.Ev.nil2):Le X s ⟨s.tm,s.ob.set p (some (2,List.replicate n (Qwp k)))⟩:=by
 subst hx
 exact Le.wkO p hp (WkC.rep (a:=Go.Ev.nil2) (b:=Qwp k) (.cons (Wk.nilSlice _ _) (.cons (Wk.nilSlice _ _) .nil)) n) (fun x hx=>by rw[(List.mem_replicate.1 hx).2];rfl) Z3
end Go.Ev
