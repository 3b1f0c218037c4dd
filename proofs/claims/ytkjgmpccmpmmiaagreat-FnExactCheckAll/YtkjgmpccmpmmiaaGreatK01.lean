/- Part 2 of what the proofs lean on: an evaluator of Go functions over abstract values. Conditions: none. -/
import Derived.Test.YtkjgmpccmpmmiaaGreatK00
import Derived.Laws.BytesString
import Derived.MapKept
set_option linter.all false
set_option linter.unusedVariables false
set_option linter.unusedSimpArgs false
set_option maxHeartbeats 2000000
set_option maxRecDepth 100000
namespace Go.Ev
open Go
def atD(l:List UInt8)(i:Nat):UInt8:=l.getD i 0
def atV(xs:List V)(i:Nat):V:=xs.getD i .junk
def atL{α:Type}[Inhabited α](l:List α)(i:Nat):α:=l.getD i default
theorem Qr{l:List UInt8}{i:Nat}(h:i<l.length):atD l i=l[i]:=by simp[atD,h]
theorem Qa{α:Type}[Inhabited α]{l:List α}{i:Nat}(h:i<l.length):atL l i=l[i]:=by simp[atL,h]
theorem Q154{α:Type}[Inhabited α]{f:α→V}{l:List α}{i:Nat}(h:i<l.length):atV (l.map f) i=f (atL l i):=by simp[atV,atL,h]
theorem Q13h(x:V)(xs:List V):atV (x::xs) 0=x:=rfl
theorem Q13i(x:V)(xs:List V)(i:Nat):atV (x::xs) (i+1)=atV xs i:=by simp[atV]
def Qz6(T:Nat→Option TI)(op:BinOp)(t:Nat):V→V→Option V
 | .int k p,.int k' q=>match op with
  | .shl=>shft .shl k p q
  | .shr=>shft .shr k p q
  |op=>if k=k' then Qzz op k p q else none
 | .str p,.str q=>Qz0 op p q
 | .bool p,.bool q=>match T t with
  |some ti=>match ti.kd,op with
   | .bool,.eql=>some (.bool (p==q))
   | .bool,.neq=>some (.bool (!(p==q)))
   |_,_=>none
  |none=>none
 |_,_=>none
def Qbv(T:Nat→Option TI)(s f:Nat)(x:V):Option V:=
 match T s with
 |some ti=>match ti.kd with
  | .struct fs=>match fs[f]? with
   |some (off,ft)=>match T ft with
    |some fi=>if fi.size=0 then none else match x with
     | .ptr id i j=>some (.ptr id i (j+off))
     | .fp xs=>if off≤xs.length then some (.fp (xs.drop off)) else none
     |_=>none
    |none=>none
   |none=>none
  |_=>none
 |none=>none
def Qbu(T:Nat→Option TI)(ob:List Ob)(t:Nat)(x y:V):Option V:=
 match T t with
 |some ti=>match ti.kd with
  | .slice e=>match T e with
   |some ei=>match x,y with
    | .lst _ k xs,.int _ n=>if k=ei.size then (if 0≤n∧n.toNat<xs.length then some (.fp (atV xs n.toNat).cells) else none) else none
    | .arr id off len,.int _ n=>match ob[id]? with
     |some (some (k,_))=>if k=ei.size then (if 0≤n∧n.toNat<len then some (.ptr id (off+n.toNat) 0) else none) else none
     |_=>none
    |_,_=>none
   |none=>none
  |_=>none
 |none=>none
def Qux(T:Nat→Option TI)(ob:List Ob)(t:Nat)(p:V):Option V:=
 match T t with
 |some ti=>match p with
  | .fp cells=>rd ti cells
  | .ptr id i j=>match ob[id]? with
   |some (some (_,xs))=>if i<xs.length∧j≤(xs.getD i .junk).cells.length then
     (match rd ti ((xs.getD i .junk).cells.drop j) with|some x=>if x.free then some x else none|none=>none) else none
   |_=>none
  |_=>none
 |none=>none
def Qq6(T:Nat→Option TI)(t:Nat)(x y:V):Option V:=
 match T t with
 |some ti=>match ti.kd with
  | .str=>match x,y with
   | .str l,.int _ n=>if 0≤n∧n.toNat<l.length then some (.int .u8 (atD l n.toNat).toNat) else none
   |_,_=>none
  |_=>none
 |none=>none
def Quy(T:Nat→Option TI)(s t:Nat)(x:V):Option V:=
 match T s,T t with
 |some si,some ti=>match si.kd,ti.kd,x with
  |_,.int k,.int _ n=>some (.int k (k.wrap n))
  | .str,.str,.str l=>some (.str l)
  |_,_,_=>none
 |_,_=>none
def opA(T:Nat→Option TI)(st:St):Op→Option (V×St)
 | .move x=>some (val st x,st)
 | .assign x=>some (val st x,st)
 | .pick c x y=>match val st c with| .bool v=>some (if v then val st x else val st y,st)|_=>none
 | .nilCheck x=>match val st x with
  | .ptr id i j=>some (.ptr id i j,st)
  | .fp xs=>some (.fp xs,st)
  | .clo (.func f) xs ys=>some (.clo (.func f) xs ys,st)
  |_=>none
 | .binOp op t x y _=>match Qz6 T op t (val st x) (val st y) with|some r=>some (r,st)|none=>none
 | .unOp .not _ x=>match val st x with| .bool v=>some (.bool (!v),st)|_=>none
 | .unOp .neg _ x=>match val st x with| .int k n=>some (.int k (k.wrap (0-n)),st)|_=>none
 | .convert s t x=>match Quy T s t (val st x) with|some r=>some (r,st)|none=>none
 | .extract x j=>match val st x with| .tup xs=>(match xs[j]? with|some v=>some (v,st)|none=>none)|_=>none
 | .index t x y=>match Qq6 T t (val st x) (val st y) with|some r=>some (r,st)|none=>none
 | .fieldAddr s x f=>match Qbv T s f (val st x) with|some r=>some (r,st)|none=>none
 | .indexAddr t x y=>match Qbu T st.ob t (val st x) (val st y) with|some r=>some (r,st)|none=>none
 | .load t p=>match Qux T st.ob t (val st p) with|some r=>some (r,st)|none=>none
 | .alloc t=>match T t with
  |some ti=>if Q2q ti.zero.cells then some (.ptr st.ob.length 0 0,⟨st.tm,st.ob++[some (ti.zero.cells.length,[ti.zero])]⟩) else none
  |none=>none
 | .box _ y=>if Q2q (val st y).cells then some (.ptr st.ob.length 0 0,⟨st.tm,st.ob++[some ((val st y).cells.length,[val st y])]⟩) else none
 | .store t p y=>match T t with
  |some ti=>match val st p with
   | .ptr id i j=>match st.ob[id]? with
    |some (some (k,xs))=>
     if i<xs.length∧(val st y).cells.length=ti.size∧0<ti.size∧Q2q (val st y).cells=true∧j+ti.size≤(xs.getD i .junk).cells.length then
      some (.tup [],⟨st.tm,st.ob.set id (some (k,xs.set i (Qe6 (xs.getD i .junk) j (val st y).cells)))⟩) else none
    |_=>none
   |_=>none
  |none=>none
 |_=>none
section
variable {P:Program} {X:Ctx} {st:St} {o:Oper} {T:Nat→Option TI}
theorem Q16a(hT:TOK P T){x:V}{st':St}(h:opA T st o.op=some (x,st')):OKo P X st o x st':=by
 cases ho:o.op<;>rw[ho] at h<;>simp only[opA] at h<;>try (cases h;done)
 case move=>cases h;exact (Qq9 (.inl ho)).ok
 case assign=>cases h;exact (Qq9 (.inr ho)).ok
 case pick=>
  split at h
  ·rename_i hv;cases h;exact (Qz7 ho hv).ok
  ·cases h
 case nilCheck=>
  split at h
  ·rename_i hv;cases h;rw[←hv];exact (Q7v ho (.inl ⟨_,_,_,hv⟩)).ok
  ·rename_i hv;cases h;rw[←hv];exact (Q7v ho (.inr (.inl ⟨_,hv⟩))).ok
  ·rename_i hv;cases h;rw[←hv];exact (Q7v ho (.inr (.inr ⟨_,_,_,hv⟩))).ok
  ·cases h
 case binOp op t p q t'=>
  split at h
  ·rename_i r hr
   cases h
   unfold Qz6 at hr
   split at hr
   ·rename_i k p k' q hx hy
    split at hr
    ·exact (Qq8 ho hx hy hr).ok
    ·exact (Qq8 ho hx hy hr).ok
    ·split at hr
     ·rename_i hk;subst hk;exact (Qwm ho hx hy hr).ok
     ·cases hr
   ·rename_i hx hy;exact (Q127 ho hx hy hr).ok
   ·rename_i hx hy
    split at hr
    ·rename_i ti ht
     split at hr
     ·rename_i hk;cases hr;exact (Qi8 hT ht hk ho (.inl rfl) hx hy).ok
     ·rename_i hk;cases hr;exact (Qi8 hT ht hk ho (.inr rfl) hx hy).ok
     ·cases hr
    ·cases hr
   ·cases hr
  ·cases h
 case unOp op t p=>
  cases op<;>simp only at h<;>try (cases h;done)
  ·split at h
   ·rename_i hv;cases h;exact (Q12a ho hv).ok
   ·cases h
  ·split at h
   ·rename_i hv;cases h;exact (Q129 ho hv).ok
   ·cases h
 case convert s t p=>
  split at h
  ·rename_i r hr
   cases h
   unfold Quy at hr
   split at hr
   ·rename_i si ti hs ht
    split at hr
    ·rename_i hk hx;cases hr;exact (Qz9 hT ht hk hs ho hx).ok
    ·rename_i hk1 hk2 hx;cases hr;exact (Qwj hT ht hk2 hs hk1 ho hx).ok
    ·cases hr
   ·cases hr
  ·cases h
 case extract=>
  split at h
  ·rename_i hv
   split at h
   ·rename_i hj;cases h;exact (Qqx ho hv hj).ok
   ·cases h
  ·cases h
 case index=>
  split at h
  ·rename_i r hr
   cases h
   unfold Qq6 at hr
   split at hr
   ·rename_i ti ht
    split at hr
    ·rename_i hk
     split at hr
     ·rename_i hx hy
      split at hr
      ·rename_i hc;cases hr;exact (Qtp hT ht hk ho hx hy hc.1 hc.2).ok
      ·cases hr
     ·cases hr
    ·cases hr
   ·cases hr
  ·cases h
 case fieldAddr=>
  split at h
  ·rename_i r hr
   cases h
   unfold Qbv at hr
   split at hr
   ·rename_i ti ht
    split at hr
    ·rename_i fs hk
     split at hr
     ·rename_i off ft hf
      split at hr
      ·rename_i fi hft
       split at hr
       ·cases hr
       ·rename_i hs
        split at hr
        ·rename_i hx;cases hr;exact (Qku hT ho ht hk hf hft hs hx).ok
        ·rename_i hx
         split at hr
         ·rename_i hl;cases hr;exact (Qjb hT ho ht hk hf hft hs hx hl).ok
         ·cases hr
        ·cases hr
      ·cases hr
     ·cases hr
    ·cases hr
   ·cases hr
  ·cases h
 case indexAddr=>
  split at h
  ·rename_i r hr
   cases h
   unfold Qbu at hr
   split at hr
   ·rename_i ti ht
    split at hr
    ·rename_i e hk
     split at hr
     ·rename_i ei he
      split at hr
      ·rename_i hx hy
       split at hr
       ·rename_i hsz
        split at hr
        ·rename_i hc;cases hr;subst hsz;exact (Qkt hT ho ht hk he hx hy hc.1 hc.2).ok
        ·cases hr
       ·cases hr
      ·rename_i hx hy
       split at hr
       ·rename_i k xs hid
        split at hr
        ·rename_i hsz
         split at hr
         ·rename_i hc;cases hr;subst hsz;exact (Qja hT ho ht hk he hx hid hy hc.1 hc.2).ok
         ·cases hr
        ·cases hr
       ·cases hr
      ·cases hr
     ·cases hr
    ·cases hr
   ·cases hr
  ·cases h
 case load=>
  split at h
  ·rename_i r hr
   cases h
   unfold Qux at hr
   split at hr
   ·rename_i ti ht
    split at hr
    ·rename_i hp;exact (Qwh hT ho ht hp hr).ok
    ·rename_i id i j hp
     split at hr
     ·rename_i k xs hid
      split at hr
      ·rename_i hc
       split at hr
       ·rename_i y hy
        split at hr
        ·rename_i hf;cases hr;exact (Qz8 (L:=[id]) hT ho ht hp hid hc.1 hc.2 hy hf Z3).okL
        ·cases hr
       ·cases hr
      ·cases hr
     ·cases hr
    ·cases hr
   ·cases hr
  ·cases h
 case alloc=>
  split at h
  ·rename_i ti ht
   split at h
   ·rename_i hc;cases h;exact Q12b hT ho ht hc
   ·cases h
  ·cases h
 case box=>
  split at h
  ·rename_i hc;cases h;exact Q16b ho hc
  ·cases h
 case store=>
  split at h
  ·rename_i ti ht
   split at h
   ·rename_i id i j hp
    split at h
    ·rename_i k xs hid
     split at h
     ·rename_i hc;cases h;exact Q128 hT ho ht hp hid hc.1 hc.2.1 hc.2.2.1 hc.2.2.2.1 hc.2.2.2.2
     ·cases h
    ·cases h
   ·cases h
  ·cases h
end
end Go.Ev
namespace Go.Ev
open Go
def J.jk(p:Nat→Bool):J→J
 | .one x u=> .one (x.jk p) u
 | .cells b o xs=> .cells b o (jkL p xs)
 | .list xs us=> .list (jkL p xs) us
theorem Qri(p:Nat→Bool)(xs ys:List V):jkL p (xs++ys)=jkL p xs++jkL p ys:=by simp[Qan]
theorem Qwz(p:Nat→Bool)(x:V):(x.jk p).cells=jkL p x.cells:=by
 cases x with
 |ptr id i j=>simp only[V.jk,V.cells,jkL];cases p id<;>rfl
 |arr id o n=>simp only[V.jk,V.cells,jkL];cases p id<;>rfl
 |_=>rfl
theorem Qrh(p:Nat→Bool)(xs:List V):Q1y (jkL p xs)=jkL p (Q1y xs):=by
 induction xs with
 |nil=>rfl
 |cons x xs ih=>rw[jkL,flat_cons,flat_cons,ih,Qri,Qwz]
theorem Qum{k:Nat}{xs:List V}(h:uni k xs)(p:Nat→Bool):uni k (jkL p xs):=by
 intro x hx
 rw[Qan] at hx
 obtain ⟨y,hy,rfl⟩:=List.mem_map.1 hx
 rw[Qwz,Qan,List.length_map]
 exact h y hy
mutual
theorem Qzh(p:Nat→Bool): ∀(x:V),x.pure=true→x.jk p=x
 | .agg xs,h=>by simp only[V.jk];rw[jkL_pure p xs (by simpa[V.pure] using h)]
 | .tup xs,h=>by simp only[V.jk];rw[jkL_pure p xs (by simpa[V.pure] using h)]
 | .clo f xs ys,h=>by
  simp only[V.pure,Bool.and_eq_true] at h
  simp only[V.jk];rw[jkL_pure p xs h.1,jkL_pure p ys h.2]
 | .ifc t x,h=>by simp only[V.jk];rw[Qzh p x (by simpa[V.pure] using h)]
 | .ptr _ _ _,h=>by simp[V.pure] at h
 | .arr _ _ _,h=>by simp[V.pure] at h
 | .junk,_=>rfl
 | .bool _,_=>rfl
 | .int _ _,_=>rfl
 | .str _,_=>rfl
 | .raw _,_=>rfl
 | .lst _ _ _,_=>rfl
 | .bx _ _,_=>rfl
 | .fp _,_=>rfl
 | .fmap _,_=>rfl
theorem jkL_pure(p:Nat→Bool): ∀(xs:List V),pureL xs=true→jkL p xs=xs
 |[],_=>rfl
 |x::xs,h=>by
  simp only[pureL,Bool.and_eq_true] at h
  rw[jkL,Qzh p x h.1,jkL_pure p xs h.2]
end
section
variable {w:World} {fr:Nat→Prop} {m:Mp}
theorem R.jk{p:Nat→Bool}{m':Mp}(hm: ∀id,p id=false→m' id=m id){j:J}{c:Cnt}(h:R w fr m j c):R w fr m' (j.jk p) c:=by
 induction h with
 |junk=>exact .junk
 |bool=>exact .bool _
 |int=>exact .int _ _
 |str=>exact .str _
 |raw u h=>exact .raw u h
 |agg _ ih=>exact .agg (ih hm)
 |tup _ ih=>exact .tup (ih hm)
 |nil=>exact .nil
 |nilz=>exact .nilz
 |frz hl hb hk hn h _=>exact .frz hl hb hk hn h
 |own hb hs hk hn h hc _=>exact .own hb hs hk hn h hc
 |bx hb hs hk h hc _=>exact .bx hb hs hk h hc
 |fp hl hb h _=>exact .fp hl hb h
 |fmap hl hb he h=>exact .fmap hl hb he h
 | @ptr m id i j b k h=>
  show R w fr m' (.one (V.jk p (.ptr id i j)) _) _
  simp only[V.jk]
  cases hp:p id
  ·exact .ptr Z8y
  ·exact .junk
 | @arr m id o n b k cap cur e h h1 h2 h3=>
  show R w fr m' (.one (V.jk p (.arr id o n)) _) _
  simp only[V.jk]
  cases hp:p id
  ·exact .arr Z8y h1 h2 h3
  ·exact .junk
 | @arrz m id o b k cap cur e off h h1 h2=>
  show R w fr m' (.one (V.jk p (.arr id o 0)) _) _
  simp only[V.jk]
  cases hp:p id
  ·exact .arrz Z8y h1 h2
  ·exact .junk
 | @arrn m id o=>
  show R w fr m' (.one (V.jk p (.arr id o 0)) _) _
  simp only[V.jk]
  cases hp:p id
  ·exact .arrn
  ·exact .junk
 |clo h1 h2 he ih1 ih2=>exact .clo (ih1 hm) (ih2 hm) he
 |ifc h ih=>exact .ifc (ih hm)
 |cnil=>exact .cnil
 |ccons hc h1c h1 h2 he ih1 ih2=>exact .ccons hc h1c (ih1 hm) (ih2 hm) he
 |lnil=>exact .lnil
 |lcons h1 h2 he ih1 ih2=>exact .lcons (ih1 hm) (ih2 hm) he
end
section
variable {X:Ctx} {w:World} {ob:List Ob} {m:Mp} {cn:Nat→Cnt}
theorem Qgh.jk{p:Nat→Bool}{m':Mp}{fr:Nat→Prop}{cnt:Cnt}{id:Nat}{o:Ob}(hm: ∀id,p id=false→m' id=m id)(hid:m' id=m id)(h:Qgh w fr m cnt id o):Qgh w fr m' cnt id (jkO p o):=by
 cases o with
 |none=>trivial
 |some q=>
  obtain ⟨k,xs⟩:=q
  rcases h with ⟨h1,h2,h3⟩|⟨b,cur,e,c,h1,h2,h3,h4,h5,h6⟩
  ·exact .inl ⟨by rw[h1];rfl,by rw[hid];exact h2,h3⟩
  ·exact .inr ⟨b,cur,e,c,by rw[hid];exact h1,h2,Qum h3 p,by rw[Qan,List.length_map];exact h4,by rw[Qrh];exact R.jk hm h5,h6⟩
theorem Inv.jk(hi:Inv X w ob m cn)(p:Nat→Bool):Inv X w (ob.map (jkO p)) m cn:=
 ⟨hi.le,hi.kept,hi.os,hi.tape,hi.output,fun i o ho=>by
   rw[List.getElem?_map] at ho
   cases h:ob[i]? with
   |none=>rw[h] at ho;cases ho
   |some o'=>rw[h] at ho;cases ho;exact (hi.obj i o' h).jk (fun _ _=>rfl) rfl,
  hi.dis,hi.one,hi.new,fun i h=>hi.fresh i Z49,hi.pas,hi.mlt,by simpa using hi.n0,hi.shp⟩
theorem Inv.drew(hi:Inv X w ob m cn):Inv X w.drew ob m cn:=
 ⟨hi.le,hi.kept,hi.os,hi.tape,hi.output,fun i o ho=>by
   have:=hi.obj i o ho
   cases o with
   |none=>trivial
   |some q=>
    obtain ⟨k,xs⟩:=q
    rcases this with h|⟨b,cur,e,c,h1,h2,h3,h4,h5,h6⟩
    ·exact .inl h
    ·exact .inr ⟨b,cur,e,c,h1,h2,h3,h4,h5.mono (Nat.le_refl _) (fun _ _ h=>⟨h,rfl⟩) (fun _ _=>rfl) (.inr rfl) (fun _ _ h=>⟨h,rfl⟩),h6⟩,
  hi.dis,hi.one,hi.new,hi.fresh,hi.pas,hi.mlt,hi.n0,hi.shp⟩
theorem Ext.drew:Ext X w m cn w.drew m cn:=⟨Nat.le_refl _,fun _ _ h=>⟨h,rfl⟩,fun _ _ h=>⟨h,rfl⟩⟩
theorem Inv.regrow(hi:Inv X w ob m cn){id k k0:Nat}{xs xs':List V}(hid:ob[id]? =some (some (k0,xs)))(hn0:X.n0≤id){cells:Array Value}{e:TypeId}(hk:uni k xs')(hl:xs'.length*k≤cells.size)
  {us:List Value} {c':Cnt} (hus: ∀(j:Nat) (u:Value),us[j]? =some u→cells[j]? =some u) (hR:R w (frz X cn) m (.list (Q1y xs') us) c') (h1: ∀u∈us,u.oneCell'=true) (hle: ∀x,c' x≤cn id x):
  let p:Nat→Bool:=fun i=>i==id
  let m':=upd m id (some (w.heap.size,k))
  let cn':=upd cn id (fun x=>c' x+if x=w.heap.size then 1 else 0)
  Inv X (w.alloc (.cells cells e)) ((ob.map (jkO p)).set id (some (k,jkL p xs'))) m' cn'∧
   (∀(j:J),j.here (fun _=>False)→R w (frz X cn) m j z0→R (w.alloc (.cells cells e)) (frz X cn') m' (j.jk p) z0):=by
 intro p m' cn'
 have hlt:=(List.getElem?_eq_some_iff.1 hid).1
 have hold: ∀b,b<w.heap.size→(w.alloc (.cells cells e)).heap[b]? =w.heap[b]? :=fun b hb=>heap_alloc_old w _ hb
 have hnew:=heap_alloc_new w (.cells cells e)
 have e1:cn' id=fun x=>c' x+if x=w.heap.size then 1 else 0:=Q1h _ _ _
 have e2: ∀i,i≠id→cn' i=cn i:=fun i h=>Qu _ _ h
 have m1:m' id=some (w.heap.size,k):=Q1h _ _ _
 have m2: ∀i,i≠id→m' i=m i:=fun i h=>Qu _ _ h
 have hpm: ∀i,p i=false→m' i=m i:=fun i h=>m2 i (by simpa[p] using h)
 have hpos: ∀i x,0<cn' i x→0<cn i x∨(i=id∧x=w.heap.size):=by
  intro i x h
  by_cases hh:i=id
  ·subst hh
   rw[e1] at h
   by_cases hx:x=w.heap.size
   ·exact .inr ⟨rfl,hx⟩
   ·simp only[if_neg hx] at h
    have:=hle x
    exact .inl Zb
  ·rw[e2 i hh] at h;exact .inl h
 have hbig: ∀i x,0<cn i x→x≠w.heap.size:=fun i x h=>by have:=(hi.new i x h).1;omega
 have hfr: ∀b,b<w.heap.size→frz X cn b→frz X cn' b∧(w.alloc (.cells cells e)).heap[b]? =w.heap[b]? :=by
  intro b hb hf
  refine ⟨⟨hf.1,fun i=> ?_⟩,hold b hb⟩
  rcases Nat.eq_zero_or_pos (cn' i b) with h|h
  ·exact h
  ·rcases hpos i b h with h|⟨_,h⟩
   ·have:=hf.2 i;omega
   ·omega
 have tr: ∀{j:J} {c:Cnt},R w (frz X cn) m j c→j.here (fun b=>b<w.heap.size)→R (w.alloc (.cells cells e)) (frz X cn') m' (j.jk p) c:=by
  intro j c h hh
  refine R.jk hpm (h.mono (by rw[Q51];omega) hfr (fun b hb=>hold b (h.count b hb)) ?_ (fun i x hx=>⟨hx,Q4w (hold _ (hi.mlt i x hx))⟩))
  cases j<;>first|trivial|exact hh.imp (fun h=>h) (hold _)
 refine ⟨⟨by rw[Q51];have:=hi.le;omega,fun b hb ho=>by rw[hold b Zbs];exact hi.kept b hb ho,hi.os,hi.tape,hi.output,fun i o ho=> ?_,fun b i j h1 h2=> ?_,fun i x=> ?_,fun i x h=> ?_,
  fun i h=> ?_,fun i h=>by rw[m2 i Zb];exact hi.pas i h,fun i x h=> ?_,by simpa using hi.n0,fun b hb=>by rw[Q4w (hold b Zbs)];exact hi.shp b hb⟩,
  fun j hj h=>tr h (by cases j<;>first|trivial|exact hj.imp (fun h=>h) False.elim)⟩
 ·by_cases hh:i=id
  ·subst hh
   rw[List.getElem?_set_self (by simpa using hlt)] at ho
   cases ho
   have hRl:=tr hR trivial
   refine .inr ⟨w.heap.size,cells,e,c',m1,hnew,Qum hk p,by rw[Qan,List.length_map];exact hl,?_,fun x=>by rw[e1]⟩
   rw[Qrh]
   refine R.holds hRl (fun j u hu=> ?_) h1
   simp only[World.cell?,hnew,Nat.zero_add]
   simpa using hus j u hu
  ·rw[List.getElem?_set_ne (Ne.symm hh),List.getElem?_map] at ho
   cases hO:ob[i]? with
   |none=>rw[hO] at ho;cases ho
   |some o'=>
    rw[hO] at ho
    cases ho
    have hob:=hi.obj i o' hO
    cases o' with
    |none=>trivial
    |some q=>
     obtain ⟨k',ys⟩:=q
     rcases hob with ⟨h1,h2,h3⟩|⟨b,cur,e',c,h1,h2,h3,h4,h5,h6⟩
     ·exact .inl ⟨by rw[h1];rfl,by rw[m2 i hh];exact h2,by rw[e2 i hh];exact h3⟩
     ·have hb:b<w.heap.size:=(Array.getElem?_eq_some_iff.1 h2).1
      refine .inr ⟨b,cur,e',c,by rw[m2 i hh];exact h1,by rw[hold b hb];exact h2,Qum h3 p,by rw[Qan,List.length_map];exact h4,?_,by rw[e2 i hh];exact h6⟩
      rw[Qrh]
      exact tr h5 (.inr hb)
 ·rcases hpos i b h1 with a1|⟨a1,a2⟩<;>rcases hpos j b h2 with b1|⟨b1,b2⟩
  ·exact hi.dis b i j a1 b1
  ·exact absurd b2 (hbig i b a1)
  ·exact absurd a2 (hbig j b b1)
  ·rw[a1,b1]
 ·by_cases hh:i=id
  ·subst hh
   rw[e1]
   by_cases hx:x=w.heap.size
   ·have:=hle x
    have h0:cn i x=0:=by
     rcases Nat.eq_zero_or_pos (cn i x) with h|h
     ·exact h
     ·exact absurd hx (hbig i x h)
    simp only[if_pos hx];omega
   ·have:=hle x;have:=hi.one i x;simp only[if_neg hx];omega
  ·rw[e2 i hh];exact hi.one i x
 ·rw[Q51]
  rcases hpos i x h with h|⟨_,h⟩
  ·have:=hi.new i x h;exact ⟨by omega,this.2⟩
  ·exact ⟨by omega,.inl (by rw[h];exact hi.le)⟩
 ·simp at h
  rw[m2 i Zb]
  exact hi.fresh i h
 ·rw[Q51]
  by_cases hh:i=id
  ·subst hh;rw[m1] at h;cases h;simp
  ·rw[m2 i hh] at h;have:=hi.mlt i x h;omega
end
end Go.Ev
namespace Go.Ev
open Go
section
variable {P:Program} {X:Ctx} {L:List Nat} {st:St} {o:Oper} {T:Nat→Option TI}
def bnd(st:St):Option Operand→Option (Option Nat)
 |none=>some none
 |some x=>match val st x with
  | .int _ n=>if 0≤n then some (some n.toNat) else none
  |_=>none
theorem Q8u{w:World}{m:Mp}{cn:Nat→Cnt}{a:Act}(hs:Sl X w m cn st.tm a){x:Option Operand}{r:Option Nat}(h:bnd st x=some r):
  (r=none∧x.map a.eval=none)∨ ∃n k,r=some n∧x.map a.eval=some (.int k (n:Int)):=by
 cases x with
 |none=>simp only[bnd] at h;cases h;exact .inl ⟨rfl,rfl⟩
 |some x=>
  simp only[bnd] at h
  split at h
  ·rename_i k n hv
   split at h
   ·rename_i h0
    cases h
    have:=Q14 hs x
    rw[hv] at this
    exact .inr ⟨n.toNat,k,rfl,by rw[Option.map_some,R.inv_int this,Int.toNat_of_nonneg h0]⟩
   ·cases h
  ·cases h
theorem Qaz(isS:Bool)(len cap:Nat)(l h x:Option Nat)(vl vh vx:Option Value)(hl:(l=none∧vl=none)∨ ∃n k,l=some n∧vl=some (.int k (n:Int)))
  (hh:(h=none∧vh=none)∨ ∃n k,h=some n∧vh=some (.int k (n:Int))) (hx:(x=none∧vx=none)∨ ∃n k,x=some n∧vx=some (.int k (n:Int)))
  (h1:x.getD cap≤cap) (h2:h.getD len≤x.getD cap) (h3:l.getD 0≤h.getD len) (h4:x.isSome→h.isSome) (w:World):
  (Instr.sliceBounds isS len cap vl vh vx).run P w= .ok (l.getD 0,h.getD len,x.getD cap) w:=by
 have sb: ∀(n y:Nat) (k:IntKind) (code:BoundsCode),n≤y→(Instr.sliceBound (.int k (n:Int)) y code).run P w= .ok n w:=by
  intro n y k code h
  have h:(n:Int)≤(y:Int):=by omega
  simp[Instr.sliceBound,asIntOf,h]
 rcases hl with ⟨rfl,rfl⟩|⟨nl,kl,rfl,rfl⟩<;>rcases hh with ⟨rfl,rfl⟩|⟨nh,kh,rfl,rfl⟩<;>rcases hx with ⟨rfl,rfl⟩|⟨nx,kx,rfl,rfl⟩<;>
  simp only[Option.getD_none,Option.getD_some] at h1 h2 h3⊢ <;>
  first
  |(exfalso;simp at h4;done)
  |(simp only[Instr.sliceBounds,Sem.run_bind,Sem.run_pure,Result.andThen_ok,sb _ _ _ _ h1,sb _ _ _ _ h2,sb _ _ _ _ h3];done)
  |(simp only[Instr.sliceBounds,Sem.run_bind,Sem.run_pure,Result.andThen_ok,sb _ _ _ _ h2,sb _ _ _ _ h3];done)
  |(simp only[Instr.sliceBounds,Sem.run_bind,Sem.run_pure,Result.andThen_ok,sb _ _ _ _ h3];done)
  |(simp only[Instr.sliceBounds,Sem.run_bind,Sem.run_pure,Result.andThen_ok,sb _ _ _ _ h2];done)
  |(simp only[Instr.sliceBounds,Sem.run_bind,Sem.run_pure,Result.andThen_ok];done)
  |(simp only[Instr.sliceBounds,Sem.run_bind,Sem.run_pure,Result.andThen_ok,sb _ _ _ _ h1,sb _ _ _ _ h2];done)
theorem Qtm(hT:TOK P T){t:Nat}{x:Operand}{lo hi:Option Operand}{ti:TI}(ho:o.op= .slice t x lo hi none)(ht:T t=some ti)(hk:ti.kd= .str){p:List UInt8}(hx:val st x= .str p)
  {l h:Option Nat} (hl:bnd st lo=some l) (hh:bnd st hi=some h) (h2:h.getD p.length≤p.length) (h3:l.getD 0≤h.getD p.length):OKp P X L st o (.str ((p.take (h.getD p.length)).drop (l.getD 0))):=by
 intro w m cn a hi' hs
 have h1:=Q14 hs x
 rw[hx] at h1
 obtain ⟨i,d,z,_,hu,_,hd,_⟩:=TI.of hT ht
 rw[hk] at hd
 have:=Qci hd
 subst this
 have hb:=Qaz (P:=P) false p.length p.length l h none _ _ none (Q8u hs hl) (Q8u hs hh) (.inl ⟨rfl,rfl⟩) (Nat.le_refl _) h2 h3 Z3
 have hsz:(⟨p.toArray⟩:ByteArray).size=p.length:=by show p.toArray.size=_;simp
 refine ⟨.string ⟨((p.take (h.getD p.length)).drop (l.getD 0)).toArray⟩,fun w _=> ?_,.str _⟩
 have hr:(Instr.sliceAt t (.string ⟨p.toArray⟩) (lo.map a.eval) (hi.map a.eval) none).run P w= .ok (.string ⟨((p.take (h.getD p.length)).drop (l.getD 0)).toArray⟩) w:=by
  simp only[Instr.sliceAt,Instr.slice,Sem.run_bind,run_underlying hu,Result.andThen_ok,Option.isSome_none,Bool.false_eq_true,if_false,hsz,hb,Sem.run_pure]
  congr 2
  apply ByteArray.ext
  rw[ByteArray.data_extract]
  apply Array.ext'
  simp[List.drop_take]
 simp only[execOp,ho,R.inv_str h1,Option.map_none,hr,Sem.run_bind,Result.andThen_ok,Sem.run_pure]
theorem Qe7(hT:TOK P T){t e:Nat}{ti ei:TI}(ht:T t=some ti)(hk:ti.kd= .slice e)(he:T e=some ei)(ad:Option Addr)(len cap:Nat)(vl vh vx:Option Value)(l h x:Nat)(w:World)
  (hb:(Instr.sliceBounds true len cap vl vh vx).run P w= .ok (l,h,x) w):
  (Instr.sliceAt t (.slice ad len cap) vl vh vx).run P w= .ok (.slice (if x=l then ad else ad.map (·.add (l*ei.size))) (h-l) (x-l)) w:=by
 obtain ⟨i,d,z,_,hu,_,hd,_⟩:=TI.of hT ht
 obtain ⟨i2,d2,z2,hi2,_,_,_,hsz,_⟩:=TI.of hT he
 rw[hk] at hd
 have:=Q6g hd
 subst this
 simp only[Instr.sliceAt,Instr.slice,Sem.run_bind,run_underlying hu,Result.andThen_ok,hb,Q44 hi2,←hsz,Sem.run_pure]
theorem Qtn(hT:TOK P T){t e:Nat}{x:Operand}{lo hi mx:Option Operand}{ti ei:TI}(ho:o.op= .slice t x lo hi mx)(ht:T t=some ti)(hk:ti.kd= .slice e)(he:T e=some ei)
  {ow:Bool} {xs:List V} (hx:val st x= .lst ow ei.size xs)
  {l h q:Option Nat} (hl:bnd st lo=some l) (hh:bnd st hi=some h) (hq:bnd st mx=some q) (h1:q.getD xs.length≤xs.length) (h2:h.getD xs.length≤q.getD xs.length) (h3:l.getD 0≤h.getD xs.length)
  (h4:q.isSome→h.isSome):OKp P X L st o (.lst false ei.size ((xs.take (h.getD xs.length)).drop (l.getD 0))):=by
 intro w m cn a hi' hs
 have hR:=Q14 hs x
 rw[hx] at hR
 rcases R.inv_lst hR with ⟨rfl,ad,hu⟩|⟨b,off,cap,hu,hcap,hb,hfr,huni,hc⟩
 ·have hz:q.getD 0≤0:=by simpa using h1
  have hb:=Qaz (P:=P) true 0 0 l h q _ _ _ (Q8u hs hl) (Q8u hs hh) (Q8u hs hq) hz (by simpa using h2) Z9d h4
  have hr:=fun w=>Qe7 hT ht hk he ad 0 0 _ _ _ _ _ _ w (hb w)
  refine ⟨.slice ad 0 0,fun w _=> ?_,by cases ad<;>simpa using (by first|exact R.nil|exact R.nilz)⟩
  simp only[execOp,ho,hu,hr,Sem.run_bind,Result.andThen_ok,Sem.run_pure]
  simp at h1 h2 h3
  have e1:q.getD 0=0:=by omega
  have e2:l.getD 0=0:=by omega
  have e3:h.getD 0=0:=by omega
  simp[e1,e2,e3]
 ·have hqc:q.getD cap≤cap:=by cases q<;>simp at h1⊢;omega
  have hhq:h.getD xs.length≤q.getD cap:=by cases q<;>simp at h2⊢ <;>omega
  have hbd:=Qaz (P:=P) true xs.length cap l h q _ _ _ (Q8u hs hl) (Q8u hs hh) (Q8u hs hq) hqc hhq h3 h4
  have hr:=fun w=>Qe7 hT ht hk he (some ⟨b,off,none⟩) xs.length cap _ _ _ _ _ _ w (hbd w)
  generalize l.getD 0=L at*
  generalize hH:h.getD xs.length=H at*
  generalize q.getD cap=Q at*
  have hHn:H≤xs.length:=by omega
  have hlen:((xs.take H).drop L).length=H-L:=by rw[List.length_drop,List.length_take];omega
  have hsub:uni ei.size ((xs.take H).drop L):=Qg6 (Q60 huni H) L
  refine ⟨.slice (if Q=L then some ⟨b,off,none⟩ else (some ⟨b,off,none⟩:Option Addr).map (·.add (L*ei.size))) (H-L) (Q-L),fun w _=>by simp only[execOp,ho,hu,hr,Sem.run_bind,Result.andThen_ok,Sem.run_pure],?_⟩
  by_cases hQL:Q=L
  ·rw[if_pos hQL]
   have h0:(xs.take H).drop L=[]:=List.eq_nil_of_length_eq_zero Zb
   rw[h0,show H-L=([]:List V).length from by simp;omega]
   exact .frz hb hfr (fun x hx=>by simp at hx) Z3 .cnil
  ·rw[if_neg hQL]
   simp only[Option.map_some,Q9y]
   rw[←hlen]
   have hc2:R w (frz X cn) Q1e (.cells b (off+L*ei.size) (Q1y ((xs.take H).drop L))) z0:=by
    rw[Q5g H] at hc
    obtain ⟨c1,c2,g1,_,g3⟩:=R.split hc
    rw[Q5g L] at g1
    obtain ⟨c3,c4,_,g5,g6⟩:=R.split g1
    have:(Q1y ((xs.take H).take L)).length=L*ei.size:=Q2f (Q60 huni H) Z5q
    rw[this] at g5
    exact g5.zero fun z=>by have:=g3 z;have:=g6 z;simp[z0] at*;omega
   exact .frz hb hfr hsub Zb hc2
theorem Qto(hT:TOK P T){t e:Nat}{x:Operand}{lo hi mx:Option Operand}{ti ei:TI}(ho:o.op= .slice t x lo hi mx)(ht:T t=some ti)(hk:ti.kd= .slice e)(he:T e=some ei)
  {id off n:Nat} (hx:val st x= .arr id off n) {xs:List V} (hid:st.ob[id]? =some (some (ei.size,xs)))
  {l h q:Option Nat} (hl:bnd st lo=some l) (hh:bnd st hi=some h) (hq:bnd st mx=some q) (h1:q.getD n≤n) (h2:h.getD n≤q.getD n) (h3:l.getD 0≤h.getD n)
  (h4:q.isSome→h.isSome):OKp P X L st o (.arr id (off+l.getD 0) (h.getD n-l.getD 0)):=by
 intro w m cn a hi' hs
 have hR:=Q14 hs x
 rw[hx] at hR
 rcases R.inv_arr hR with ⟨rfl,ad,hu⟩|⟨b,k,o',cap,cur,e',hu,hcap,hm,hsh,hor⟩
 ·have hb:=Qaz (P:=P) true 0 0 l h q _ _ _ (Q8u hs hl) (Q8u hs hh) (Q8u hs hq) h1 h2 h3 h4
  have hr:=fun w=>Qe7 hT ht hk he ad 0 0 _ _ _ _ _ _ w (hb w)
  refine ⟨.slice ad 0 0,fun w _=> ?_,?_⟩
  ·simp only[execOp,ho,hu,hr,Sem.run_bind,Result.andThen_ok,Sem.run_pure]
   simp at h1 h2 h3
   have e1:q.getD 0=0:=by omega
   have e2:l.getD 0=0:=by omega
   have e3:h.getD 0=0:=by omega
   simp[e1,e2,e3]
  ·rw[show h.getD 0-l.getD 0=0 from by omega];exact .arrn
 ·obtain ⟨rfl,_⟩:=hi'.object hid hm
  have hqc:q.getD cap≤cap:=by cases q<;>simp at h1⊢;omega
  have hhq:h.getD n≤q.getD cap:=by cases q<;>simp at h2⊢ <;>omega
  have hbd:=Qaz (P:=P) true n cap l h q _ _ _ (Q8u hs hl) (Q8u hs hh) (Q8u hs hq) hqc hhq h3 h4
  have hr:=fun w=>Qe7 hT ht hk he (some ⟨b,o',none⟩) n cap _ _ _ _ _ _ w (hbd w)
  have hHn:h.getD n≤n:=by omega
  generalize l.getD 0=L at*
  generalize h.getD n=H at*
  generalize q.getD cap=Q at*
  refine ⟨.slice (if Q=L then some ⟨b,o',none⟩ else (some ⟨b,o',none⟩:Option Addr).map (·.add (L*ei.size))) (H-L) (Q-L),fun w _=>by simp only[execOp,ho,hu,hr,Sem.run_bind,Result.andThen_ok,Sem.run_pure],?_⟩
  rcases hor with ⟨rfl,hoff⟩|⟨rfl,hc⟩
  ·have hH0:H=0:=by omega
   have hL0:L=0:=by omega
   subst hH0 hL0
   by_cases hQ:Q=0
   ·rw[if_pos hQ];exact .arrz hm hsh Zb
   ·rw[if_neg hQ];simp only[Option.map_some,Q9y];exact .arrz hm hsh Zb
  ·by_cases hQL:Q=L
   ·rw[if_pos hQL,show H-L=0 from by omega]
    by_cases h0:off+L=0
    ·have e1:off=0:=by omega
     have e2:L=0:=by omega
     subst e1 e2
     exact .arr hm hsh Zb (Nat.le_trans (Nat.mul_le_mul_right _ Zb) hc)
    ·exact .arrz hm hsh h0
   ·rw[if_neg hQL]
    simp only[Option.map_some,Q9y]
    rw[←Nat.add_mul]
    exact .arr hm hsh Zb (Nat.le_trans (Nat.mul_le_mul_right _ Zb) hc)
end
end Go.Ev
namespace Go.Ev
open Go
def Qcu(ob:List Ob):V→Option (Nat×List V)
 | .lst _ k ys=>some (k,ys)
 | .arr id off n=>match ob[id]? with
  |some (some (k,xs))=>if off+n≤xs.length∧freeL (Q1y ((xs.drop off).take n))=true then some (k,(xs.drop off).take n) else none
  |_=>none
 |_=>none
section
variable {P:Program} {X:Ctx} {st:St} {o:Oper} {T:Nat→Option TI}
theorem Qz1{w:World}{m:Mp}{cn:Nat→Cnt}{ob:List Ob}(hi:Inv X w ob m cn){y:V}{u:Value}(hR:R w (frz X cn) m (.one y u) z0){k:Nat}{ys:List V}(h:Qcu ob y=some (k,ys)):
  ((∃ad,u= .slice ad 0 0)∧ys=[])∨ ∃b off c us,u= .slice (some ⟨b,off,none⟩) ys.length c∧us.length=ys.length*k∧(∀(j:Nat) (v:Value),us[j]? =some v→w.cell? ⟨b,off+j,none⟩=some v)∧
   R w (frz X cn) m (.list (Q1y ys) us) z0∧(∀v∈us,v.oneCell'=true)∧uni k ys:=by
 cases y with
 |lst ow k' xs=>
  simp only[Qcu] at h
  cases h
  rcases R.inv_lst hR with ⟨rfl,ad,hu⟩|⟨b,off,cap,hu,hcap,hb,hfr,huni,hc⟩
  ·exact .inl ⟨⟨ad,hu⟩,rfl⟩
  ·obtain ⟨us,h1,h2,h3,h4⟩:=R.reads hc
   refine .inr ⟨b,off,cap,us,hu,by rw[h1,Q33 huni],h3,?_,h4,huni⟩
   exact h2.mono (Nat.le_refl _) (fun _ _ h=>⟨h,rfl⟩) (fun _ _=>rfl) trivial (fun id x h=>by simp[Q1e] at h)
 |arr id off n=>
  simp only[Qcu] at h
  split at h
  ·rename_i k' xs hid
   split at h
   ·rename_i hc
    cases h
    have hlen:((xs.drop off).take n).length=n:=by rw[List.length_take,List.length_drop];omega
    rcases R.inv_arr hR with ⟨rfl,ad,hu⟩|⟨b,k2,o',cap,cur,e',hu,hcap,hm,hsh,hor⟩
    ·exact .inl ⟨⟨_,hu⟩,by simp⟩
    ·obtain ⟨rfl,cells,e,c,h1,h2,h3,h4,h5⟩:=hi.object hid hm
     rcases hor with ⟨rfl,_⟩|⟨rfl,_⟩
     ·exact .inr ⟨b,o',cap,[],by simpa using hu,by simp,fun j v h=>by simp at h,by simpa using .lnil,fun v h=>by simp at h,fun x h=>by simp at h⟩
     ·rw[Q5g off] at h4
      obtain ⟨c1,c2,_,g2,g3⟩:=R.split h4
      rw[Q2f h2 Zb,Nat.zero_add,Q5g n] at g2
      obtain ⟨c3,c4,g4,_,g6⟩:=R.split g2
      have g7:=g4.zero (R.free0 g4 hc.2)
      obtain ⟨us,a1,a2,a3,a4⟩:=R.reads g7
      refine .inr ⟨b,off*k2,cap,us,by rw[hlen];exact hu,by rw[a1,Q33 (Q60 (Qg6 h2 off) n)],a3,a2,a4,Q60 (Qg6 h2 off) n⟩
   ·cases h
  ·cases h
 |_=>simp[Qcu] at h
theorem Qch{t e:Nat}{s x:Operand}{a:Act}{w w':World}{vs vx v:Value}(ho:o.op= .call {callee:= .builtin .append,args:= #[s,x],argTypes:= #[t,e]})(hs:a.eval s=vs)(hx:a.eval x=vx)
  (h:(Builtin.append_ #[t,e] o.type #[vs,vx]).run P w= .ok v w'):(execOp a.eval o).run P w= .ok (.value v) w':=by
 simp only[execOp,ho,resolve,invoke,builtin,Sem.run_bind,Sem.run_pure,Result.andThen_ok,List.map_toArray,List.map_cons,List.map_nil,hs,hx,h]
theorem Qp3(hT:TOK P T){t e:Nat}{ti ei:TI}(ht:T t=some ti)(hk:ti.kd= .slice e)(he:T e=some ei)(ty:TypeId)(base:Option Addr)(n cap:Nat)(hn:n≤cap)(w:World):
  (Builtin.append_ #[t,t] ty #[.slice base n cap,.slice none 0 0]).run P w= .ok (.slice base n cap) w:=by
 obtain ⟨i,d,z,_,hu,_,hd,_⟩:=TI.of hT ht
 obtain ⟨i2,d2,z2,hi2,_,_,_,hsz,_⟩:=TI.of hT he
 rw[hk] at hd
 have:=Q6g hd
 subst this
 cases base<;>simp[Builtin.append_,run_underlying hu,Q44 hi2,Builtin.lenOf,hn,Builtin.firstCells,storeCells]
theorem Qa0(hT:TOK P T){t e:Nat}{ti ei:TI}(ht:T t=some ti)(hk:ti.kd= .slice e)(he:T e=some ei)(ty:TypeId)(base:Option Addr)(n cap c:Nat)(ad:Addr)(hn:n≤cap)(w:World):
  (Builtin.append_ #[t,t] ty #[.slice base n cap,.slice (some ad) 0 c]).run P w= .ok (.slice base n cap) w:=by
 obtain ⟨i,d,z,_,hu,_,hd,_⟩:=TI.of hT ht
 obtain ⟨i2,d2,z2,hi2,_,_,_,hsz,_⟩:=TI.of hT he
 rw[hk] at hd
 have:=Q6g hd
 subst this
 cases base<;>simp[Builtin.append_,run_underlying hu,Q44 hi2,Builtin.lenOf,hn,Builtin.firstCells,storeCells,loadCells,loadCellsFrom]
theorem Qcw(hT:TOK P T){t e:Nat}{ti ei:TI}(ht:T t=some ti)(hk:ti.kd= .slice e)(he:T e=some ei)(ty:TypeId)(base ad:Option Addr)(n cap:Nat)(hn:n≤cap)(w:World):
  (Builtin.append_ #[t,t] ty #[.slice base n cap,.slice ad 0 0]).run P w= .ok (.slice base n cap) w:=by
 cases ad with
 |none=>exact Qp3 hT ht hk he ty base n cap hn w
 |some ad=>exact Qa0 hT ht hk he ty base n cap 0 ad hn w
theorem Qmt{n:Nat}(z:Value)(h:(ofV z).cells.length=n):z.cells.size=n:=by
 cases z with
 |agg cs=>simp[ofV,V.cells] at h;simpa[Value.cells] using h
 |_=>
  have: ∀v:Value,(Qv2 v).cells.length=1:=by
   intro v
   cases v<;>simp only[Qv2]<;>first|rfl|(split<;>rfl)
  simp only[ofV,this] at h
  rw[←h]
  rfl
end
section
variable {X:Ctx} {w:World} {ob:List Ob} {m:Mp} {cn:Nat→Cnt}
theorem Inv.pfx(hi:Inv X w ob m cn){id k n:Nat}{xs:List V}(hid:ob[id]? =some (some (k,xs)))(hn:n≤xs.length):
  ∃cn',Inv X w (ob.set id (some (k,xs.take n))) m cn'∧Ext X w m cn w m cn':=by
 have hlt:=(List.getElem?_eq_some_iff.1 hid).1
 rcases hi.obj id _ hid with ⟨rfl,h2,h3⟩|⟨b,cur,e,c,h1,h2,h3,h4,h5,h6⟩
 ·refine ⟨cn,?_,.refl⟩
  simp only[List.take_nil]
  have:ob.set id (some (k,[]))=ob:=by
   apply List.ext_getElem?
   intro i
   by_cases hh:i=id
   ·subst hh;rw[List.getElem?_set_self hlt,hid]
   ·rw[List.getElem?_set_ne (Ne.symm hh)]
  rw[this]
  exact hi
 ·rw[Q5g n] at h5
  obtain ⟨c1,c2,g1,_,g3⟩:=R.split h5
  obtain ⟨us,a1,a2,a3,a4⟩:=R.reads g1
  have hw:=hi.write (cs':=cur) (xs':=xs.take n) hid h1 h2 rfl (Q60 h3 n) (Nat.le_trans (Nat.mul_le_mul_right k Z5q) h4) h6 (c':=c1) (fun x=>by have:=g3 x;omega) (us:=us)
   (fun j u hu=>by
    have:=a3 j u hu
    simpa[World.cell?,h2] using this) a2 a4
  rw[setRow_self w b cur e (0,0) h2] at hw
  exact ⟨_,hw⟩
end
section
variable {P:Program} {X:Ctx} {st:St} {o:Oper} {T:Nat→Option TI}
theorem Qmq{w:World}(t ty e e2:TypeId)(i:TypeInfo)(ht:P.underlying t=some (.slice e))(hi:P.info? e=some i)
  (g sLen sCap:Nat) (cur:Array Value) (hg:w.heap[g]? =some (.cells cur e2 (0,0)))
  (a:Addr) (m c:Nat) (news:List Value) (hl:news.length=m*i.size) (hnews: ∀(j:Nat) (u:Value),news[j]? =some u→w.cell? (a.add j)=some u) (h1: ∀u∈news,u.oneCell'=true)
  (hroom:sLen+m≤sCap) (hfit:sLen*i.size+news.length≤cur.size):
  (Builtin.append_ #[t,t] ty #[.slice (some ⟨g,0,none⟩) sLen sCap,.slice (some a) m c]).run P w=
   .ok (.slice (some ⟨g,0,none⟩) (sLen+m) sCap) (w.setRow g (cur.toList.take (sLen*i.size)++news++cur.toList.drop (sLen*i.size+news.length)).toArray):=by
 have hf:=run_firstCells_some (P:=P) w i.size m a m c news hl hnews
 have hst:=run_storeCells_at P g (sLen*i.size) e2 news 0 cur w hg (by simpa using hfit) h1
 simp only[Nat.add_zero] at hst
 simp[Builtin.append_,run_underlying ht,sizeOf,typeInfo,hi,Builtin.lenOf,hroom,hf,Addr.add_lit,hst]
theorem Qr7(p:Nat→Bool)(ob:List Ob)(id k:Nat)(xs:List V):(ob.set id (some (k,xs))).map (jkO p)=(ob.map (jkO p)).set id (some (k,jkL p xs)):=by
 rw[List.map_set];rfl
theorem Qjj(hT:TOK P T){t e:Nat}{s x:Operand}{ti ei:TI}(ho:o.op= .call {callee:= .builtin .append,args:= #[s,x],argTypes:= #[t,t]})(ht:T t=some ti)(hk:ti.kd= .slice e)(he:T e=some ei)
  (hz0:ei.zero.cells.length=ei.size) {id n:Nat} (hs0: ∀w m cn a,Inv X w st.ob m cn→Sl X w m cn st.tm a→R w (frz X cn) m (.one (.arr id 0 n) (a.eval s)) z0) (hid0:X.n0≤id) {xs:List V} (hid:st.ob[id]? =some (some (ei.size,xs))) (hn:n≤xs.length) {ys:List V} (hy:Qcu st.ob (val st x)=some (ei.size,ys))
  (hbig:(n+ys.length)*ei.bytes≤140737488355328) (h63:n+ys.length≤1099511627776):
  OKo P X st o (.arr id 0 (n+ys.length)) ⟨jkL (· ==id) st.tm,(st.ob.map (jkO (· ==id))).set id (some (ei.size,jkL (· ==id) (xs.take n++ys)))⟩:=by
 intro w m cn a hi hs
 obtain ⟨it,d,z,hit,hut,_,hd,_⟩:=TI.of hT ht
 obtain ⟨ie,d2,z2,hie,_,hz2,_,hsz,hbytes,hzero,_⟩:=TI.of hT he
 rw[hk] at hd
 have:=Q6g hd
 subst this
 have hRs:=hs0 w m cn a hi hs
 have hRx:=Q14 hs x
 have hlt:=(List.getElem?_eq_some_iff.1 hid).1
 have hzs:z2.cells.size=ie.size:=Qmt z2 Zbi
 have idle: ∀u,a.eval s=u→ys=[]→(Builtin.append_ #[t,t] o.type #[u,a.eval x]).run P w= .ok u w→ ∃nx u w' m' cn',(execOp a.eval o).run P w= .ok nx w'∧(nx= .value u∨nx= .skip∧u=undef)∧
   Inv X w' ((st.ob.map (jkO (· ==id))).set id (some (ei.size,jkL (· ==id) (xs.take n++ys)))) m' cn'∧Sl X w' m' cn' (jkL (· ==id) st.tm) a∧R w' (frz X cn') m' (.one (.arr id 0 (n+ys.length)) u) z0:=by
  intro u hu hys hrun
  subst hys
  obtain ⟨cn',h1,h2⟩:=hi.pfx hid hn
  have h3:=h1.jk (· ==id)
  rw[Qr7] at h3
  refine ⟨.value u,u,w,m,cn',Qch ho hu rfl hrun,.inl rfl,by simpa using h3,R.jk (fun _ _=>rfl) (h2.Sl hs),?_⟩
  rw[←hu]
  exact h2.R hRs
 rcases Qz1 hi hRx hy with ⟨⟨adx,hux⟩,rfl⟩|⟨bx,ox,cx,news,hux,hnl,hnr,hnR,hn1,hyu⟩
 ·rcases R.inv_arr hRs with ⟨rfl,ad,hu⟩|⟨b,k,o',cap,cur,e',hu,hcap,_⟩
  ·exact idle _ hu rfl (by rw[hux];exact Qcw hT ht hk he o.type ad adx 0 0 (Nat.le_refl _) w)
  ·exact idle _ hu rfl (by rw[hux];exact Qcw hT ht hk he o.type _ adx n cap hcap w)
 ·by_cases hy0:ys=[]
  ·subst hy0
   rcases R.inv_arr hRs with ⟨rfl,ad,hu⟩|⟨b,k,o',cap,cur,e',hu,hcap,_⟩
   ·exact idle _ hu rfl (by rw[hux];exact Qa0 hT ht hk he o.type ad 0 0 cx _ (Nat.le_refl _) w)
   ·exact idle _ hu rfl (by rw[hux];exact Qa0 hT ht hk he o.type _ n cap cx _ hcap w)
  ·have hpos:0<ys.length:=List.length_pos_iff.2 hy0
   have hnl':news.length=ys.length*ie.size:=by rw[hnl,hsz]
   have hadd: ∀(j:Nat) (v:Value),news[j]? =some v→w.cell? ((⟨bx,ox,none⟩:Addr).add j)=some v:=fun j v hj=>by rw[Q9y];exact hnr j v hj
   have grown: ∀(u:Value) (olds:List Value) (c1:Cnt) (old:Nat),a.eval s=u→R w (frz X cn) m (.list (Q1y (xs.take n)) olds) c1→(∀v∈olds,v.oneCell'=true)→(∀z,c1 z≤cn id z)→
     (Builtin.append_ #[t,t] o.type #[u,a.eval x]).run P w= .ok (.slice (some ⟨w.heap.size,0,none⟩) (n+ys.length) (grownCap w (n+ys.length) old e))
      (w.drew.alloc (.cells (olds.toArray++news.toArray++Builtin.zeroCells z2.cells (grownCap w (n+ys.length) old e-(n+ys.length))) e))→uni ei.size (xs.take n)→
     ∃nx u w' m' cn',(execOp a.eval o).run P w= .ok nx w'∧(nx= .value u∨nx= .skip∧u=undef)∧
      Inv X w' ((st.ob.map (jkO (· ==id))).set id (some (ei.size,jkL (· ==id) (xs.take n++ys)))) m' cn'∧Sl X w' m' cn' (jkL (· ==id) st.tm) a∧R w' (frz X cn') m' (.one (.arr id 0 (n+ys.length)) u) z0:=by
    intro u olds c1 old hu hold ho1 hc1 hrun huni
    have hge:=grownCap_ge w (n+ys.length) old e
    have hxl:(xs.take n).length=n:=by rw[List.length_take];omega
    have hol:olds.length=n*ei.size:=by rw[hold.len,Q33 huni,hxl]
    have hcells:(olds.toArray++news.toArray++Builtin.zeroCells z2.cells (grownCap w (n+ys.length) old e-(n+ys.length))).size=grownCap w (n+ys.length) old e*ei.size:=by
     rw[Array.size_append,Array.size_append,size_zeroCells,hzs,←hsz]
     simp only[List.size_toArray,hol,hnl]
     rw[←Nat.add_mul,←Nat.add_mul]
     congr 1
     omega
    have hjoin:=(hold.ljoin hnR).cast (d:=c1) fun z=>by simp[z0]
    rw[←flat_append] at hjoin
    have hrg:=(hi.drew).regrow (cells:=olds.toArray++news.toArray++Builtin.zeroCells z2.cells (grownCap w (n+ys.length) old e-(n+ys.length))) (e:=e) (k:=ei.size) (xs':=xs.take n++ys) hid hid0
     (fun v hv=>by rcases List.mem_append.1 hv with h|h;exact huni v h;exact hyu v h) (by rw[hcells,List.length_append,hxl];exact Nat.mul_le_mul_right _ hge) (us:=olds++news) (c':=c1)
     (fun j v hj=>by
      have hjl:=(List.getElem?_eq_some_iff.1 hj).1
      rw[Array.getElem?_append_left (by simpa using hjl)]
      simpa using hj) (hjoin.mono (Nat.le_refl _) (fun _ _ h=>⟨h,rfl⟩) (fun _ _=>rfl) trivial (fun _ _ h=>⟨h,rfl⟩))
     (fun v hv=>by rcases List.mem_append.1 hv with h|h;exact ho1 v h;exact hn1 v h) hc1
    refine ⟨_,_,_,_,_,Qch ho hu rfl hrun,.inl rfl,hrg.1,?_,?_⟩
    ·have:=hrg.2 (.list st.tm a.tmps.toList) trivial (Ext.drew.Sl hs)
     exact this
    ·have hsh:(w.drew.alloc (.cells (olds.toArray++news.toArray++Builtin.zeroCells z2.cells (grownCap w (n+ys.length) old e-(n+ys.length))) e)).shape? w.heap.size=
       some (e,grownCap w (n+ys.length) old e*ei.size):=by
      have:=heap_alloc_new w.drew (.cells (olds.toArray++news.toArray++Builtin.zeroCells z2.cells (grownCap w (n+ys.length) old e-(n+ys.length))) e)
      simp only[World.shape?,show w.drew.heap.size=w.heap.size from rfl] at this⊢
      rw[this]
      show some (e,_)=_
      rw[hcells]
     have:=R.arr (w:=w.drew.alloc (.cells (olds.toArray++news.toArray++Builtin.zeroCells z2.cells (grownCap w (n+ys.length) old e-(n+ys.length))) e)) (fr:=frz X (upd cn id (fun x=>c1 x+if x=w.drew.heap.size then 1 else 0)))
      (Q1h m id (some (w.drew.heap.size,ei.size))) (o:=0) hsh hge Z9v
     rw[Nat.zero_mul] at this
     exact this
   rcases R.inv_arr hRs with ⟨rfl,ad,hu⟩|⟨b,k,o',cap,cur,e',hu,hcap,hm,hsh,hor⟩
   ·refine grown (.slice ad 0 0) [] z0 0 hu (by simpa using .lnil) (fun v h=>by simp at h) (fun z=>Nat.zero_le _) ?_ (fun v h=>by simp at h)
    cases ad with
    |some ad=>
     have:=run_append_grow (P:=P) w t o.type e ie z2 hut hie hz2 ad 0 0 [] Z3 (fun j v hj=>by simp at hj) ⟨bx,ox,none⟩ ys.length cx news hnl' hadd Zb Zb
      (growslice_fits Zb Zbz)
     rw[hux]
     exact this
    |none=>
    have:=run_append_nil (P:=P) w t o.type e ie z2 hut hie hz2 ⟨bx,ox,none⟩ ys.length cx news hnl' hadd hpos Zb (by rw[←hbytes];simp at hbig;omega)
    rw[hux,Nat.zero_add]
    simpa using this
   ·obtain ⟨rfl,cells,e2,c,g1,g2,g3,g4,g5⟩:=hi.object hid hm
    have hee:e2=e'∧cells.size=cur:=by
     simp only[World.shape?,g1,Option.some.injEq,Prod.mk.injEq] at hsh
     exact hsh
    rcases hor with ⟨_,h⟩|⟨rfl,hc⟩
    ·exact absurd rfl h
    ·rw[Q5g n] at g4
     obtain ⟨c1,c2,q1,_,q3⟩:=R.split g4
     obtain ⟨olds,a1,a2,a3,a4⟩:=R.reads q1
     have hxl:(xs.take n).length=n:=by rw[List.length_take];omega
     have hol:olds.length=n*ie.size:=by rw[a1,Q33 (Q60 g2 n),hxl,hsz]
     rw[Nat.zero_mul] at hu
     by_cases hroom:n+ys.length≤cap
     ·have hk0:=hee.2
      have hin:(n+ys.length)*ie.size≤cells.size:=by
       rw[hk0,←hsz]
       exact Nat.le_trans (Nat.mul_le_mul_right _ Zb) hc
      have hnn:n*ie.size+news.length≤cells.size:=by rw[hnl',←Nat.add_mul];exact hin
      have hrun:=Qmq (P:=P) t o.type e e2 ie hut hie b n cap cells g1 ⟨bx,ox,none⟩ ys.length cx news hnl' hadd hn1 hroom hnn
      have hjoin:=(a2.ljoin hnR).cast (d:=c1) fun z=>by simp[z0]
      rw[←flat_append] at hjoin
      have hw:=hi.write (cs':=(cells.toList.take (n*ie.size)++news++cells.toList.drop (n*ie.size+news.length)).toArray) (xs':=xs.take n++ys) hid hm g1 Z3l
       (fun v hv=>by rcases List.mem_append.1 hv with h|h;exact Q60 g2 n v h;exact hyu v h)
       (by simp only[List.size_toArray,List.length_append,List.length_take,List.length_drop,hxl,Array.length_toList];rw[hsz];rw[Nat.min_eq_left (by omega:n*ie.size≤cells.size)];omega)
       g5 (c':=c1) (fun z=>by rw[q3];omega) (us:=olds++news)
       (fun q u hq=>by
        rw[List.getElem?_toArray,List.append_assoc]
        rcases Nat.lt_or_ge q (n*ie.size) with h|h
        ·rw[List.getElem?_append_left Zb] at hq
         have:=a3 q u hq
         rw[List.getElem?_append_left (by rw[List.length_take];simp;omega),List.getElem?_take_of_lt h]
         simpa[World.cell?,g1] using this
        ·rw[List.getElem?_append_right Zb,hol] at hq
         have hlt:=(List.getElem?_eq_some_iff.1 hq).1
         rw[List.getElem?_append_right Z5q,List.length_take,Nat.min_eq_left Z3l,List.getElem?_append_left hlt]
         exact hq) hjoin (fun v hv=>by rcases List.mem_append.1 hv with h|h;exact a4 v h;exact hn1 v h)
      have hw2:=hw.1.jk (· ==id)
      rw[Qr7] at hw2
      refine ⟨_,_,_,_,_,Qch ho hu rfl (by rw[hux];exact hrun),.inl rfl,hw2,R.jk (fun _ _=>rfl) (hw.2.Sl hs),?_⟩
      have hsh2:(w.setRow b (cells.toList.take (n*ie.size)++news++cells.toList.drop (n*ie.size+news.length)).toArray).shape? b=some (e2,cur):=by
       rw[Qe4 g1 Z3l,hsh,hee.1]
      have:=R.arr (w:=w.setRow b (cells.toList.take (n*ie.size)++news++cells.toList.drop (n*ie.size+news.length)).toArray) (fr:=frz X (upd cn id (fun x=>c1 x+if x=b then 1 else 0)))
       hm (o:=0) (n:=n+ys.length) (cap:=cap) hsh2 hroom hc
      rw[Nat.zero_mul] at this
      exact this
     ·have:=run_append_grow (P:=P) w t o.type e ie z2 hut hie hz2 ⟨b,0,none⟩ n cap olds hol (fun j v hj=>by rw[Q9y];exact a3 j v hj) ⟨bx,ox,none⟩ ys.length cx news hnl' hadd Zb Zb
       (growslice_fits Zb Zbz)
      exact grown _ olds c1 cap hu a2 a4 (fun z=>by rw[g5,q3];omega) (by rw[hux];exact this) (Q60 g2 n)
end
end Go.Ev
namespace Go.Ev
open Go
section
variable {P:Program} {X:Ctx} {st:St} {o:Oper} {T:Nat→Option TI}
theorem Qwn(hT:TOK P T){t e:Nat}{s x:Operand}{ti ei:TI}(ho:o.op= .call {callee:= .builtin .append,args:= #[s,x],argTypes:= #[t,t]})(ht:T t=some ti)(hk:ti.kd= .slice e)(he:T e=some ei)
  (hz0:ei.zero.cells.length=ei.size) {id n:Nat} (hs0:val st s= .arr id 0 n) (hid0:X.n0≤id) {xs:List V} (hid:st.ob[id]? =some (some (ei.size,xs))) (hn:n≤xs.length) {ys:List V} (hy:Qcu st.ob (val st x)=some (ei.size,ys))
  (hbig:(n+ys.length)*ei.bytes≤140737488355328) (h63:n+ys.length≤1099511627776):
  OKo P X st o (.arr id 0 (n+ys.length)) ⟨jkL (· ==id) st.tm,(st.ob.map (jkO (· ==id))).set id (some (ei.size,jkL (· ==id) (xs.take n++ys)))⟩:=
 Qjj hT ho ht hk he hz0 (fun w m cn a _ hs=>by have:=Q14 hs s;rw[hs0] at this;exact this) hid0 hid hn hy hbig h63
theorem Qqz{ob:List Ob}{k:Nat}{y:V}{r:Nat×List V}(h:Qcu ob y=some r):Qcu (ob++[some (k,[])]) y=some r:=by
 cases y with
 |arr id off n=>
  simp only[Qcu] at h⊢
  cases hid:ob[id]? with
  |none=>rw[hid] at h;cases h
  |some o'=>
   rw[List.getElem?_append_left (List.getElem?_eq_some_iff.1 hid).1,hid]
   rw[hid] at h
   exact h
 |_=>exact h
theorem Qy3(hT:TOK P T){t e:Nat}{s x:Operand}{ti ei:TI}(ho:o.op= .call {callee:= .builtin .append,args:= #[s,x],argTypes:= #[t,t]})(ht:T t=some ti)(hk:ti.kd= .slice e)(he:T e=some ei)
  (hz0:ei.zero.cells.length=ei.size) (hs0:val st s= .raw (.slice none 0 0)) {ys:List V} (hy:Qcu st.ob (val st x)=some (ei.size,ys))
  (hbig:ys.length*ei.bytes≤140737488355328) (h63:ys.length≤1099511627776):
  OKo P X st o (.arr st.ob.length 0 ys.length) ⟨jkL (· ==st.ob.length) st.tm,(st.ob++[some (ei.size,[])]).map (jkO (· ==st.ob.length))|>.set st.ob.length (some (ei.size,jkL (· ==st.ob.length) ys))⟩:=by
 intro w m cn a hi hs
 obtain ⟨h1,h2⟩:=hi.nameNil ei.size
 have hv: ∀y,val (⟨st.tm,st.ob++[some (ei.size,[])]⟩:St) y=val st y:=fun y=>by cases y<;>rfl
 have:=Qjj (P:=P) (X:=X) (st:=⟨st.tm,st.ob++[some (ei.size,[])]⟩) hT ho ht hk he hz0 (id:=st.ob.length) (n:=0) (xs:=[])
  (fun w m cn a hi hs=>by
   have:=Q14 hs s
   rw[hv,hs0] at this
   rw[R.inv_raw this]
   exact .arrn) hi.n0 Z3 (Nat.le_refl _) (ys:=ys) (by rw[hv];exact Qqz hy) (by simpa using hbig) (by simpa using h63)
 simp only[Nat.zero_add,List.take_nil,List.nil_append] at this
 exact this w m _ a h1 (h2.Sl hs)
def Qy8(st:St):Nat→List (Nat×Operand)→Option (List V)
 |_,[]=>some []
 |i,(j,x)::ps=>if i=j then (match Qy8 st (i+1) ps with|some xs=>some (val st x::xs)|none=>none) else none
theorem Qwc(off:Nat): ∀(vs:List Value) (k:Nat) (cells:Array Value),off+k+vs.length≤cells.size→
  ((vs.zipIdx k).foldl (fun (cs:Array Value) (p:Value×Nat)=>cs.setIfInBounds (off+p.2) p.1) cells).toList=cells.toList.take (off+k)++vs++cells.toList.drop (off+k+vs.length):=by
 intro vs
 induction vs with
 |nil=>intro k cells h;simp
 |cons v vs ih=>
  intro k cells h
  simp only[List.length_cons] at h
  rw[List.zipIdx_cons,List.foldl_cons,ih (k+1) _ Z3l]
  simp only[Array.toList_setIfInBounds]
  rw[show off+(k+1)=off+k+1 from by omega,show off+k+(v::vs).length=off+k+1+vs.length from by simp;omega]
  have hlt:off+k<cells.toList.length:=by simp;omega
  rw[List.take_succ_eq_append_getElem (by simpa using hlt),List.getElem_set_self,List.take_set,List.set_eq_of_length_le Z5q,List.drop_set,if_pos Zb]
  simp
theorem Q12z(size:Nat): ∀(parts:List (Nat×Value)) (i:Nat) (pre:List Value) (cells:Array Value),(∀(q:Nat) (p:Nat×Value),parts[q]? =some p→p.1=i+q∧p.2.cells.size=size)→
  cells.toList.take (i*size)=pre→(i+parts.length)*size=cells.size→
  Instr.fill (fun i=>some (i*size,size)) cells parts=some (pre++(parts.flatMap fun p=>p.2.cells.toList)).toArray:=by
 intro parts
 induction parts with
 |nil=>
  intro i pre cells _ ht hc
  simp only[Instr.fill,List.flatMap_nil,List.append_nil]
  rw[←ht,List.take_of_length_le (by simp at hc;simp;omega)]
 |cons p parts ih=>
  intro i pre cells h ht hc
  obtain ⟨j,v⟩:=p
  have h0:=h 0 _ rfl
  simp only[Nat.add_zero] at h0
  obtain ⟨rfl,hv⟩:=h0
  have hc':j*size+size+parts.length*size=cells.size:=by
   simp only[List.length_cons] at hc
   rw[←hc,Nat.add_mul,Nat.add_mul];omega
  have hfit:(decide (v.cells.size≠size)||decide (j*size+v.cells.size>cells.size))=false:=by simp;omega
  have hseg:=Qwc (j*size) v.cells.toList 0 cells Z3l
  simp only[Nat.add_zero] at hseg
  have hz:(v.cells.zipIdx.foldl (fun (cs:Array Value) (x:Value×Nat)=>cs.setIfInBounds (j*size+x.2) x.1) cells)=((v.cells.toList.zipIdx 0).foldl (fun (cs:Array Value) (p:Value×Nat)=>cs.setIfInBounds (j*size+p.2) p.1) cells):=by
   rw[←Array.foldl_toList,Array.toList_zipIdx]
  simp only[Instr.fill]
  rw[if_neg (by simpa using hfit)]
  rw[show (fun (cs:Array Value) (x:Value×Nat)=>match x with|(c,j_1)=>cs.setIfInBounds (j*size+j_1) c)=(fun cs x=>cs.setIfInBounds (j*size+x.2) x.1) from rfl,hz]
  generalize (v.cells.toList.zipIdx 0).foldl (fun (cs:Array Value) (p:Value×Nat)=>cs.setIfInBounds (j*size+p.2) p.1) cells=cells2 at hseg
  have hvl:v.cells.toList.length=size:=by simpa using hv
  have hlen:cells2.size=cells.size:=by
   rw[←Array.length_toList,hseg];simp;omega
  rw[ih (j+1) (pre++v.cells.toList) cells2 (fun q p hp=>by have:=h (q+1) p (by simpa using hp);exact ⟨by omega,this.2⟩) (by
   rw[hseg,Nat.add_mul,Nat.one_mul,List.append_assoc,ht,List.take_append,List.take_of_length_le (by rw[←ht,List.length_take];omega)]
   congr 1
   rw[←ht,List.length_take,Nat.min_eq_left Z3l,show j*size+size-j*size=size from by omega,List.take_append,List.take_of_length_le Zb,hvl]
   simp) (by rw[hlen,Nat.add_mul,Nat.add_mul];omega)]
  simp
theorem Q16g{w:World}{m:Mp}{cn:Nat→Cnt}{a:Act}(hs:Sl X w m cn st.tm a): ∀(ps:List (Nat×Operand)) (i:Nat) (xs:List V),Qy8 st i ps=some xs→Q2q (Q1y xs)=true→
  R w (frz X cn) m (.list (Q1y xs) ((ps.map fun p=>(p.1,a.eval p.2)).flatMap fun p=>p.2.cells.toList)) z0∧(∀v∈(ps.map fun p=>(p.1,a.eval p.2)).flatMap (fun p=>p.2.cells.toList),v.oneCell'=true)∧
   xs.length=ps.length∧ ∀k,uni k xs→ ∀(q:Nat) (p:Nat×Value),(ps.map fun p=>(p.1,a.eval p.2))[q]? =some p→p.1=i+q∧p.2.cells.size=k:=by
 intro ps
 induction ps with
 |nil=>intro i xs h _;simp only[Qy8] at h;cases h;exact ⟨.lnil,fun v h=>by simp at h,rfl,fun k _ q p h=>by simp at h⟩
 |cons p ps ih=>
  intro i xs h hok
  obtain ⟨j,x⟩:=p
  simp only[Qy8] at h
  split at h
  ·rename_i hij
   subst hij
   split at h
   ·rename_i ys hy
    cases h
    simp only[flat_cons,Q2q,List.all_append,Bool.and_eq_true] at hok
    obtain ⟨h1,h2,h3,h4⟩:=ih (i+1) ys hy hok.2
    obtain ⟨h5,h6⟩:=(Q14 hs x).toCells hok.1
    refine ⟨?_,?_,by simp[h3],?_⟩
    ·simp only[List.map_cons,List.flatMap_cons,flat_cons]
     exact (h5.ljoin h1).zero fun z=>by simp[z0]
    ·simp only[List.map_cons,List.flatMap_cons]
     intro v hv
     rcases List.mem_append.1 hv with h|h
     ·exact h6 v h
     ·exact h2 v h
    ·intro k hk q p hp
     cases q with
     |zero=>
      simp at hp
      subst hp
      have:=hk _ (List.mem_cons_self)
      have hl:=h5.len
      simp at hl⊢
      omega
     |succ q=>
      have:=h4 k (fun y hy=>hk y Zca) q p (by simpa using hp)
      exact ⟨by omega,this.2⟩
   ·cases h
  ·cases h
theorem Qsu(hT:TOK P T){t e len:Nat}{parts:Array (Nat×Operand)}{ti ei:TI}(ho:o.op= .buildSlice t len parts)(ht:T t=some ti)(hk:ti.kd= .slice e)(he:T e=some ei)
  {xs:List V} (hx:Qy8 st 0 parts.toList=some xs) (hlen:xs.length=len) (hok:Q2q (Q1y xs)=true) (huni:(xs.all fun x=>x.cells.length==ei.size)=true) (hsmall:len*ei.size≤16777216) (hz0:ei.zero.cells.length=ei.size):
  OKo P X st o (.arr st.ob.length 0 len) ⟨st.tm,st.ob++[some (ei.size,xs)]⟩:=by
 intro w m cn a hi hs
 obtain ⟨it,d,z,hit,hut,_,hd,_⟩:=TI.of hT ht
 obtain ⟨ie,d2,z2,hie,_,hz2,_,hsz,hbytes,hzero,_⟩:=TI.of hT he
 rw[hk] at hd
 have:=Q6g hd
 subst this
 have huni':uni ei.size xs:=fun x hx=>by have:=List.all_eq_true.1 huni x hx;simpa using this
 have hzs:z2.cells.size=ie.size:=Qmt z2 Zbi
 obtain ⟨h1,h2,h3,h4⟩:=Q16g hs _ _ _ hx hok
 have hps:=h4 ei.size huni'
 generalize hvs:(parts.toList.map fun p=>(p.1,a.eval p.2))=vs at*
 have hvl:vs.length=len:=by rw[←hvs,List.length_map,←h3,hlen]
 have hfl:=Q33 huni'
 rw[hlen] at hfl
 have hnl:=h1.len
 have e0:(List.toArray (vs.flatMap fun p=>p.2.cells.toList)).toList=vs.flatMap (fun p=>p.2.cells.toList):=rfl
 have hfill: ∀cells:Array Value,cells.size=len*ie.size→Instr.fill (fun i=>some (i*ie.size,ie.size)) cells vs=some (vs.flatMap fun p=>p.2.cells.toList).toArray:=by
  intro cells hc
  have:=Q12z ie.size vs 0 [] cells (fun q p hp=>by have:=hps q p hp;exact ⟨this.1,by rw[this.2,hsz]⟩) Z3 (by rw[Nat.zero_add,hvl,hc])
  simpa using this
 have hrun:(Instr.buildSlice t len (parts.map fun (i,x)=>(i,a.eval x))).run P w= .ok (.slice (some ⟨w.heap.size,0,none⟩) len len) (w.alloc (.cells (vs.flatMap fun p=>p.2.cells.toList).toArray e)):=by
  have hn: ¬len*ie.size>2^24:=by rw[←hsz];omega
  have hpl:(parts.map fun (p:Nat×Operand)=>(p.1,a.eval p.2)).toList=vs:=by rw[Array.toList_map,hvs]
  by_cases h0:len*ie.size=0
  ·simp only[Instr.buildSlice,Sem.run_bind,run_underlying hut,Result.andThen_ok,Q44 hie,Sem.run_ite,h0,if_true,Sem.run_pure,hpl]
   rw[hfill _ (by simp[h0])]
   simp[newRow]
  ·simp only[Instr.buildSlice,Sem.run_bind,run_underlying hut,Result.andThen_ok,Q44 hie,Sem.run_ite,if_neg hn,if_neg h0,zeroValue,typeInfo,run_program,hie,hz2,Sem.run_pure,hpl]
   rw[hfill _ Z3]
   simp[newRow]
 have hgrow:=hi.grow (cells:=(vs.flatMap fun p=>p.2.cells.toList).toArray) (e:=e) (k:=ei.size) (xs:=xs) huni' (by simp only[List.size_toArray,hlen];omega)
  (fun us hus=>by
   rw[e0,List.take_of_length_le Zb] at hus
   subst hus
   exact ⟨h1,h2⟩)
 have hext:=Ext.grow hi (.cells (vs.flatMap fun p=>p.2.cells.toList).toArray e) ei.size
 refine ⟨.value (.slice (some ⟨w.heap.size,0,none⟩) len len),_,_,_,_,?_,.inl rfl,hgrow,hext.Sl hs,?_⟩
 ·simp only[execOp,ho,hrun,Sem.run_bind,Result.andThen_ok,Sem.run_pure]
 ·have hsh:(w.alloc (.cells (vs.flatMap fun p=>p.2.cells.toList).toArray e)).shape? w.heap.size=some (e,len*ei.size):=by
   simp only[World.shape?,heap_alloc_new w,Option.some.injEq,Prod.mk.injEq,true_and,List.size_toArray]
   omega
  have:=R.arr (w:=w.alloc (.cells (vs.flatMap fun p=>p.2.cells.toList).toArray e)) (fr:=frz X (upd cn st.ob.length (fun x=>if x=w.heap.size then 1 else 0))) (Q1h m st.ob.length (some (w.heap.size,ei.size)))
   (o:=0) (n:=len) (cap:=len) hsh (Nat.le_refl _) Z9v
  rw[Nat.zero_mul] at this
  exact this
theorem Qx7{α:Type}(l:List α)(hl:0<l.length): ∀(n j:Nat),j<n*l.length→(List.replicate n l).flatten[j]? =l[j%l.length]? :=by
 intro n
 induction n with
 |zero=>intro j h;simp at h
 |succ n ih=>
  intro j h
  rw[List.replicate_succ,List.flatten_cons]
  rcases Nat.lt_or_ge j l.length with h'|h'
  ·rw[List.getElem?_append_left h',Nat.mod_eq_of_lt h']
  ·rw[List.getElem?_append_right h',ih (j-l.length) (by rw[Nat.add_mul] at h;omega),←Nat.mod_eq_sub_mod h']
theorem Qr9{z:Array Value}{k n c:Nat}(hz:z.size=k)(hk:0<k)(hn:n≤c):(madeCells z (c*k)).toList.take (n*k)=(List.replicate n z.toList).flatten:=by
 subst hz
 have hnc:n*z.size≤c*z.size:=Nat.mul_le_mul_right _ hn
 apply List.ext_getElem?
 intro j
 rcases Nat.lt_or_ge j (n*z.size) with h|h
 ·rw[List.getElem?_take_of_lt h,Qx7 _ (by simpa using hk) n j Z49]
  have hm:j%z.size<z.size:=Nat.mod_lt _ hk
  have hj:j<c*z.size:=by omega
  rw[Array.length_toList,Array.getElem?_toList,Array.getElem?_toList,madeCells]
  simp[hj,hm]
 ·rw[List.getElem?_eq_none Z5q,List.getElem?_eq_none (by simp[List.length_flatten];exact h)]
theorem Qv1(hT:TOK P T){t e:Nat}{x y:Operand}{ti ei:TI}(ho:o.op= .makeSlice t x y)(ht:T t=some ti)(hk:ti.kd= .slice e)(he:T e=some ei)
  {k1 k2:IntKind} {n c:Int} (hx:val st x= .int k1 n) (hy:val st y= .int k2 c) (h0:0≤n) (hc:n≤c) (hbig:(ei.bytes:Int)*c≤281474976710656) (h63:c≤9223372036854775807)
  (hok:Q2q ei.zero.cells=true) (hz0:ei.zero.cells.length=ei.size) (hpos:0<ei.size):
  OKo P X st o (.arr st.ob.length 0 n.toNat) ⟨st.tm,st.ob++[some (ei.size,List.replicate n.toNat ei.zero)]⟩:=by
 intro w m cn a hi hs
 obtain ⟨it,d,z,hit,hut,_,hd,_⟩:=TI.of hT ht
 obtain ⟨ie,d2,z2,hie,_,hz2,_,hsz,hbytes,hzero,_⟩:=TI.of hT he
 rw[hk] at hd
 have:=Q6g hd
 subst this
 have hzs:z2.cells.size=ie.size:=Qmt z2 Zbi
 have h1:=Q14 hs x
 have h2:=Q14 hs y
 rw[hx] at h1
 rw[hy] at h2
 have hrun:=run_make (P:=P) w t e ie z2 hut hie hz2 k1 k2 n c h0 hc Zbz h63
 have huni:uni ei.size (List.replicate n.toNat ei.zero):=fun v hv=>by rw[(List.mem_replicate.1 hv).2];exact hz0
 have hzR: ∀(w:World) (fr:Nat→Prop) (m:Mp),R w fr m (.list ei.zero.cells z2.cells.toList) z0:=fun w fr m=>(hzero▸Q12e z2:R w fr m (.one ei.zero z2) z0).toCells hok|>.1
 have htake:=Qr9 (z:=z2.cells) (k:=ei.size) (by rw[hzs,hsz]) hpos (n:=n.toNat) (c:=c.toNat) Zb
 have hRep: ∀q,R w (frz X cn) m (.list (Q1y (List.replicate q ei.zero)) (List.replicate q z2.cells.toList).flatten) z0:=by
  intro q
  induction q with
  |zero=>exact .lnil
  |succ q ih=>
   rw[List.replicate_succ,List.replicate_succ,flat_cons,List.flatten_cons]
   exact ((hzR _ _ _).ljoin ih).zero fun z=>by simp[z0]
 have hone: ∀v∈z2.cells.toList,v.oneCell'=true:=(hzR w (frz X cn) m).oneCells hok
 have hfl:(Q1y (List.replicate n.toNat ei.zero)).length=n.toNat*ei.size:=by rw[Q33 huni,List.length_replicate]
 have hsize:(madeCells z2.cells (c.toNat*ie.size)).size=c.toNat*ei.size:=by rw[size_madeCells,hsz]
 have hgrow:=hi.grow (cells:=madeCells z2.cells (c.toNat*ie.size)) (e:=e) (k:=ei.size) (xs:=List.replicate n.toNat ei.zero) huni (by rw[List.length_replicate,hsize];exact Nat.mul_le_mul_right _ Zb)
  (fun us hus=>by
   rw[hfl,←hsz,htake] at hus
   subst hus
   refine ⟨hRep _,fun v hv=> ?_⟩
   obtain ⟨l,h3,h4⟩:=List.mem_flatten.1 hv
   rw[(List.mem_replicate.1 h3).2] at h4
   exact hone v h4)
 have hext:=Ext.grow hi (.cells (madeCells z2.cells (c.toNat*ie.size)) e) ei.size
 refine ⟨.value (.slice (some ⟨w.heap.size,0,none⟩) n.toNat c.toNat),_,_,_,_,?_,.inl rfl,hgrow,hext.Sl hs,?_⟩
 ·simp only[execOp,ho,R.inv_int h1,R.inv_int h2,hrun,Sem.run_bind,Result.andThen_ok,Sem.run_pure]
 ·have hsh:(w.alloc (.cells (madeCells z2.cells (c.toNat*ie.size)) e)).shape? w.heap.size=some (e,c.toNat*ei.size):=by
   simp only[World.shape?,heap_alloc_new w,Option.some.injEq,Prod.mk.injEq,true_and]
   exact hsize
  have:=R.arr (w:=w.alloc (.cells (madeCells z2.cells (c.toNat*ie.size)) e)) (fr:=frz X (upd cn st.ob.length (fun x=>if x=w.heap.size then 1 else 0))) (Q1h m st.ob.length (some (w.heap.size,ei.size)))
   (o:=0) (n:=n.toNat) (cap:=c.toNat) hsh Zb Z9v
  rw[Nat.zero_mul] at this
  exact this
end
end Go.Ev
namespace Go.Ev
open Go
def bld(T:Nat→Option TI)(st:St)(fs:List (Nat×Nat)):List V→List (Nat×Operand)→Option (List V)
 |cs,[]=>some cs
 |cs,(i,x)::ps=>match fs[i]? with
  |some (off,ft)=>match T ft with
   |some fi=>if (val st x).cells.length=fi.size∧off+fi.size≤cs.length∧Q2q (val st x).cells=true then bld T st fs (cs.take off++(val st x).cells++cs.drop (off+fi.size)) ps else none
   |none=>none
  |none=>none
section
variable {P:Program} {X:Ctx} {L:List Nat} {st:St} {o:Oper} {T:Nat→Option TI}
theorem Q16v(hT:TOK P T){w:World}{m:Mp}{cn:Nat→Cnt}{a:Act}(hs:Sl X w m cn st.tm a){gs:Array Field}(places:Array (Nat×Nat))
  (hpl: ∀(i off ft:Nat) (fi:TI),(gs.toList.map fun f=>(f.offset,f.type))[i]? =some (off,ft)→T ft=some fi→places[i]? =some (off,fi.size)):
  ∀(ps:List (Nat×Operand)) (cs:List V) (cells:Array Value) (rs:List V),R w (frz X cn) m (.list cs cells.toList) z0→bld T st (gs.toList.map fun f=>(f.offset,f.type)) cs ps=some rs→
   ∃cells',Instr.fill (places[·]?) cells (ps.map fun p=>(p.1,a.eval p.2))=some cells'∧R w (frz X cn) m (.list rs cells'.toList) z0:=by
 intro ps
 induction ps with
 |nil=>intro cs cells rs hR h;simp only[bld] at h;cases h;exact ⟨cells,rfl,hR⟩
 |cons p ps ih=>
  intro cs cells rs hR h
  obtain ⟨i,x⟩:=p
  simp only[bld] at h
  split at h
  ·rename_i off ft hf
   split at h
   ·rename_i fi hfi
    split at h
    ·rename_i hc
     obtain ⟨h1,h2,h3⟩:=hc
     obtain ⟨hv1,hv2⟩:=(Q14 hs x).toCells h3
     have hlen:=hR.len
     have hvl:=hv1.len
     have hpi:=hpl i off ft fi hf hfi
     have hseg:=Qwc off (a.eval x).cells.toList 0 cells (by simp at hlen hvl⊢;omega)
     simp only[Nat.add_zero] at hseg
     have hz:((a.eval x).cells.zipIdx.foldl (fun (cs:Array Value) (y:Value×Nat)=>cs.setIfInBounds (off+y.2) y.1) cells)=
       (((a.eval x).cells.toList.zipIdx 0).foldl (fun (cs:Array Value) (p:Value×Nat)=>cs.setIfInBounds (off+p.2) p.1) cells):=by
      rw[←Array.foldl_toList,Array.toList_zipIdx]
     simp only[List.map_cons,Instr.fill,hpi]
     rw[if_neg (by simp at hlen hvl⊢;omega)]
     rw[show (fun (cs:Array Value) (y:Value×Nat)=>match y with|(c,j_1)=>cs.setIfInBounds (off+j_1) c)=(fun cs y=>cs.setIfInBounds (off+y.2) y.1) from rfl,hz]
     generalize ((a.eval x).cells.toList.zipIdx 0).foldl (fun (cs:Array Value) (p:Value×Nat)=>cs.setIfInBounds (off+p.2) p.1) cells=cells2 at hseg
     refine ih _ cells2 rs ?_ h
     rw[hseg]
     have hsp:=Q11x cs off fi.size
     rw[hsp] at hR
     obtain ⟨c1,c2,hA,hBC,hc12⟩:=R.lsplit hR
     obtain ⟨c3,c4,_,hC,hc34⟩:=R.lsplit hBC
     have hAl:(cs.take off).length=off:=by rw[List.length_take];omega
     have hBl:((cs.drop off).take fi.size).length=fi.size:=by rw[List.length_take,List.length_drop];omega
     rw[hAl] at hA hC
     rw[hBl,List.drop_drop] at hC
     have hvl2:(a.eval x).cells.toList.length=fi.size:=by rw[hvl,h1]
     rw[hvl2]
     exact ((hA.ljoin hv1).ljoin hC).zero fun z=>by have:=hc12 z;have:=hc34 z;simp[z0] at*;omega
    ·cases h
   ·cases h
  ·cases h
theorem Qxz(hT:TOK P T): ∀(fs:List Field),(fs.all fun f=>(T f.type).isSome)=true→
  ∃ps:List (Nat×Nat),(∀w,(fs.mapM fun f=>(do pure (f.offset,←sizeOf f.type):Sem (Nat×Nat))).run P w= .ok ps w)∧ ∀(i off ft:Nat) (fi:TI),(fs.map fun f=>(f.offset,f.type))[i]? =some (off,ft)→T ft=some fi→ps[i]? =some (off,fi.size):=by
 intro fs
 induction fs with
 |nil=>intro _;exact ⟨[],fun w=>by simp,fun i off ft fi h=>by simp at h⟩
 |cons f fs ih=>
  intro h
  simp only[List.all_cons,Bool.and_eq_true] at h
  obtain ⟨ps,h1,h2⟩:=ih h.2
  obtain ⟨fi,hfi⟩:=Option.isSome_iff_exists.1 h.1
  obtain ⟨i,d,z,hi,_,_,_,hsz,_⟩:=TI.of hT hfi
  refine ⟨(f.offset,fi.size)::ps,fun w=> ?_,?_⟩
  ·simp only[List.mapM_cons,Sem.run_bind,Q44 hi,Result.andThen_ok,Sem.run_pure,h1,hsz]
  ·intro j off ft fj hj hfj
   cases j with
   |zero=>simp at hj;obtain ⟨rfl,rfl⟩:=hj;rw[hfi] at hfj;cases hfj;rfl
   |succ j=>exact h2 j off ft fj (by simpa using hj) hfj
theorem Qwl(hT:TOK P T){t:Nat}{parts:Array (Nat×Operand)}{ti:TI}(ho:o.op= .build t parts)(ht:T t=some ti){fs:List (Nat×Nat)}(hk:ti.kd= .struct fs)
  (hall:(fs.all fun p=>(T p.2).isSome)=true) {rs:List V} (hb:bld T st fs ti.zero.cells parts.toList=some rs) (hok:Q2q ti.zero.cells=true):OKp P X L st o (.agg rs):=by
 intro w m cn a hi hs
 obtain ⟨it,d,z,hit,hut,hz,hd,_,_,hzero,_⟩:=TI.of hT ht
 rw[hk] at hd
 obtain ⟨gs,rfl,rfl⟩:=Qic hd
 obtain ⟨ps,h1,h2⟩:=Qxz hT gs.toList (by simpa using hall)
 have hzR:R w (frz X cn) m (.list ti.zero.cells z.cells.toList) z0:=((hzero▸Q12e z:R w (frz X cn) m (.one ti.zero z) z0).toCells hok).1
 obtain ⟨cells',h3,h4⟩:=Q16v hT hs ps.toArray (fun i off ft fi a b=>by simpa using h2 i off ft fi a b) parts.toList _ _ _ hzR hb
 refine ⟨.agg cells',fun w _=> ?_,by simpa using R.agg h4⟩
 have hrun:(Instr.build t (parts.map fun (i,x)=>(i,a.eval x))).run P w= .ok (.agg cells') w:=by
  have hpl:(parts.map fun (p:Nat×Operand)=>(p.1,a.eval p.2)).toList=parts.toList.map fun p=>(p.1,a.eval p.2):=by rw[Array.toList_map]
  have hm:(gs.mapM fun f=>(do pure (f.offset,←sizeOf f.type):Sem (Nat×Nat))).run P w= .ok ps.toArray w:=by
   rw[Array.mapM_eq_mapM_toList,Sem.run_map,h1];rfl
  simp only[Instr.build,zeroValue,typeInfo,Sem.run_bind,run_program,Result.andThen_ok,hit,hz,Sem.run_pure,run_underlying hut,hm,hpl,h3]
 simp only[execOp,ho,hrun,Sem.run_bind,Result.andThen_ok,Sem.run_pure]
end
end Go.Ev
namespace Go.Ev
open Go
section
variable {P:Program} {X:Ctx} {L:List Nat} {st:St} {o:Oper} {T:Nat→Option TI}
def vlen:V→Option Nat
 | .str l=>some l.length
 | .lst _ _ xs=>some xs.length
 | .arr _ _ n=>some n
 | .raw (.slice none 0 0)=>some 0
 |_=>none
theorem Qgg(hT:TOK P T){t:Nat}{x:Operand}{ti:TI}(ho:o.op= .call {callee:= .builtin .len,args:= #[x],argTypes:= #[t]})(ht:T t=some ti)
  (hk:(match ti.kd,val st x with| .str,.str _=>true| .slice _,.str _=>false| .slice _,_=>true|_,_=>false)=true) {n:Nat} (hn:vlen (val st x)=some n):OKp P X L st o (.int .i64 n):=by
 intro w m cn a hi hs
 have h1:=Q14 hs x
 obtain ⟨i,d,z,_,hu,_,hd,_⟩:=TI.of hT ht
 have key:(∀w,(Builtin.len_ #[t] o.type #[a.eval x]).run P w= .ok (.int .i64 n) w)→ ∃u,(∀w',Kr X cn L w w'→(execOp a.eval o).run P w'= .ok (.value u) w')∧R w (frz X cn) m (.one (.int .i64 n) u) z0:=
  fun h=>⟨.int .i64 n,fun w _=>by simp only[execOp,ho,resolve,invoke,builtin,Sem.run_bind,Sem.run_pure,Result.andThen_ok,List.map_toArray,List.map_cons,List.map_nil,h],.int _ _⟩
 refine key fun w'=> ?_
 generalize hv:val st x=v at h1 hk hn
 generalize a.eval x=u at h1
 split at hk
 ·rename_i l hkd
  cases hn
  rw[hkd] at hd
  have:=Qci hd
  subst this
  cases h1
  have hsz:(⟨l.toArray⟩:ByteArray).size=l.length:=by show l.toArray.size=_;simp
  simp only[Builtin.len_,List.getElem?_toArray,List.getElem?_cons_zero,Sem.run_bind,run_underlying hu,Result.andThen_ok,goInt,hsz,Sem.run_pure]
 ·cases hk
 ·rename_i e hkd _
  rw[hkd] at hd
  have:=Q6g hd
  subst this
  have: ∃b c,u= .slice b n c:=by
   unfold vlen at hn
   split at hn
   ·rename_i hne;exact (hne _ rfl).elim
   ·cases hn;cases h1<;>exact ⟨_,_,rfl⟩
   ·cases hn;cases h1<;>exact ⟨_,_,rfl⟩
   ·cases hn;cases h1;exact ⟨_,_,rfl⟩
   ·cases hn
  obtain ⟨b,c,rfl⟩:=this
  simp[Builtin.len_,run_underlying hu,goInt]
 ·cases hk
def Qq7(T:Nat→Option TI)(t f:Nat)(x:V):Option V:=
 match T t with
 |some ti=>match ti.kd with
  | .struct fs=>match fs[f]? with
   |some (off,ft)=>match T ft with
    |some fi=>match x with
     | .agg xs=>if off≤xs.length then rd fi (xs.drop off) else none
     |_=>none
    |none=>none
   |none=>none
  |_=>none
 |none=>none
theorem Qwi(hT:TOK P T){t f:Nat}{x:Operand}(ho:o.op= .field t x f){r:V}(h:Qq7 T t f (val st x)=some r):OKp P X L st o r:=by
 intro w m cn a hi hs
 have h1:=Q14 hs x
 generalize hv:val st x=v at h1 h
 generalize hau:a.eval x=u at h1
 unfold Qq7 at h
 split at h
 ·rename_i ti ht
  split at h
  ·rename_i fs hk
   split at h
   ·rename_i off ft hf
    split at h
    ·rename_i fi hfi
     split at h
     ·rename_i xs
      split at h
      ·rename_i hoff
       obtain ⟨i,d,z,_,hu,_,hd,_⟩:=TI.of hT ht
       rw[hk] at hd
       obtain ⟨gs,rfl,rfl⟩:=Qic hd
       obtain ⟨g,hg,hgo⟩: ∃g:Field,gs[f]? =some g∧(g.offset,g.type)=(off,ft):=by
        simp only[List.getElem?_map,Option.map_eq_some_iff] at hf
        obtain ⟨g,h1,h2⟩:=hf
        exact ⟨g,by simpa using h1,h2⟩
       cases hgo
       obtain ⟨j,d2,z2,hj,hu2,_,_,hsz,_⟩:=TI.of hT hfi
       obtain ⟨us,rfl,hR⟩: ∃us,u= .agg (List.toArray us)∧R w (frz X cn) m (.list xs us) z0:=by
        generalize hz:z0=c at h1
        cases h1 with
        |agg h=>exact ⟨_,rfl,h⟩
       have hR0:=hR
       rw[←List.take_append_drop g.offset xs] at hR
       obtain ⟨c1,c2,hA,hB,hc⟩:=R.lsplit hR
       rw[List.length_take,Nat.min_eq_left hoff] at hA hB
       have e2:c2=z0:=funext fun y=>by have:=hc y;simp[z0] at this⊢;omega
       subst e2
       have hfin: ∃v,(∀w,(part g.type us.toArray g.offset).run P w= .ok v w)∧R w (frz X cn) m (.one r v) z0:=by
        unfold rd at h
        by_cases hagg:fi.isAgg=true
        ·rw[if_pos hagg] at h
         split at h
         ·rename_i hlen
          cases h
          rw[←List.take_append_drop fi.size (xs.drop g.offset)] at hB
          obtain ⟨c3,c4,hC,hD,hc2⟩:=R.lsplit hB
          have e3:c3=z0:=funext fun y=>by have:=hc2 y;simp[z0] at this⊢;omega
          subst e3
          rw[hlen] at hC
          refine ⟨.agg ((us.drop g.offset).take fi.size).toArray,fun w=> ?_,.agg hC⟩
          simp only[part,Sem.run_bind,Qid hT hfi,hagg,if_true,Result.andThen_ok,Q44 hj,Sem.run_pure]
          congr 2
          apply Array.ext'
          simp[hsz,List.take_drop]
         ·cases h
        ·rw[if_neg hagg] at h
         obtain ⟨v,d3,hv3,hR3,hle⟩:=R.one0 hB 0 r h
         refine ⟨v,fun w=> ?_,hR3.zero fun z=>by have:=hle z;simp[z0] at this;omega⟩
         have hfa:fi.isAgg=false:=by simpa using hagg
         simp only[List.getElem?_drop,Nat.add_zero] at hv3
         simp[part,Qid hT hfi,hfa,hv3]
       obtain ⟨v,hv1,hv2⟩:=hfin
       refine ⟨v,fun w _=> ?_,hv2⟩
       simp[execOp,ho,hau,Instr.field,run_underlying hu,hg,asAgg,hv1]
      ·cases h
     ·cases h
    ·cases h
   ·cases h
  ·cases h
 ·cases h
theorem Qop{fn:Fn}{first cap:Array Operand}(ho:o.op= .makeFunc fn first cap):OKp P X L st o (.clo fn (first.toList.map (val st)) (cap.toList.map (val st))):=by
 intro w m cn a hi hs
 have hargs: ∀l:List Operand,R w (frz X cn) m (.list (l.map (val st)) (l.map a.eval)) z0:=by
  intro l
  induction l with
  |nil=>exact .lnil
  |cons x l ih=>exact .lcons (Q14 hs x) ih (fun _=>rfl)
 refine ⟨.func fn (first.map a.eval) (cap.map a.eval),fun w _=>by simp[execOp,ho,Instr.makeFunc],?_⟩
 have:=R.clo (f:=fn) (hargs first.toList) (hargs cap.toList) (e:=z0) (fun _=>rfl)
 have e: ∀l:Array Operand,(l.toList.map a.eval).toArray=l.map a.eval:=fun l=>by apply Array.ext';simp
 rw[e,e] at this
 exact this
def eqF(T:Nat→Option TI):List (Nat×Nat)→List V→List V→Option Bool
 |[],[],[]=>some true
 |f::fs,x::xs,y::ys=>match T f.2 with
  |some ti=>match ti.kd,x,y with
   | .bool,.bool p,.bool q=>(match eqF T fs xs ys with|some r=>some ((p==q)&&r)|none=>none)
   | .int _,.int k p,.int k' q=>if k=k' then (match eqF T fs xs ys with|some r=>some ((p==q)&&r)|none=>none) else none
   | .str,.str p,.str q=>(match eqF T fs xs ys with|some r=>some ((p==q)&&r)|none=>none)
   |_,_,_=>none
  |none=>none
 |_,_,_=>none
theorem Q14r(hT:TOK P T){w:World}{fr:Nat→Prop}{m:Mp}{gs:List Field}:
  ∀{xs ys:List V} {us vs:List Value} {c d:Cnt},R w fr m (.list xs us) c→R w fr m (.list ys vs) d→ ∀{k:Nat},
  ((gs.zipIdx k).all fun (f, i) => f.offset == i && f.name != "_" && (match P.underlying f.type with | some .bool => true | some (.int _) => true | some .string => true | _ => false)) = true →
  ∀{us' vs':List Value},us'.drop k=us→vs'.drop k=vs→ ∀{b:Bool},eqF T (gs.map fun f=>(f.offset,f.type)) xs ys=some b→ ∀(dp:Nat) (w1:World),
  (Op.eqFields (dp+1) us'.toArray vs'.toArray gs).run P w1= .ok b w1:=by
 induction gs with
 |nil=>
  intro xs ys us vs c d _ _ k _ us' vs' _ _ b h dp w1
  cases xs<;>cases ys<;>simp[eqF] at h
  subst h
  simp[Op.eqFields]
 |cons g gs ih=>
  intro xs ys us vs c d hx hy k hp us' vs' hus hvs b h dp w1
  cases xs with
  |nil=>simp[eqF] at h
  |cons x xs=>
   cases ys with
   |nil=>simp[eqF] at h
   |cons y ys=>
    cases hx with
    |lcons hx1 hx2 hxe=>
     rename_i u us c1 c2
     cases hy with
     |lcons hy1 hy2 hye=>
      rename_i v vs d1 d2
      simp only[List.zipIdx_cons,List.all_cons,Bool.and_eq_true] at hp
      obtain ⟨⟨⟨hoff,hname⟩,_⟩,hrest⟩:=hp
      have hoff:g.offset=k:=by simpa using hoff
      have hu:us'[k]? =some u:=by
       have:=congrArg (fun l:List Value=>l[0]?) hus
       simpa using this
      have hv:vs'[k]? =some v:=by
       have:=congrArg (fun l:List Value=>l[0]?) hvs
       simpa using this
      have hn : g.name ≠ "_" := by simpa using hname
      have go: ∀{r:Bool},eqF T (gs.map fun f=>(f.offset,f.type)) xs ys=some r→(Op.eqFields (dp+1) us'.toArray vs'.toArray gs).run P w1= .ok r w1:=fun hr=>
       ih (k:=k+1) hx2 hy2 hrest (by rw[←List.drop_drop,hus];rfl) (by rw[←List.drop_drop,hvs];rfl) hr dp w1
      have fin: ∀{p r:Bool} {e:TypeDesc},P.underlying g.type=some e→(match e with| .struct _=>false| .array _ _=>false|_=>true)=true→(Op.equalIn (dp+1) g.type u v).run P w1= .ok p w1→
        eqF T (gs.map fun f=>(f.offset,f.type)) xs ys=some r→(Op.eqFields (dp+1) us'.toArray vs'.toArray (g::gs)).run P w1= .ok (p&&r) w1:=by
       intro p r e he hne h3 hr
       have h1:(part g.type us'.toArray g.offset).run P w1= .ok u w1:=by
        cases e<;>simp at hne<;>simp[part,isAgg,run_underlying he,hoff,hu]
       have h2:(part g.type vs'.toArray g.offset).run P w1= .ok v w1:=by
        cases e<;>simp at hne<;>simp[part,isAgg,run_underlying he,hoff,hv]
       simp only[Op.eqFields,if_pos hn,Sem.run_bind,h1,h2,h3,Result.andThen_ok]
       cases p with
       |true=>simpa using go hr
       |false=>simp
      simp only[List.map_cons,eqF] at h
      split at h
      ·rename_i ti ht
       obtain ⟨i,e,z,_,he,_,hd,_⟩:=TI.of hT ht
       split at h
       ·rename_i hk
        split at h
        ·rename_i r hr
         cases h;cases hx1;cases hy1
         rw[hk] at hd
         have:=Qzg hd
         subst this
         exact fin he rfl (run_equalIn_bool w1 dp g.type _ _ he) hr
        ·cases h
       ·rename_i kk k1 p k2 q hk
        split at h
        ·rename_i hkk
         subst hkk
         split at h
         ·rename_i r hr
          cases h;cases hx1;cases hy1
          rw[hk] at hd
          have:=Qye hd
          subst this
          exact fin he rfl (run_equalIn_int w1 dp g.type _ _ _ _ he) hr
         ·cases h
        ·cases h
       ·rename_i p q hk
        split at h
        ·rename_i r hr
         cases h;cases hx1;cases hy1
         rw[hk] at hd
         have:=Qci hd
         subst this
         refine fin he rfl ?_ hr
         rw[run_equalIn_string w1 dp g.type _ _ he]
         have e1: ∀l:List UInt8,(⟨l.toArray⟩:ByteArray).toList=l:=fun l=>by rw[ByteArray.toList_eq]
         rw[e1,e1]
        ·cases h
       ·cases h
      ·cases h
def Qks(T:Nat→Option TI)(t:Nat):Option (List (Nat×Nat)):=
 match T t with
 |some ti=>if ti.plain then (match ti.kd with| .struct fs=>some fs|_=>none) else none
 |none=>none
theorem Qbw(hT:TOK P T){op:BinOp}{t t':Nat}{x y:Operand}(ho:o.op= .binOp op t x y t')(hop:op= .eql∨op= .neq){fs:List (Nat×Nat)}(hfs:Qks T t=some fs)
  {xs ys:List V} (hx:val st x= .agg xs) (hy:val st y= .agg ys) {b:Bool} (h:eqF T fs xs ys=some b):OKp P X L st o (.bool (if op= .eql then b else !b)):=by
 intro w m cn a hi hs
 have h1:=Q14 hs x
 have h2:=Q14 hs y
 rw[hx] at h1
 rw[hy] at h2
 unfold Qks at hfs
 split at hfs
 ·rename_i ti ht
  split at hfs
  ·rename_i hpl
   split at hfs
   ·rename_i fs' hk
    cases hfs
    obtain ⟨i,d,z,_,hu,_,hd,_,_,_,hp⟩:=TI.of hT ht
    rw[hk] at hd
    obtain ⟨gs,rfl,rfl⟩:=Qic hd
    rw[hpl] at hp
    simp only[Qv7] at hp
    replace hp:=hp.symm
    simp only[Bool.and_eq_true,Bool.not_eq_true'] at hp
    obtain ⟨⟨hp1,hp2⟩,hp3⟩:=hp
    obtain ⟨us,hus,hRx⟩: ∃us,a.eval x= .agg (List.toArray us)∧R w (frz X cn) m (.list xs us) z0:=by
     generalize a.eval x=u at h1
     generalize hz:z0=c at h1
     cases h1 with
     |agg h=>exact ⟨_,rfl,h⟩
    obtain ⟨vs,hvs,hRy⟩: ∃vs,a.eval y= .agg (List.toArray vs)∧R w (frz X cn) m (.list ys vs) z0:=by
     generalize a.eval y=u at h2
     generalize hz:z0=c at h2
     cases h2 with
     |agg h=>exact ⟨_,rfl,h⟩
    have hf:P.fieldsOf t=gs:=by simp[Program.fieldsOf,hu]
    have hrun: ∀w',Kr X cn L w w'→(Op.equalIn 10000 t (.agg us.toArray) (.agg vs.toArray)).run P w'= .ok b w':=by
     intro w' _
     rw[run_equalIn_agg w' 9999 t us.toArray vs.toArray (by rw[hf];exact hu) hp2,hf]
     exact Q14r hT hRx hRy (k:=0) hp1 rfl rfl h 9998 w'
    rcases hop with rfl|rfl
    ·exact ⟨.bool b,fun w' hw'=>by simp[execOp,ho,hus,hvs,run_eqGuard_agg w' _ _ _ _ _ _ hp3,run_eql_struct,hrun w' hw'],.bool _⟩
    ·exact ⟨.bool (!b),fun w' hw'=>by simp[execOp,ho,hus,hvs,run_eqGuard_agg w' _ _ _ _ _ _ hp3,run_neq_struct,hrun w' hw'],.bool _⟩
   ·cases hfs
  ·cases hfs
 ·cases hfs
end
end Go.Ev
namespace Go.Ev
open Go
theorem Qyd{d:TypeDesc}{k e:Nat}(h:Kd.map k e=Qjm d):d= .map k e:=by cases d<;>simp_all[Qjm]
def Q2w:List (List UInt8×Int)→List UInt8→Option Int
 |[],_=>none
 |p::ps,s=>if p.1=s then some p.2 else Q2w ps s
theorem Q12k{a b:List UInt8}:((⟨a.toArray⟩:ByteArray)==⟨b.toArray⟩)=decide (a=b):=by
 rw[Bool.eq_iff_iff,MapKept.bytes_beq]
 simp
theorem Q9i(s:List UInt8): ∀(ens:List MapEntry) (es:List (List UInt8×Int)) (i:Nat),
  ens.map (fun e=>(e.key,e.val))=es.map (fun p=>(Value.string ⟨p.1.toArray⟩,Value.int .i64 p.2))→
  ∃r,Instr.findNow .string (.string ⟨s.toArray⟩) ens i=some r∧r.map (·.2)=(Q2w es s).map (Value.int .i64)
 |[],[],_,_=>⟨none,rfl,rfl⟩
 |[],_::_,_,h=>by simp at h
 |_::_,[],_,h=>by simp at h
 |e::ens,p::es,i,h=>by
  simp only[List.map_cons,List.cons.injEq,Prod.mk.injEq] at h
  obtain ⟨⟨h1,h2⟩,h3⟩:=h
  obtain ⟨r,hr,hq⟩:=Q9i s ens es (i+1) h3
  by_cases hp:p.1=s
  ·subst hp
   refine ⟨some (i,e.val),?_,by simp[Q2w,h2]⟩
   simp only[Instr.findNow,h1,Instr.sameNow,Q12k]
   simp
  ·refine ⟨r,?_,by simp[Q2w,hp,hq]⟩
   simp only[Instr.findNow,h1,Instr.sameNow,Q12k,decide_eq_false (Ne.symm hp),hr]
theorem Q12f{v:Value}{k:IntKind}{n:Int}(h:Qv2 v= .int k n):v= .int k n:=by
 cases v<;>simp only[Qv2] at h<;>first
  |(cases h;rfl)
  |(split at h<;>cases h)
  |cases h
theorem Qza{v:Value}{k:IntKind}{n:Int}(h:ofV v= .int k n):v= .int k n:=by
 unfold ofV at h
 split at h
 ·cases h
 ·exact Q12f h
section
variable {P:Program} {X:Ctx} {L:List Nat} {st:St} {o:Oper} {T:Nat→Option TI}
theorem Q10s(hT:TOK P T){t kt et:Nat}{x y:Operand}{ok:Bool}{ti ki ei:TI}(ho:o.op= .lookup t x y ok)(ht:T t=some ti)(hk:ti.kd= .map kt et)(hkt:T kt=some ki)(hks:ki.kd= .str)
  (het:T et=some ei) (hz:ei.zero= .int .i64 0) {es:List (List UInt8×Int)} (hx:val st x= .fmap es) {s:List UInt8} (hy:val st y= .str s):
  OKp P X L st o (if ok then .tup [.int .i64 ((Q2w es s).getD 0),.bool (Q2w es s).isSome] else .int .i64 ((Q2w es s).getD 0)):=by
 intro w m cn a hi hs
 have h1:=Q14 hs x
 have h2:=Q14 hs y
 rw[hx] at h1
 rw[hy] at h2
 obtain ⟨_,d,_,_,hu,_,hd,_⟩:=TI.of hT ht
 obtain ⟨_,d2,_,_,hu2,_,hd2,_⟩:=TI.of hT hkt
 obtain ⟨ie,d3,z3,hi3,hu3,hz3,_,_,_,hzz,_⟩:=TI.of hT het
 rw[hk] at hd
 have:=Qyd hd
 subst this
 rw[hks] at hd2
 have:=Qci hd2
 subst this
 rw[hz] at hzz
 have hzv:=Qza hzz.symm
 subst hzv
 generalize hux:a.eval x=u at h1
 generalize hvx:V.fmap es=vx at h1
 generalize hjj:J.one vx u=jj at h1
 cases h1 with
 | @fmap _ es' b ens clock hl hb he h=>
  cases hjj
  cases hvx
  obtain ⟨r,hr,hq⟩:=Q9i s ens.toList es 0 h
  refine ⟨if ok then .tuple #[.int .i64 ((Q2w es s).getD 0),.bool (Q2w es s).isSome] else .int .i64 ((Q2w es s).getD 0),?_,?_⟩
  ·intro w' hw'
   have he':w'.heap[b]? =some (.map ens clock):=by rw[hw'.2 b hl (.inl hb)];exact he
   have hrun:(Instr.lookup t (.map (some b)) (.string ⟨s.toArray⟩) ok).run P w'= .ok (if ok then .tuple #[.int .i64 ((Q2w es s).getD 0),.bool (Q2w es s).isSome] else .int .i64 ((Q2w es s).getD 0)) w':=by
    unfold Instr.lookup
    simp only[Sem.run_bind,run_underlying hu,Result.andThen_ok,MapKept.run_getObj_map he',MapKept.run_checkKey hu2 (show MapKept.IsKey .string (.string ⟨s.toArray⟩) from trivial) _ 9999,MapKept.run_findKey hu2 hr,Sem.run_pure]
    have hzr:(zeroValue et).run P w'= .ok (.int .i64 0) w':=by simp[zeroValue,typeInfo,hi3,hz3]
    cases hL:Q2w es s with
    |none=>
     rw[hL] at hq
     cases r with
     |none=>simp[hzr]
     |some p=>simp at hq
    |some v=>
     rw[hL] at hq
     cases r with
     |none=>simp at hq
     |some p=>simp at hq;simp[hq]
   simp[execOp,ho,hux,R.inv_str h2,hrun]
  ·cases ok
   ·exact .int _ _
   ·exact .tup (.lcons (.int _ _) (.lcons (.bool _) .lnil (fun _=>rfl)) (fun _=>rfl))
 |_=>cases hjj<;>cases hvx
def Qht:List V→Option (List UInt8)
 |[]=>some []
 | .int .u8 n::xs=>match Qht xs with|some l=>some (UInt8.ofNat n.toNat::l)|none=>none
 |_=>none
theorem Qxi{w:World}{fr:Nat→Prop}{m:Mp}: ∀{xs:List V} {us:List Value} {c:Cnt} {l:List UInt8},R w fr m (.list xs us) c→Qht xs=some l→
  ∃ns:List Int,us=ns.map (Value.int .u8)∧l=ns.map fun n=>UInt8.ofNat n.toNat
 |[],us,c,l,h,hl=>by
  cases h;cases hl;exact ⟨[],rfl,rfl⟩
 |x::xs,us,c,l,h,hl=>by
  cases h with
  |lcons h1 h2 he=>
   unfold Qht at hl
   split at hl
   ·rename_i heq;cases heq
   ·rename_i n xs' heq
    cases heq
    split at hl
    ·rename_i l' hl'
     cases hl
     obtain ⟨ns,h3,h4⟩:=Qxi h2 hl'
     have:=R.inv_int h1
     subst this
     exact ⟨n::ns,by simp[h3],by simp[h4]⟩
    ·cases hl
   ·cases hl
theorem Qyi(ns:List Int): ∀(r:ByteArray),ns.foldl (fun r n=>r.push (UInt8.ofNat n.toNat)) r=⟨(r.data.toList++ns.map fun n=>UInt8.ofNat n.toNat).toArray⟩:=by
 induction ns with
 |nil=>intro r;simp
 |cons n ns ih=>intro r;rw[List.foldl_cons,ih];simp[ByteArray.push]
theorem Qu7: ∀{xs:List V} {l:List UInt8},Qht xs=some l→Q1y xs=xs
 |[],_,_=>rfl
 |x::xs,l,h=>by
  unfold Qht at h
  split at h
  ·rename_i heq;cases heq
  ·rename_i heq
   cases heq
   split at h
   ·rename_i hl'
    rw[flat_cons,Qu7 hl'];rfl
   ·cases h
  ·cases h
theorem Q11w{w:World}{m:Mp}{cn:Nat→Cnt}{ob:List Ob}(hi:Inv X w ob m cn){y:V}{u:Value}(hR:R w (frz X cn) m (.one y u) z0){k:Nat}{ys:List V}(h:Qcu ob y=some (k,ys))
  {b off n c:Nat} (hu:u= .slice (some ⟨b,off,none⟩) n c) (hn0:0<n):frz X cn b∨ ∃id o n,y= .arr id o n∧0<cn id b:=by
 cases y with
 |lst ow k' xs=>
  rcases R.inv_lst hR with ⟨_,ad,hu'⟩|⟨b',off',cap,hu',_,_,hfr,_⟩
  ·rw[hu] at hu';cases hu';omega
  ·rw[hu] at hu';cases hu';exact .inl hfr
 |arr id o n'=>
  rcases R.inv_arr hR with ⟨_,ad,hu'⟩|⟨b',k',off',cap,cur,e',hu',_,hm,_⟩
  ·rw[hu] at hu';cases hu';omega
  ·rw[hu] at hu'
   cases hu'
   simp only[Qcu] at h
   split at h
   ·rename_i k2 xs hid
    obtain ⟨_,_,_,c,_,_,_,_,hc⟩:=hi.object hid hm
    exact .inr ⟨id,o,_,rfl,by rw[hc];simp⟩
   ·cases h
 |_=>simp[Qcu] at h
theorem Qwk(hT:TOK P T){s t e:Nat}{x:Operand}{si ei ti:TI}(ho:o.op= .convert s t x)(hs:T s=some si)(hk:si.kd= .slice e)(he:T e=some ei)(hke:ei.kd= .int .u8)
  (ht:T t=some ti) (hkt:ti.kd= .str) {ys:List V} (hy:Qcu st.ob (val st x)=some (1,ys)) {l:List UInt8} (hl:Qht ys=some l) (hL: ∀id o n,val st x= .arr id o n→id∈L):OKp P X L st o (.str l):=by
 intro w m cn a hi hsl
 obtain ⟨_,d,_,_,hu,_,hd,_⟩:=TI.of hT hs
 obtain ⟨_,d2,_,_,hu2,_,hd2,_⟩:=TI.of hT he
 obtain ⟨_,d3,_,_,hu3,_,hd3,_⟩:=TI.of hT ht
 rw[hk] at hd
 have:=Q6g hd
 subst this
 rw[hke] at hd2
 have:=Qye hd2
 subst this
 rw[hkt] at hd3
 have:=Qci hd3
 subst this
 refine ⟨.string ⟨l.toArray⟩,?_,.str _⟩
 rcases Qz1 hi (Q14 hsl x) hy with ⟨⟨ad,hux⟩,rfl⟩|⟨b,off,c,us,hux,hnl,hnr,hnR,hn1,hyu⟩
 ·intro w' _
  cases hl
  cases ad with
  |none=>
   simp[execOp,ho,hux,run_convert_bytes_string w' s t e none 0 0 hu hu2 hu3,Conv.bytesToString]
   rfl
  |some ad=>
   have:=run_bytesToString (P:=P) w' ad 0 0 [] (by simp[loadCells,loadCellsFrom])
   simp[execOp,ho,hux,run_convert_bytes_string w' s t e _ _ _ hu hu2 hu3,this]
   rfl
 ·intro w' hw'
  rw[Qu7 hl] at hnR
  obtain ⟨ns,rfl,rfl⟩:=Qxi hnR hl
  have hlen:(ns.map (Value.int .u8)).length=ys.length:=by omega
  have hld:=Qc0 P b off (ns.map (Value.int .u8)) 0 #[] (w:=w') (fun j u hu=>hw'.cell ((Q11w hi (Q14 hsl x) hy hux (by have:=(List.getElem?_eq_some_iff.1 hu).1;omega)).imp (fun h=>h) (fun ⟨id,o,n,he,hc⟩=>⟨id,hL id o n he,hc⟩)) (by simpa using hnr j u hu))
  rw[hlen] at hld
  have:=run_bytesToString (P:=P) w' ⟨b,off,none⟩ ys.length c ns (by simpa[loadCells] using hld)
  simp[execOp,ho,hux,run_convert_bytes_string w' s t e _ _ _ hu hu2 hu3,this,Qyi]
def opY(T:Nat→Option TI)(st:St):Op→Option V
 | .lookup t x y ok=>match T t with
  |some ti=>match ti.kd with
   | .map kt et=>match T kt,T et with
    |some ki,some ei=>match ki.kd,ei.zero,val st x,val st y with
     | .str,.int .i64 0,.fmap es,.str s=>some (if ok then .tup [.int .i64 ((Q2w es s).getD 0),.bool (Q2w es s).isSome] else .int .i64 ((Q2w es s).getD 0))
     |_,_,_,_=>none
    |_,_=>none
   |_=>none
  |none=>none
 | .convert s t x=>match T s,T t with
  |some si,some ti=>match si.kd,ti.kd with
   | .slice e,.str=>match T e with
    |some ei=>match ei.kd,Qcu st.ob (val st x) with
     | .int .u8,some (1,ys)=>match Qht ys with
      |some l=>some (.str l)
      |none=>none
     |_,_=>none
    |none=>none
   |_,_=>none
  |_,_=>none
 |_=>none
def rdB(st:St)(L:List Nat):Op→Bool
 | .load _ p=>match val st p with| .ptr id _ _=>L.contains id|_=>true
 | .convert _ _ x=>match val st x with| .arr id _ _=>L.contains id|_=>true
 |_=>true
theorem Q126(hT:TOK P T){x:V}(h:opY T st o.op=some x)(hL:rdB st L o.op=true):OKp P X L st o x:=by
 cases ho:o.op<;>rw[ho] at h<;>simp only[opY] at h<;>try (cases h;done)
 case lookup=>
  split at h
  ·rename_i ti ht
   split at h
   ·rename_i kt et hk
    split at h
    ·rename_i ki ei hki hei
     split at h
     ·rename_i h1 h2 h3 h4;cases h;exact Q10s hT ho ht hk hki h1 hei h2 h3 h4
     ·cases h
    ·cases h
   ·cases h
  ·cases h
 case convert=>
  split at h
  ·rename_i si ti hs ht
   split at h
   ·rename_i e h1 h2
    split at h
    ·rename_i ei he
     split at h
     ·rename_i h3 h4
      split at h
      ·rename_i h5;cases h;exact Qwk hT ho hs h1 he h3 ht h2 h4 h5 (fun id o n he=>by rw[ho] at hL;simp only[rdB,he] at hL;simpa using hL)
      ·cases h
     ·cases h
    ·cases h
   ·cases h
  ·cases h
end
end Go.Ev
namespace Go.Ev
open Go
def sl3(st:St)(n:Nat)(lo hi mx:Option Operand):Option (Nat×Nat):=
 match bnd st lo,bnd st hi,bnd st mx with
 |some l,some h,some q=>if q.getD n≤n∧h.getD n≤q.getD n∧l.getD 0≤h.getD n∧(q.isSome=true→h.isSome=true) then some (l.getD 0,h.getD n) else none
 |_,_,_=>none
def Qq5(T:Nat→Option TI)(st:St)(t:Nat)(x:V)(lo hi mx:Option Operand):Option V:=
 match T t with
 |some ti=>match ti.kd with
  | .str=>match x,mx with
   | .str p,none=>match sl3 st p.length lo hi none with
    |some (l,h)=>some (.str ((p.take h).drop l))
    |none=>none
   |_,_=>none
  | .slice e=>match T e with
   |some ei=>match x with
    | .lst _ k xs=>if k=ei.size then (match sl3 st xs.length lo hi mx with
     |some (l,h)=>some (.lst false k ((xs.take h).drop l))
     |none=>none) else none
    | .arr id off n=>match st.ob[id]? with
     |some (some (k,_))=>if k=ei.size then (match sl3 st n lo hi mx with
      |some (l,h)=>some (.arr id (off+l) (h-l))
      |none=>none) else none
     |_=>none
    |_=>none
   |none=>none
  |_=>none
 |none=>none
def Quz(T:Nat→Option TI)(n0:Nat)(st:St)(c:Call):Option (V×St):=
 match c.callee,c.args.toList,c.argTypes.toList with
 | .builtin .len,[x],[t]=>match T t with
  |some ti=>match ti.kd,val st x with
   | .str,.str l=>some (.int .i64 l.length,st)
   | .slice _,.lst _ _ xs=>some (.int .i64 xs.length,st)
   | .slice _,.arr _ _ n=>some (.int .i64 n,st)
   | .slice _,.raw (.slice none 0 0)=>some (.int .i64 0,st)
   |_,_=>none
  |none=>none
 | .builtin .append,[s,x],[t,t']=>if t=t' then (match T t with
  |some ti=>match ti.kd with
   | .slice e=>match T e with
    |some ei=>match Qcu st.ob (val st x) with
     |some (k,ys)=>if k=ei.size∧ei.zero.cells.length=ei.size then (match val st s with
      | .arr id 0 n=>match st.ob[id]? with
       |some (some (k,xs))=>if k=ei.size∧n0≤id∧n≤xs.length∧(n+ys.length)*ei.bytes≤140737488355328∧n+ys.length≤1099511627776 then
         some (.arr id 0 (n+ys.length),⟨jkL (· ==id) st.tm,(st.ob.map (jkO (· ==id))).set id (some (k,jkL (· ==id) (xs.take n++ys)))⟩) else none
       |_=>none
      | .raw (.slice none 0 0)=>if ys.length*ei.bytes≤140737488355328∧ys.length≤1099511627776 then
         some (.arr st.ob.length 0 ys.length,⟨jkL (· ==st.ob.length) st.tm,((st.ob++[some (ei.size,[])]).map (jkO (· ==st.ob.length))).set st.ob.length (some (ei.size,jkL (· ==st.ob.length) ys))⟩) else none
      |_=>none) else none
     |none=>none
    |none=>none
   |_=>none
  |none=>none) else none
 |_,_,_=>none
def opEq(T:Nat→Option TI)(op:BinOp)(t:Nat)(x y:V):Option V:=
 match op,x,y with
 | .eql,.agg xs,.agg ys=>match Qks T t with
  |some fs=>match eqF T fs xs ys with
   |some b=>some (.bool b)
   |none=>none
  |none=>none
 | .neq,.agg xs,.agg ys=>match Qks T t with
  |some fs=>match eqF T fs xs ys with
   |some b=>some (.bool (!b))
   |none=>none
  |none=>none
 |_,_,_=>none
def opX(T:Nat→Option TI)(n0:Nat)(st:St):Op→Option (V×St)
 | .binOp op t x y _=>match opEq T op t (val st x) (val st y) with|some r=>some (r,st)|none=>none
 | .field t x f=>match Qq7 T t f (val st x) with|some r=>some (r,st)|none=>none
 | .slice t x lo hi mx=>match Qq5 T st t (val st x) lo hi mx with|some r=>some (r,st)|none=>none
 | .makeFunc fn first cap=>some (.clo fn (first.toList.map (val st)) (cap.toList.map (val st)),st)
 | .build t parts=>match T t with
  |some ti=>match ti.kd with
   | .struct fs=>if (fs.all fun p=>(T p.2).isSome)=true∧Q2q ti.zero.cells=true then (match bld T st fs ti.zero.cells parts.toList with
    |some rs=>some (.agg rs,st)
    |none=>none) else none
   |_=>none
  |none=>none
 | .buildSlice t len parts=>match T t with
  |some ti=>match ti.kd with
   | .slice e=>match T e with
    |some ei=>match Qy8 st 0 parts.toList with
     |some xs=>if xs.length=len∧Q2q (Q1y xs)=true∧(xs.all fun x=>x.cells.length==ei.size)=true∧len*ei.size≤16777216∧ei.zero.cells.length=ei.size then
       some (.arr st.ob.length 0 len,⟨st.tm,st.ob++[some (ei.size,xs)]⟩) else none
     |none=>none
    |none=>none
   |_=>none
  |none=>none
 | .makeSlice t x y=>match T t with
  |some ti=>match ti.kd with
   | .slice e=>match T e with
    |some ei=>match val st x,val st y with
     | .int _ n,.int _ c=>if 0≤n∧n≤c∧(ei.bytes:Int)*c≤281474976710656∧c≤9223372036854775807∧Q2q ei.zero.cells=true∧ei.zero.cells.length=ei.size∧0<ei.size then
       some (.arr st.ob.length 0 n.toNat,⟨st.tm,st.ob++[some (ei.size,List.replicate n.toNat ei.zero)]⟩) else none
     |_,_=>none
    |none=>none
   |_=>none
  |none=>none
 | .call c=>Quz T n0 st c
 |_=>none
def opB(T:Nat→Option TI)(n0:Nat)(st:St)(op:Op):Option (V×St):=
 match opX T n0 st op with
 |some r=>some r
 |none=>match opY T st op with
  |some x=>some (x,st)
  |none=>opA T st op
def allL(op:Op)(st:St):List Nat:=match op with
 | .load _ p=>match val st p with| .ptr id _ _=>[id]|_=>[]
 | .convert _ _ x=>match val st x with| .arr id _ _=>[id]|_=>[]
 |_=>[]
theorem Quv(op:Op)(st:St):rdB st (allL op st) op=true:=by
 unfold rdB allL
 split<;>simp only
 ·split<;>simp_all
 ·split<;>simp_all
section
variable {P:Program} {X:Ctx} {st:St} {o:Oper} {T:Nat→Option TI}
theorem Qmp{n:Nat}{lo hi mx:Option Operand}{l h:Nat}(hs:sl3 st n lo hi mx=some (l,h)):
  ∃l' h' q',bnd st lo=some l'∧bnd st hi=some h'∧bnd st mx=some q'∧q'.getD n≤n∧h'.getD n≤q'.getD n∧l'.getD 0≤h'.getD n∧(q'.isSome=true→h'.isSome=true)∧l=l'.getD 0∧h=h'.getD n:=by
 unfold sl3 at hs
 split at hs
 ·rename_i l' h' q' h1 h2 h3
  split at hs
  ·rename_i hc
   cases hs
   exact ⟨_,_,_,h1,h2,h3,hc.1,hc.2.1,hc.2.2.1,hc.2.2.2,rfl,rfl⟩
  ·cases hs
 ·cases hs
theorem Q169(hT:TOK P T){n0:Nat}(hX:X.n0=n0){x:V}{st':St}(h:opX T n0 st o.op=some (x,st')):OKo P X st o x st':=by
 cases ho:o.op<;>rw[ho] at h<;>simp only[opX] at h<;>try (cases h;done)
 case binOp op t p q t'=>
  split at h
  ·rename_i r hr
   cases h
   unfold opEq at hr
   split at hr
   ·rename_i hx hy
    split at hr
    ·rename_i fs hfs
     split at hr
     ·rename_i b hb;cases hr;exact (Qbw hT ho (.inl rfl) hfs hx hy hb).ok
     ·cases hr
    ·cases hr
   ·rename_i hx hy
    split at hr
    ·rename_i fs hfs
     split at hr
     ·rename_i b hb;cases hr;exact (Qbw hT ho (.inr rfl) hfs hx hy hb).ok
     ·cases hr
    ·cases hr
   ·cases hr
  ·cases h
 case field=>
  split at h
  ·rename_i r hr;cases h;exact (Qwi hT ho hr).ok
  ·cases h
 case makeFunc=>cases h;exact (Qop ho).ok
 case slice t p lo hi mx=>
  split at h
  ·rename_i r hr
   cases h
   unfold Qq5 at hr
   split at hr
   ·rename_i ti ht
    split at hr
    ·rename_i hk
     split at hr
     ·rename_i hx
      split at hr
      ·rename_i l hh hs
       cases hr
       obtain ⟨l',h',q',h1,h2,h3,h4,h5,h6,h7,rfl,rfl⟩:=Qmp hs
       have:q'=none:=by simp[bnd] at h3;exact h3.symm
       subst this
       exact (Qtm hT ho ht hk hx h1 h2 (by simpa using h5) h6).ok
      ·cases hr
     ·cases hr
    ·rename_i e hk
     split at hr
     ·rename_i ei he
      split at hr
      ·rename_i ow k xs hx
       split at hr
       ·rename_i hsz
        subst hsz
        split at hr
        ·rename_i l hh hs
         cases hr
         obtain ⟨l',h',q',h1,h2,h3,h4,h5,h6,h7,rfl,rfl⟩:=Qmp hs
         exact (Qtn hT ho ht hk he hx h1 h2 h3 h4 h5 h6 h7).ok
        ·cases hr
       ·cases hr
      ·rename_i id off n hx
       split at hr
       ·rename_i k xs hid
        split at hr
        ·rename_i hsz
         subst hsz
         split at hr
         ·rename_i l hh hs
          cases hr
          obtain ⟨l',h',q',h1,h2,h3,h4,h5,h6,h7,rfl,rfl⟩:=Qmp hs
          exact (Qto hT ho ht hk he hx hid h1 h2 h3 h4 h5 h6 h7).ok
         ·cases hr
        ·cases hr
       ·cases hr
      ·cases hr
     ·cases hr
    ·cases hr
   ·cases hr
  ·cases h
 case build=>
  split at h
  ·rename_i ti ht
   split at h
   ·rename_i fs hk
    split at h
    ·rename_i hc
     split at h
     ·rename_i rs hb;cases h;exact (Qwl hT ho ht hk hc.1 hb hc.2).ok
     ·cases h
    ·cases h
   ·cases h
  ·cases h
 case buildSlice=>
  split at h
  ·rename_i ti ht
   split at h
   ·rename_i e hk
    split at h
    ·rename_i ei he
     split at h
     ·rename_i xs hx
      split at h
      ·rename_i hc;cases h;exact Qsu hT ho ht hk he hx hc.1 hc.2.1 hc.2.2.1 hc.2.2.2.1 hc.2.2.2.2
      ·cases h
     ·cases h
    ·cases h
   ·cases h
  ·cases h
 case makeSlice=>
  split at h
  ·rename_i ti ht
   split at h
   ·rename_i e hk
    split at h
    ·rename_i ei he
     split at h
     ·rename_i hx hy
      split at h
      ·rename_i hc
       obtain ⟨c1,c2,c3,c4,c5,c6,c7⟩:=hc
       cases h;exact Qv1 hT ho ht hk he hx hy c1 c2 c3 c4 c5 c6 c7
      ·cases h
     ·cases h
    ·cases h
   ·cases h
  ·cases h
 case call c=>
  unfold Quz at h
  split at h
  ·rename_i p t hcal hargs htys
   have hc:c={callee:= .builtin .len,args:= #[p],argTypes:= #[t]}:=by
    obtain ⟨a,b,d⟩:=c
    simp only at hcal hargs htys
    subst hcal
    rw[show b= #[p] from Array.ext' hargs,show d= #[t] from Array.ext' htys]
   rw[hc] at ho
   split at h
   ·rename_i ti ht
    split at h
    ·rename_i hk hx;cases h;exact (Qgg hT ho ht Zaz Zaf).ok
    ·rename_i hk hx;cases h;exact (Qgg hT ho ht Zaz Zaf).ok
    ·rename_i hk hx;cases h;exact (Qgg hT ho ht Zaz Zaf).ok
    ·rename_i hk hx;cases h;exact (Qgg (n:=0) hT ho ht Zaz Zaf).ok
    ·cases h
   ·cases h
  ·rename_i s p t t' hcal hargs htys
   split at h
   ·rename_i htt
    subst htt
    have hc:c={callee:= .builtin .append,args:= #[s,p],argTypes:= #[t,t]}:=by
     obtain ⟨a,b,d⟩:=c
     simp only at hcal hargs htys
     subst hcal
     rw[show b= #[s,p] from Array.ext' hargs,show d= #[t,t] from Array.ext' htys]
    rw[hc] at ho
    split at h
    ·rename_i ti ht
     split at h
     ·rename_i e hk
      split at h
      ·rename_i ei he
       split at h
       ·rename_i k ys hy
        split at h
        ·rename_i hkk
         obtain ⟨rfl,hz⟩:=hkk
         split at h
         ·rename_i id n hs0
          split at h
          ·rename_i k xs hid
           split at h
           ·rename_i hc2
            obtain ⟨rfl,c1,c2,c3,c4⟩:=hc2
            cases h
            exact Qwn hT ho ht hk he hz hs0 (by rw[hX];exact c1) hid c2 hy c3 c4
           ·cases h
          ·cases h
         ·rename_i hs0
          split at h
          ·rename_i hc2
           cases h
           exact Qy3 hT ho ht hk he hz hs0 hy hc2.1 hc2.2
          ·cases h
         ·cases h
        ·cases h
       ·cases h
      ·cases h
     ·cases h
    ·cases h
   ·cases h
  ·cases h
theorem Qqw(hT:TOK P T){n0:Nat}(hX:X.n0=n0){x:V}{st':St}(h:opB T n0 st o.op=some (x,st')):OKo P X st o x st':=by
 unfold opB at h
 split at h
 ·rename_i r hr;cases h;exact Q169 hT hX hr
 ·split at h
  ·rename_i hr;cases h;exact (Q126 (L:=allL o.op st) hT hr (Quv o.op st)).okL
  ·exact Q16a hT h
end
end Go.Ev
namespace Go.Ev
open Go
def Qgc(T:Nat→Option TI)(n0:Nat)(ops:Array Oper):List Oper→St→Option St
 |[],st=>some st
 |o::rest,st=>match gd ops st o.guard with
  |some true=>match opB T n0 st o.op with
   |some (x,st')=>Qgc T n0 ops rest ⟨Q2l o.dst x st'.tm,st'.ob⟩
   |none=>none
  |some false=>Qgc T n0 ops rest ⟨Q2l o.dst (.tup []) st.tm,st.ob⟩
  |none=>none
def Q8(P:Program)(X:Ctx)(ops:Array Oper)(l:List Oper)(st st':St):Prop:=
 ∀(rest:List Oper) (Q:Exit→St→Prop),WL P X ops rest st' Q→WL P X ops (l++rest) st Q
def Le(X:Ctx)(s s':St):Prop:=
 ∀w m cn a,Inv X w s.ob m cn→Sl X w m cn s.tm a→ ∃m' cn',Inv X w s'.ob m' cn'∧Sl X w m' cn' s'.tm a
def memN:Nat→List Nat→Bool
 |_,[]=>false
 |n,k::ks=>if n=k then true else memN n ks
def Qc1:Nat→List Nat→List V→List V
 |_,_,[]=>[]
 |n,ks,x::xs=>(if memN n ks=true then x else .junk)::Qc1 (n+1) ks xs
def St.keep(ks:List Nat)(s:St):St:=⟨Qc1 0 ks s.tm,s.ob⟩
def St.mrg(b:Bool)(s1 s0:St):St:=⟨List.zipWith (fun x y=>bif b then x else y) s1.tm s0.tm,s1.ob⟩
@[simp] theorem cond_vbool (b x y:Bool):(bif b then V.bool x else V.bool y)=V.bool (bif b then x else y):=by cases b<;>rfl
@[simp] theorem cond_vint (b:Bool) (k:IntKind) (x y:Int):(bif b then V.int k x else V.int k y)=V.int k (bif b then x else y):=by cases b<;>rfl
@[simp] theorem cond_vstr (b:Bool) (x y:List UInt8):(bif b then V.str x else V.str y)=V.str (bif b then x else y):=by cases b<;>rfl
@[simp] theorem cond_vlst (b:Bool) (o:Bool) (k:Nat) (x y:List V):(bif b then V.lst o k x else V.lst o k y)=V.lst o k (bif b then x else y):=by cases b<;>rfl
@[simp] theorem cond_vagg (b:Bool) (x y:V) (xs ys:List V) (h:xs.length=ys.length):(bif b then V.agg (x::xs) else V.agg (y::ys))=V.agg (List.zipWith (fun x y=>bif b then x else y) (x::xs) (y::ys)):=by
 cases b
 ·simp only[cond_false]
  congr 1
  have: ∀(l1 l2:List V),l1.length=l2.length→l2=List.zipWith (fun x y=>y) l1 l2:=by
   intro l1
   induction l1 with
   |nil=>intro l2 h;cases l2<;>simp_all
   |cons a l1 ih=>intro l2 h;cases l2 with
    |nil=>simp at h
    |cons c l2=>simp only[List.zipWith_cons_cons];rw[←ih l2 Z49]
  exact this _ _ (by simp[h])
 ·simp only[cond_true]
  congr 1
  have: ∀(l1 l2:List V),l1.length=l2.length→l1=List.zipWith (fun x y=>x) l1 l2:=by
   intro l1
   induction l1 with
   |nil=>intro l2 h;simp
   |cons a l1 ih=>intro l2 h;cases l2 with
    |nil=>simp at h
    |cons c l2=>simp only[List.zipWith_cons_cons];rw[←ih l2 Z49]
  exact this _ _ (by simp[h])
section
variable {P:Program} {X:Ctx} {T:Nat→Option TI} {ops:Array Oper} {l:List Oper} {st s1 s2:St} {Q:Exit→St→Prop}
theorem Q8.run(hT:TOK P T){n0:Nat}(hX:X.n0=n0): ∀{l:List Oper} {st st':St},Qgc T n0 ops l st=some st'→Q8 P X ops l st st'
 |[],st,st',h=>by simp only[Qgc] at h;cases h;exact fun rest Q hk=>hk
 |o::l,st,st',h=>by
  simp only[Qgc] at h
  split at h
  ·rename_i hg
   split at h
   ·rename_i x st2 hx
    exact fun rest Q hk=>Q102 (Qqw hT hX hx) hg (Q8.run hT hX h rest Q hk)
   ·cases h
  ·rename_i hg
   exact fun rest Q hk=>Q101 hg (Q8.run hT hX h rest Q hk)
  ·cases h
theorem Q8.nil:Q8 P X ops [] st st:=fun _ _ hk=>hk
theorem Q8.trans(k:Nat)(h1:Q8 P X ops (l.take k) st s1)(h2:Q8 P X ops (l.drop k) s1 s2):Q8 P X ops l st s2:=by
 intro rest Q hk
 have:=h1 (l.drop k++rest) Q (h2 rest Q hk)
 rwa [←List.append_assoc,List.take_append_drop] at this
theorem Q8.step(k:Nat)(hT:TOK P T){n0:Nat}(hX:X.n0=n0)(h1:Qgc T n0 ops (l.take k) st=some s1)(h2:Q8 P X ops (l.drop k) s1 s2):Q8 P X ops l st s2:=
 Q8.trans k (Q8.run hT hX h1) h2
theorem Qb{id:Nat}(h:Q8 P X ops ops.toList st s1)(hq:Q .normal s1):W P X (.region id ops false) st Q:=by
 refine Qsm ?_
 have:=h [] Q (Q8w hq)
 rwa [List.append_nil] at this
theorem Q171{id:Nat}{y:Code}(h:Q8 P X ops ops.toList st s1)(hk:W P X y s1 Q):W P X (.seq (.region id ops false) y) st Q:=
 Q4 (Qb h hk)
theorem Q15{c:Code}(h:Le X st s1)(hk:W P X c s1 Q):W P X c st Q:=by
 intro w m cn a hi hs hd
 obtain ⟨m',cn',hi',hs'⟩:=h w m cn a hi hs
 exact hk w m' cn' a hi' hs' hd
theorem Q13q(h:Le X st s1)(hk:WL P X ops l s1 Q):WL P X ops l st Q:=by
 intro w m cn a hi hs hd
 obtain ⟨m',cn',hi',hs'⟩:=h w m cn a hi hs
 exact hk w m' cn' a hi' hs' hd
theorem Q8.le(h:Le X st s1)(hk:Q8 P X ops l s1 s2):Q8 P X ops l st s2:=fun rest Q hq=>Q13q h (hk rest Q hq)
theorem Le.refl:Le X st st:=fun _ m cn _ hi hs=>⟨m,cn,hi,hs⟩
theorem Le.of_eq(h:st=s1):Le X st s1:=h▸Le.refl
theorem Le.trans{s3:St}(h1:Le X st s1)(h2:Le X s1 s3):Le X st s3:=fun w m cn a hi hs=>
 let ⟨m',cn',hi',hs'⟩:=h1 w m cn a hi hs
 h2 w m' cn' a hi' hs'
theorem Qqc{w:World}{fr:Nat→Prop}{m:Mp}: ∀(xs:List V) (n:Nat) (ks:List Nat) (us:List Value),R w fr m (.list xs us) z0→R w fr m (.list (Qc1 n ks xs) us) z0
 |[],n,ks,us,h=>by simpa[Qc1] using h
 |x::xs,n,ks,us,h=>by
  generalize hz:z0=c at h
  cases h with
  |lcons h1 h2 he=>
   rename_i u us c1 c2
   have e1:c1=z0:=funext fun y=>by have:=he y;rw[←hz] at this;simp[z0] at this⊢;omega
   have e2:c2=z0:=funext fun y=>by have:=he y;rw[←hz] at this;simp[z0] at this⊢;omega
   subst e1;subst e2
   unfold Qc1
   split
   ·exact .lcons h1 (Qqc xs (n+1) ks us h2) (fun _=>by rw[←hz];simp[z0])
   ·exact .lcons .junk (Qqc xs (n+1) ks us h2) (fun _=>by rw[←hz];simp[z0])
theorem Le.keep(ks:List Nat)(s:St):Le X s (s.keep ks):=fun _ m cn _ hi hs=>⟨m,cn,hi,Qqc _ 0 ks _ hs⟩
theorem Q11m(f:V→V→V)(h: ∀x y,f x y=x): ∀(l1 l2:List V),l1.length=l2.length→List.zipWith f l1 l2=l1:=by
 intro l1
 induction l1 with
 |nil=>intro l2 h;simp
 |cons a l1 ih=>intro l2 hl;cases l2 with
  |nil=>simp at hl
  |cons c l2=>simp only[List.zipWith_cons_cons,h];rw[ih l2 Zbh]
theorem Q109(f:V→V→V)(h: ∀x y,f x y=y): ∀(l1 l2:List V),l1.length=l2.length→List.zipWith f l1 l2=l2:=by
 intro l1
 induction l1 with
 |nil=>intro l2 h;cases l2<;>simp_all
 |cons a l1 ih=>intro l2 hl;cases l2 with
  |nil=>simp at hl
  |cons c l2=>simp only[List.zipWith_cons_cons,h];rw[ih l2 Zbh]
theorem Qwx{s1 s0:St}(h:s1.tm.length=s0.tm.length):St.mrg true s1 s0=s1:=by
 obtain ⟨t1,o1⟩:=s1
 simp only[St.mrg,cond_true]
 congr 1
 exact Q11m _ (fun _ _=>rfl) _ _ h
theorem Qts{s1 s0:St}(h:s1.tm.length=s0.tm.length)(ho:s1.ob=s0.ob):St.mrg false s1 s0=s0:=by
 obtain ⟨t1,o1⟩:=s1
 obtain ⟨t2,o2⟩:=s0
 simp only at h ho
 subst ho
 simp only[St.mrg,cond_false]
 congr 1
 exact Q109 _ (fun _ _=>rfl) _ _ h
theorem Qcv{tm:List V}{d:Nat}{x:V}(h:tm[d]? =some x):tm.set d x=tm:=by
 apply List.ext_getElem?
 intro i
 rw[List.getElem?_set]
 split
 ·rename_i hi
  subst hi
  have:=(List.getElem?_eq_some_iff.1 h).1
  rw[if_pos this,h]
 ·rfl
theorem Q8.mrg(k d:Nat){b:Bool}{s0:St}(hd:st.tm[d]? =some (.bool b))
  (h1:b=true→Q8 P X ops (l.take k) ⟨st.tm.set d (.bool true),st.ob⟩ s1) (h0:b=false→Q8 P X ops (l.take k) ⟨st.tm.set d (.bool false),st.ob⟩ s0)
  (hl:s1.tm.length=s0.tm.length) (ho:s1.ob=s0.ob) (hk:Q8 P X ops (l.drop k) (St.mrg b s1 s0) s2):Q8 P X ops l st s2:=by
 refine Q8.trans k ?_ hk
 have hset: ∀c:Bool,b=c→(⟨st.tm.set d (.bool c),st.ob⟩:St)=st:=fun c hc=>by
  subst hc
  rw[Qcv hd]
 cases b with
 |true=>rw[Qwx hl];have:=h1 rfl;rw[hset true rfl] at this;exact this
 |false=>rw[Qts hl ho];have:=h0 rfl;rw[hset false rfl] at this;exact this
theorem Q15a{α:Type}{c:Code}(f:α→St)(I:α→Prop)(μ:α→Nat)(a0:α)(h0:Le X st (f a0))(hI:I a0)
  (round: ∀a,I a→W P X c (f a) (Qg9 (fun s'=> ∃a',Le X s' (f a')∧I a'∧μ a'<μ a) Q)):W P X (.loop c) st Q:=by
 refine Q15 h0 ?_
 intro w m cn a hi hs hd
 intro b k cs
 have key: ∀n x,μ x=n→I x→ ∀w m cn a,Inv X w (f x).ob m cn→Sl X w m cn (f x).tm a→a.defers=[]→
   ∃e a' w',post X Q e a' w'∧Arrives P (lone (b.at a (.code c:: .inLoop c::k)) cs w) b k cs e a' w':=by
  intro n
  induction n using Nat.strongRecOn with
  |_ n ih=>
   intro x hn hI w m cn a hi hs hd
   obtain ⟨e,a₁,w₁,⟨s₁,m₁,cn₁,hq,hi₁,hs₁,hd₁⟩,harr⟩:=round x hI w m cn a hi hs hd b (.inLoop c::k) cs
   cases e with
   |normal=>
    obtain ⟨x',hle,hI₁,hlt⟩:=hq
    obtain ⟨m₂,cn₂,hi₂,hs₂⟩:=hle _ _ _ _ hi₁ hs₁
    obtain ⟨e₂,a₂,w₂,hq₂,harr₂⟩:=ih (μ x') (hn▸hlt) x' rfl hI₁ w₁ m₂ cn₂ a₁ hi₂ hs₂ hd₁
    exact ⟨e₂,a₂,w₂,hq₂,.of_steps (Steps.trans harr (.one step_inLoop)) harr₂⟩
   |exit id=>exact ⟨_,a₁,w₁,⟨s₁,m₁,cn₁,hq,hi₁,hs₁,hd₁⟩,.pass (x:= .inLoop c) rfl (fun _ _=> .inl Z3) harr⟩
   |goto l=>exact ⟨_,a₁,w₁,⟨s₁,m₁,cn₁,hq,hi₁,hs₁,hd₁⟩,.pass (x:= .inLoop c) rfl (fun _ _=> .inl Z3) harr⟩
   |ret=>exact ⟨_,a₁,w₁,⟨s₁,m₁,cn₁,hq,hi₁,hs₁,hd₁⟩,.pass (x:= .inLoop c) rfl (fun _ _=> .inl Z3) harr⟩
   |panic ch=>exact ⟨_,a₁,w₁,⟨s₁,m₁,cn₁,hq,hi₁,hs₁,hd₁⟩,.pass (x:= .inLoop c) rfl (fun _ _=> .inl Z3) harr⟩
   |outgrown=>exact ⟨_,a₁,w₁,⟨s₁,m₁,cn₁,hq,hi₁,hs₁,hd₁⟩,.pass (x:= .inLoop c) rfl (fun _ _=> .inl Z3) harr⟩
 obtain ⟨e,a',w',hq,harr⟩:=key _ a0 rfl hI w m cn a hi hs hd
 exact ⟨e,a',w',hq,.of_steps (.one step_loop) harr⟩
def Qgu(T:Nat→Option TI)(fn:Func)(n0:Nat)(st:St):Option (V×List Ob):=
 match Qxy T st fn.results.toList with
 |some xs=>match Q88 n0 st.ob (Qv0 xs) with
  |some (r,ob2)=>if n0≤ob2.length∧(ob2.take n0).all (Qy9 n0)=true∧r.lim n0=true then some (r,ob2.take n0) else none
  |none=>none
 |none=>none
theorem Q1b{fn:Func}{n0:Nat}{r r':V}{ob' ob'':List Ob}(h:Qgu T fn n0 st=some (r',ob''))(hr:Wk r' r)(ho:ob''=ob'):Qj6 T fn n0 r ob' .ret st:=by
 unfold Qgu at h
 split at h
 ·rename_i xs hx
  split at h
  ·rename_i r2 ob2 h2
   split at h
   ·rename_i hc
    cases h
    exact ⟨.inl rfl,xs,_,ob2,hx,h2,hr,hc.1,ho,by rw[←ho];exact hc.2.1,hc.2.2⟩
   ·cases h
  ·cases h
 ·cases h
theorem Wk.of_eq{x y:V}(h:x=y):Wk x y:=h▸Wk.refl x
end
end Go.Ev
namespace Go.Ev
open Go
mutual
def V.fz:V→V
 | .lst true k xs=> .lst false k (fzL xs)
 | .agg xs=> .agg (fzL xs)
 | .tup xs=> .tup (fzL xs)
 | .clo f xs ys=> .clo f (fzL xs) (fzL ys)
 | .ifc t x=> .ifc t x.fz
 | .ptr _ _ _=> .junk
 | .arr _ _ _=> .junk
 | .bx _ x=> .fp x.fz.cells
 |x=>x
def fzL:List V→List V
 |[]=>[]
 |x::xs=>x.fz::fzL xs
end
theorem Qao(xs:List V):fzL xs=xs.map V.fz:=by
 induction xs with
 |nil=>rfl
 |cons x xs ih=>simp[fzL,ih]
theorem Qrq(xs ys:List V):fzL (xs++ys)=fzL xs++fzL ys:=by simp[Qao]
theorem Q6j(xs:List V):(fzL xs).length=xs.length:=by simp[Qao]
theorem Qro(x:V):x.fz.cells=fzL x.cells:=by
 cases x with
 |lst o k xs=>cases o<;>rfl
 |_=>rfl
theorem Qrp(xs:List V):Q1y (fzL xs)=fzL (Q1y xs):=by
 induction xs with
 |nil=>rfl
 |cons x xs ih=>rw[fzL,flat_cons,flat_cons,ih,Qrq,Qro]
theorem Qq2{k:Nat}{xs:List V}(h:uni k xs):uni k (fzL xs):=by
 intro x hx
 rw[Qao] at hx
 obtain ⟨y,hy,rfl⟩:=List.mem_map.1 hx
 rw[Qro,Q6j]
 exact h y hy
def J.fz:J→J
 | .one x u=> .one x.fz u
 | .cells b o xs=> .cells b o (fzL xs)
 | .list xs us=> .list (fzL xs) us
def seen(ob:List Ob)(id:Nat):List V:=match ob[id]? with
 |some (some (_,xs))=>xs
 |_=>[]
def Qkr(ob:List Ob)(id:Nat):Nat:=match ob[id]? with
 |some (some (k,_))=>k
 |_=>0
mutual
def V.bor(ob:List Ob):V→V
 | .arr id o n=>if o+n≤(seen ob id).length then .lst false (Qkr ob id) (fzL (((seen ob id).drop o).take n)) else .junk
 | .ptr id i j=>if i<(seen ob id).length∧j≤((seen ob id).getD i .junk).cells.length then .fp (fzL (((seen ob id).getD i .junk).cells.drop j)) else .junk
 | .lst true k xs=> .lst false k (fzL xs)
 | .agg xs=> .agg (borL ob xs)
 | .tup xs=> .tup (borL ob xs)
 | .clo f xs ys=> .clo f (borL ob xs) (borL ob ys)
 | .ifc t x=> .ifc t (x.bor ob)
 |x=>x
def borL(ob:List Ob):List V→List V
 |[]=>[]
 |x::xs=>x.bor ob::borL ob xs
end
section
variable {w:World} {fr fr':Nat→Prop} {m:Mp}
theorem R.fz(hf: ∀b,b<w.heap.size→fr b→fr' b){j:J}{c:Cnt}(h:R w fr m j c):(∀b,b<w.heap.size→0<c b→fr' b)→ ∀m',R w fr' m' j.fz z0:=by
 induction h with
 |junk=>intro _ _;exact .junk
 |bool=>intro _ _;exact .bool _
 |int=>intro _ _;exact .int _ _
 |str=>intro _ _;exact .str _
 |raw u h=>intro _ _;exact .raw u h
 |agg _ ih=>intro hc m';exact .agg (ih hc m')
 |tup _ ih=>intro hc m';exact .tup (ih hc m')
 | @nil m o k=>intro _ _;cases o<;>exact .nil
 | @nilz m o k a=>intro _ _;cases o<;>exact .nilz
 |frz hl hb hk hn h _=>
  intro _ m'
  exact .frz hl (hf _ hl hb) hk hn (h.mono (Nat.le_refl _) (fun b hb h=>⟨hf b hb h,rfl⟩) (fun _ _=>rfl) (.inr rfl) (fun _ _ h=>by simp[Q1e] at h))
 | @own m k xs b cap cur e c c' hb hs hk hn h hc ih=>
  intro hq m'
  have hlt:b<w.heap.size:=(Array.getElem?_eq_some_iff.1 hb).1
  have:=ih (fun x hx hcx=>hq x hx (by rw[hc];omega)) Q1e
  show R w fr' m' (.one (.lst false k (fzL xs)) _) z0
  rw[←Q6j xs] at hn⊢
  refine .frz hlt (hq b hlt (by rw[hc];simp)) (Qq2 hk) hn ?_
  rw[Qrp]
  exact this
 | @bx m k x b cur e c c' hb hs hk h hc ih=>
  intro hq m'
  have hlt:b<w.heap.size:=(Array.getElem?_eq_some_iff.1 hb).1
  have:=ih (fun x hx hcx=>hq x hx (by rw[hc];omega)) Q1e
  show R w fr' m' (.one (.fp x.fz.cells) _) z0
  refine .fp hlt (hq b hlt (by rw[hc];simp)) ?_
  rw[Qro]
  simpa[J.fz] using this
 |fp hl hb h _=>
  intro _ m'
  exact .fp hl (hf _ hl hb) (h.mono (Nat.le_refl _) (fun b hb h=>⟨hf b hb h,rfl⟩) (fun _ _=>rfl) (.inr rfl) (fun _ _ h=>by simp[Q1e] at h))
 |fmap hl hb he h=>intro _ _;exact .fmap hl (hf _ hl hb) he h
 |ptr h=>intro _ _;exact .junk
 |arr h=>intro _ _;exact .junk
 |arrz h=>intro _ _;exact .junk
 |arrn=>intro _ _;exact .junk
 |clo h1 h2 he ih1 ih2=>
  intro hq m'
  exact .clo (ih1 (fun b hb h=>hq b hb Z6x) m') (ih2 (fun b hb h=>hq b hb Z6x) m') (fun _=>by simp[z0])
 |ifc h ih=>intro hq m';exact .ifc (ih hq m')
 |cnil=>intro _ _;exact .cnil
 |ccons hc h1c h1 h2 he ih1 ih2=>
  intro hq m'
  exact .ccons hc h1c (ih1 (fun b hb h=>hq b hb Z6x) m') (ih2 (fun b hb h=>hq b hb Z6x) m') (fun _=>by simp[z0])
 |lnil=>intro _ _;exact .lnil
 |lcons h1 h2 he ih1 ih2=>
  intro hq m'
  exact .lcons (ih1 (fun b hb h=>hq b hb Z6x) m') (ih2 (fun b hb h=>hq b hb Z6x) m') (fun _=>by simp[z0])
variable {X:Ctx} {ob:List Ob} {cn:Nat→Cnt}
def J.bor(ob:List Ob):J→J
 | .one x u=> .one (x.bor ob) u
 | .cells b o xs=> .cells b o (borL ob xs)
 | .list xs us=> .list (borL ob xs) us
theorem Qi4{id:Nat}(h:(seen ob id)≠[]):ob[id]? =some (some (Qkr ob id,seen ob id)):=by
 unfold seen Qkr at*
 split at h
 ·rename_i h1;rw[h1]
 ·exact absurd rfl h
theorem Q18e(hi:Inv X w ob m cn)(hf: ∀b,b<w.heap.size→fr' b){m':Mp}: ∀{x:V} {u:Value} {c:Cnt},R w (frz X cn) m (.one x u) c→(∀b,c b=0)→
  (∀xs us c,R w (frz X cn) m (.list xs us) c→(∀b,c b=0)→(∀y∈xs,SizeOf.sizeOf y<SizeOf.sizeOf x)→R w fr' m' (.list (borL ob xs) us) z0)→
  (∀y u c,SizeOf.sizeOf y<SizeOf.sizeOf x→R w (frz X cn) m (.one y u) c→(∀b,c b=0)→R w fr' m' (.one (y.bor ob) u) z0)→R w fr' m' (.one (x.bor ob) u) z0:=by
 intro x u c h hc ihL ih1
 have hf': ∀b,b<w.heap.size→frz X cn b→fr' b:=fun b hb _=>hf b hb
 cases h with
 |junk=>exact .junk
 |bool=>exact .bool _
 |int=>exact .int _ _
 |str=>exact .str _
 |raw u h=>exact .raw _ h
 |agg h=>exact .agg (ihL _ _ _ h hc (fun y hy=>by have:=List.sizeOf_lt_of_mem hy;simp only[V.agg.sizeOf_spec];omega))
 |tup h=>exact .tup (ihL _ _ _ h hc (fun y hy=>by have:=List.sizeOf_lt_of_mem hy;simp only[V.tup.sizeOf_spec];omega))
 | @nil _ o k=>cases o<;>exact .nil
 | @nilz _ o k a=>cases o<;>exact .nilz
 |frz hl hb hk hn h=>
  exact .frz hl (hf _ hl) hk hn (h.mono (Nat.le_refl _) (fun b hb h=>⟨hf b hb,rfl⟩) (fun _ _=>rfl) (.inr rfl) (fun _ _ h=>by simp[Q1e] at h))
 |own hb hs hk hn h hcc=>have:=hc;rename_i b _ _ _ _;have h1:=hcc b;rw[hc] at h1;simp at h1
 |bx hb hs hk h hcc=>have:=hc;rename_i b _ _ _;have h1:=hcc b;rw[hc] at h1;simp at h1
 |fp hl hb h=>
  exact .fp hl (hf _ hl) (h.mono (Nat.le_refl _) (fun b hb h=>⟨hf b hb,rfl⟩) (fun _ _=>rfl) (.inr rfl) (fun _ _ h=>by simp[Q1e] at h))
 |fmap hl hb he h=>exact .fmap hl (hf _ hl) he h
 | @ptr _ id i j b k h=>
  simp only[V.bor]
  split
  ·rename_i hcd
   have hne:seen ob id≠[]:=by intro h0;rw[h0] at hcd;simp at hcd
   obtain ⟨rfl,cur,e,c1,g1,g2,g3,g4,g5⟩:=hi.object (Qi4 hne) h
   have hlt:b<w.heap.size:=(Array.getElem?_eq_some_iff.1 g1).1
   obtain ⟨c1,c2,c3,_,h2,_,_⟩:=R.elem g4 g2 hcd.1
   rw[←List.take_append_drop j ((seen ob id).getD i .junk).cells] at h2
   obtain ⟨c4,c5,_,h3,_⟩:=R.split h2
   rw[List.length_take,Nat.min_eq_left hcd.2] at h3
   exact .fp hlt (hf _ hlt) (R.fz hf' h3 (fun b hb _=>hf b hb) Q1e)
  ·exact .junk
 | @arr _ id o n b k cap cur e h hb hn hcap=>
  simp only[V.bor]
  split
  ·rename_i hcd
   by_cases hn0:n=0
   ·subst hn0
    have hlt:b<w.heap.size:=hi.mlt _ _ h
    simp only[List.take_zero,fzL]
    exact .frz (xs:=[]) hlt (hf _ hlt) (fun x hx=>by simp at hx) Z3 .cnil
   ·have hne:seen ob id≠[]:=by intro h0;rw[h0] at hcd;simp at hcd;omega
    obtain ⟨rfl,cur,e,c1,g1,g2,g3,g4,g5⟩:=hi.object (Qi4 hne) h
    have hlt:b<w.heap.size:=(Array.getElem?_eq_some_iff.1 g1).1
    rw[Q5g o] at g4
    obtain ⟨c1,c2,_,q2,q3⟩:=R.split g4
    rw[Q2f g2 Zb,Nat.zero_add,Q5g n] at q2
    obtain ⟨c3,c4,q4,_,q6⟩:=R.split q2
    have hlen:(fzL (((seen ob id).drop o).take n)).length=n:=by rw[Q6j,List.length_take,List.length_drop];omega
    have:=R.frz (w:=w) (fr:=fr') (m:=m') (k:=Qkr ob id) (xs:=fzL (((seen ob id).drop o).take n)) (b:=b) (off:=o*Qkr ob id) (cap:=cap) hlt (hf _ hlt) (Qq2 (Q60 (Qg6 g2 o) n)) (by rw[hlen];exact hn)
     Z9e
    rw[hlen] at this
    exact this
  ·exact .junk
 | @arrz _ id o b k cap cur e off h hb ho=>
  simp only[V.bor]
  split
  ·have hlt:b<w.heap.size:=hi.mlt _ _ h
   simp only[List.take_zero,fzL]
   exact .frz (xs:=[]) hlt (hf _ hlt) (fun x hx=>by simp at hx) Z3 .cnil
  ·exact .junk
 | @arrn _ id o=>
  simp only[V.bor]
  split
  ·rename_i ad _
   simp only[List.take_zero,fzL]
   cases ad<;>first|exact .nil|exact .nilz
  ·exact .junk
 | @clo _ f xs us ys vs c d e h1 h2 he=>
  exact .clo (ihL _ _ _ h1 (fun b=>by have:=he b;have:=hc b;omega) (fun y hy=>by have:=List.sizeOf_lt_of_mem hy;simp only[V.clo.sizeOf_spec];omega))
   (ihL _ _ _ h2 (fun b=>by have:=he b;have:=hc b;omega) (fun y hy=>by have:=List.sizeOf_lt_of_mem hy;simp only[V.clo.sizeOf_spec];omega)) (fun _=>by simp[z0])
 | @ifc _ t x u c h=>exact .ifc (ih1 _ _ _ (by simp only[V.ifc.sizeOf_spec];omega) h hc)
theorem Qmj(hi:Inv X w ob m cn)(hf: ∀b,b<w.heap.size→fr' b){m':Mp}: ∀{xs:List V} {us:List Value} {c:Cnt},R w (frz X cn) m (.list xs us) c→(∀b,c b=0)→(∀y∈xs,∀u c,R w (frz X cn) m (.one y u) c→(∀b,c b=0)→R w fr' m' (.one (y.bor ob) u) z0)→
  R w fr' m' (.list (borL ob xs) us) z0:=by
 intro xs
 induction xs with
 |nil=>intro us c h hc _;cases h;exact .lnil
 |cons x xs ih=>
  intro us c h hc hy
  cases h with
  |lcons h1 h2 he=>
   exact .lcons (hy x Z3 _ _ h1 (fun b=>by have:=he b;have:=hc b;omega)) (ih h2 (fun b=>by have:=he b;have:=hc b;omega) (fun y hm=>hy y (by simp[hm]))) (fun _=>by simp[z0])
theorem borR(hi:Inv X w ob m cn)(hf: ∀b,b<w.heap.size→fr' b){m':Mp}(n:Nat): ∀{x:V} {u:Value} {c:Cnt},SizeOf.sizeOf x=n→R w (frz X cn) m (.one x u) c→(∀b,c b=0)→R w fr' m' (.one (x.bor ob) u) z0:=by
 induction n using Nat.strongRecOn with
 |_ n ih=>
  intro x u c hn h hc
  refine Q18e hi hf h hc ?_ ?_
  ·intro xs us c h hc hlt
   exact Qmj hi hf h hc (fun y hy u c h hc=>ih _ (hn▸hlt y hy) rfl h hc)
  ·intro y u c hlt h hc
   exact ih _ (hn▸hlt) rfl h hc
end
mutual
def V.solid:V→Bool
 | .lst false _ _=>false
 | .lst true _ xs=>solidL xs
 | .bx _ x=>x.solid
 | .agg xs=>solidL xs
 | .tup xs=>solidL xs
 | .clo _ xs ys=>solidL xs&&solidL ys
 | .ifc _ x=>x.solid
 | .fp _=>false
 | .fmap _=>false
 | .ptr _ _ _=>false
 | .arr _ _ _=>false
 |_=>true
def solidL:List V→Bool
 |[]=>true
 |x::xs=>x.solid&&solidL xs
end
theorem Qxu(xs:List V):solidL xs=xs.all V.solid:=by
 induction xs with
 |nil=>rfl
 |cons x xs ih=>simp[solidL,ih]
theorem Qj9(xs ys:List V):solidL (xs++ys)=(solidL xs&&solidL ys):=by simp[Qxu]
theorem Qom{xs:List V}(h:solidL xs=true):solidL (Q1y xs)=true:=by
 induction xs with
 |nil=>rfl
 |cons x xs ih=>
  simp only[solidL,Bool.and_eq_true] at h
  rw[flat_cons,Qj9,ih h.2,Bool.and_true]
  cases x<;>simp_all[V.cells,solidL,V.solid]
theorem R.solid{w:World}{fr fr':Nat→Prop}{m:Mp}{j:J}{c:Cnt}(h:R w fr m j c):(match j with| .one x _=>x.solid=true| .cells _ _ xs=>solidL xs=true| .list xs _=>solidL xs=true)→ ∀m',R w fr' m' j c:=by
 induction h with
 |junk=>intro _ _;exact .junk
 |bool=>intro _ _;exact .bool _
 |int=>intro _ _;exact .int _ _
 |str=>intro _ _;exact .str _
 |raw u h=>intro _ _;exact .raw u h
 |agg _ ih=>intro hp m';exact .agg (ih Zb0 m')
 |tup _ ih=>intro hp m';exact .tup (ih Zb0 m')
 |nil=>intro _ _;exact .nil
 |nilz=>intro _ _;exact .nilz
 |frz=>intro hp;simp[V.solid] at hp
 |own hb hs hk hn h hc ih=>intro hp m';exact .own hb hs hk hn (ih (Qom Zb0) Q1e) hc
 | @bx m k x b cur e c c' hb hs hk h hc ih=>intro hp m';exact .bx hb hs hk (ih (Qom (xs:=[x]) (by simpa[V.solid,solidL] using hp)) Q1e) hc
 |fp=>intro hp;simp[V.solid] at hp
 |fmap=>intro hp;simp[V.solid] at hp
 |ptr h=>intro hp;simp[V.solid] at hp
 |arr h=>intro hp;simp[V.solid] at hp
 |arrz h=>intro hp;simp[V.solid] at hp
 |arrn=>intro hp;simp[V.solid] at hp
 |clo h1 h2 he ih1 ih2=>
  intro hp m'
  simp only[V.solid,Bool.and_eq_true] at hp
  exact .clo (ih1 hp.1 m') (ih2 hp.2 m') he
 |ifc h ih=>intro hp m';exact .ifc (ih Zb0 m')
 |cnil=>intro _ _;exact .cnil
 |ccons hc h1c h1 h2 he ih1 ih2=>
  intro hp m'
  simp only[solidL,Bool.and_eq_true] at hp
  exact .ccons hc h1c (ih1 hp.1 m') (ih2 hp.2 m') he
 |lnil=>intro _ _;exact .lnil
 |lcons h1 h2 he ih1 ih2=>
  intro hp m'
  simp only[solidL,Bool.and_eq_true] at hp
  exact .lcons (ih1 hp.1 m') (ih2 hp.2 m') he
mutual
theorem Q9n(g:Nat→Option Nat): ∀x:V,x.solid=true→x.mapId g=x
 | .junk,_=>rfl
 | .bool _,_=>rfl
 | .int _ _,_=>rfl
 | .str _,_=>rfl
 | .raw _,_=>rfl
 | .agg xs,h=>by simp only[V.mapId];rw[solid_mapL g xs Zc7]
 | .tup xs,h=>by simp only[V.mapId];rw[solid_mapL g xs Zc7]
 | .lst _ _ _,_=>rfl
 | .bx _ _,_=>rfl
 | .fp _,_=>rfl
 | .fmap _,h=>by simp[V.solid] at h
 | .ptr _ _ _,h=>by simp[V.solid] at h
 | .arr _ _ _,h=>by simp[V.solid] at h
 | .clo f xs ys,h=>by
  simp only[V.solid,Bool.and_eq_true] at h
  simp only[V.mapId];rw[solid_mapL g xs h.1,solid_mapL g ys h.2]
 | .ifc t x,h=>by simp only[V.mapId];rw[Q9n g x Zc7]
theorem solid_mapL(g:Nat→Option Nat): ∀xs:List V,solidL xs=true→mapL g xs=xs
 |[],_=>rfl
 |x::xs,h=>by
  simp only[solidL,Bool.and_eq_true] at h
  simp only[mapL];rw[Q9n g x h.1,solid_mapL g xs h.2]
end
end Go.Ev
namespace Go.Ev
open Go
section
variable {P:Program} {X:Ctx} {T:Nat→Option TI} {ops:Array Oper} {rest l l':List Oper} {st s1 s2:St} {Q:Exit→St→Prop} {o:Oper}
def runU(T:Nat→Option TI)(n0:Nat)(ops:Array Oper):List Oper→St→List Oper×St
 |[],st=>([],st)
 |o::rest,st=>match gd ops st o.guard with
  |some true=>match opB T n0 st o.op with
   |some (x,st')=>runU T n0 ops rest ⟨Q2l o.dst x st'.tm,st'.ob⟩
   |none=>(o::rest,st)
  |some false=>runU T n0 ops rest ⟨Q2l o.dst (.tup []) st.tm,st.ob⟩
  |none=>(o::rest,st)
theorem Q8.upto(hT:TOK P T){n0:Nat}(hX:X.n0=n0): ∀{l l':List Oper} {st s1 s2:St},runU T n0 ops l st=(l',s1)→Q8 P X ops l' s1 s2→Q8 P X ops l st s2
 |[],l',st,s1,s2,h,hk=>by simp only[runU] at h;cases h;exact hk
 |o::l,l',st,s1,s2,h,hk=>by
  simp only[runU] at h
  split at h
  ·rename_i hg
   split at h
   ·rename_i x st2 hx
    exact fun rest Q hq=>Q102 (Qqw hT hX hx) hg (Q8.upto hT hX h hk rest Q hq)
   ·cases h;exact hk
  ·rename_i hg
   exact fun rest Q hq=>Q101 hg (Q8.upto hT hX h hk rest Q hq)
  ·cases h;exact hk
def Qvw(st:St)(d:Option Tmp)(ps:List Nat)(r:V)(obc:List Ob):St:=
 ⟨Q2l d (Q32 (wb st.ob ps (obc.map (Qjn (Qcj ps)))) (r.mapId (Qcj ps))).1 st.tm,(Q32 (wb st.ob ps (obc.map (Qjn (Qcj ps)))) (r.mapId (Qcj ps))).2⟩
theorem Q8.call{fo:Operand}{as:Array Operand}{ts:Array TypeId}{f:FuncId}{first cap args':List V}{obi:List Ob}(ps:List Nat){r:V}{obc:List Ob}
  (ho:o.op= .call {callee:= .value fo,args:=as,argTypes:=ts}) (hg:gd ops st o.guard=some true) (hf:val st fo= .clo (.func f) first cap)
  (ha:mapL (gIn ps) (first++as.toList.map (val st)++cap)=args') (hi:Qsv st.ob ps=obi)
  (hct:Ct P f args' obi r obc) (hF:Q6 P f)
  (hn:ps.Nodup) (hlt: ∀id∈ps,id<st.ob.length) (he:Qvw st o.dst ps r obc=s1) (hk:Q8 P X ops rest s1 s2):Q8 P X ops (o::rest) st s2:=by
 subst ha;subst hi;subst he
 exact fun rest' Q hq=>Q15e ps hct ho hg hf hF hn hlt (hk rest' Q hq)
theorem Q8.callB{fo:Operand}{as:Array Operand}{ts:Array TypeId}{f:FuncId}{first cap args':List V}{r:V}
  (ho:o.op= .call {callee:= .value fo,args:=as,argTypes:=ts}) (hg:gd ops st o.guard=some true) (hf:val st fo= .clo (.func f) first cap)
  (ha:borL st.ob (first++as.toList.map (val st)++cap)=args')
  (hct:Ct P f args' [] r []) (hF:Q6 P f) (hsol:r.solid=true) (he:(⟨Q2l o.dst (Q32 st.ob r).1 st.tm,(Q32 st.ob r).2⟩:St)=s1) (hk:Q8 P X ops rest s1 s2):Q8 P X ops (o::rest) st s2:=by
 subst ha;subst he
 intro rest' Q hq
 have hk:=hk rest' Q hq
 intro w m cn a hi hs hd
 refine wpList_step fun K hK=> ?_
 rw[Q62 hs hg,if_pos rfl]
 have hfv:=Q14 hs fo
 rw[hf] at hfv
 obtain ⟨us1,vs1,he,hfirst,hcap⟩: ∃us1 vs1,a.eval fo= .func (.func f) (List.toArray us1) (List.toArray vs1)∧R w (frz X cn) m (.list first us1) z0∧R w (frz X cn) m (.list cap vs1) z0:=by
  generalize a.eval fo=u at hfv
  generalize hz:z0=c at hfv
  cases hfv with
  |clo h1 h2 he=>
   subst hz
   exact ⟨_,_,rfl,h1.zero fun z=>by have:=he z;simp[z0] at this;omega,h2.zero fun z=>by have:=he z;simp[z0] at this;omega⟩
 have hargs: ∀l:List Operand,R w (frz X cn) m (.list (l.map (val st)) (l.map a.eval)) z0:=by
  intro l
  induction l with
  |nil=>exact .lnil
  |cons x l ih=>exact .lcons (Q14 hs x) ih (fun _=>rfl)
 have hall:=((hfirst.ljoin (hargs as.toList)).ljoin hcap).zero fun z=>by simp[z0]
 let C:Ctx:=⟨w,fun b=>b<w.heap.size,fun b=> ∃id,0<((fun _=>z0):Nat→Cnt) id b,Q1e,([]:List Ob).length⟩
 have hCinv:Inv C w [] Q1e (fun _=>z0):=by
  refine ⟨Nat.le_refl _,fun _ _ _=>rfl,rfl,rfl,rfl,fun i o ho=>by simp at ho,fun b i j h=>absurd h Z2z,fun i b=>by simp[z0],fun i b h=>absurd h Z2z,fun i h=>rfl,fun i h=>rfl,fun i x h=>by simp[Q1e] at h,Nat.le_refl _,fun _ _=>rfl⟩
 have hCR:R w (frz C (fun _=>z0)) Q1e (.list (borL st.ob (first++as.toList.map (val st)++cap)) (us1++as.toList.map a.eval++vs1)) z0:=
  Qmj hi (fr':=frz C (fun _=>z0)) (fun b hb=>⟨.inl hb,fun _=>rfl⟩) hall (fun _=>rfl) (fun y _ u c h hc=>borR hi (fun b hb=>⟨.inl hb,fun _=>rfl⟩) _ rfl h hc)
 have hcall:=hct w (fun b=>b<w.heap.size) Q1e (fun _=>z0) (us1++as.toList.map a.eval++vs1) (fun b hb=>⟨hb,fun _=>rfl⟩) hCinv hCR
 unfold Oper.wp
 have hrun:(execOp a.eval o).run P w= .ok (.enter f (us1++as.toList.map a.eval++vs1).toArray) w:=by
  simp only[execOp,ho,resolve,Deferred.ofValue,he,Sem.run_bind,Sem.run_pure,Result.andThen_ok,invoke]
  rw[Q6r hF]
  congr 2
  apply Array.ext'
  simp
 rw[hrun]
 refine Calls.mono hcall ?_
 rintro e w' ⟨u,mc,cnc,d,rfl,h1,h2,h3,n,h4,h5⟩
 have h1':Inv (Q8y X w m cn []) w' [] mc cnc:=by
  refine ⟨h1.le,fun b hb hn=>h1.kept b hb (fun ⟨id,hid⟩=>absurd hid Z2z),h1.os,h1.tape,h1.output,fun i o ho=>by simp at ho,h1.dis,h1.one,fun i b h=> ?_,h1.fresh,fun i hi=>by simp[Q8y] at hi,h1.mlt,Nat.le_refl _,h1.shp⟩
  obtain ⟨g1,g2⟩:=h1.new i b h
  refine ⟨g1,.inl ?_⟩
  rcases g2 with g2|⟨id,g2⟩
  ·exact g2
  ·exact absurd g2 Z2z
 have h2':R w' (frz (Q8y X w m cn []) cnc) mc (.one r u) d:=R.solid h2 hsol mc
 have hN:st.ob.length≤(Q32 st.ob r).2.length:=Qia st.ob r
 obtain ⟨a1,a2,a3,a4⟩:=Q7t hi List.nodup_nil (fun id h=>by simp at h) h1' h2' rfl (Nat.zero_le n) h5 hN
 rw[Q9n _ r hsol] at a3
 replace a1:Inv X w' st.ob m _:=a1
 obtain ⟨m2,cn2,b1,b2,b3,_,_⟩:=Ql0 r a1 (Nat.le_refl _) a3 a4
 have hs2:Sl X w' m2 cn2 (Q2l o.dst (Q32 st.ob r).1 st.tm) (a.put o.dst u):=by
  have:=(b2.Sl (a2.Sl hs)).set o.dst b3
  cases hod:o.dst<;>simpa[Q2l,hod] using this
 have hd2:(a.put o.dst u).defers=[]:=by cases hod:o.dst<;>simpa[Act.put] using hd
 exact hK _ _ (hk w' m2 cn2 _ b1 hs2 hd2)
def updL(tm:List V):List (Nat×V)→List V
 |[]=>tm
 |(i,x)::ps=>updL (tm.set i x) ps
def updO(ob:List Ob):List (Nat×Ob)→List Ob
 |[]=>ob
 |(i,x)::ps=>updO (ob.set i x) ps
def St.upd(s:St)(us:List (Nat×V))(os:List (Nat×Ob)):St:=⟨updL s.tm us,updO s.ob os⟩
theorem Qh{α:Type}{c:Code}(ks:List Nat)(u:α→List (Nat×V))(uo:α→List (Nat×Ob))(I:α→Prop)(μ:α→Nat)(a0:α){f:α→St}
  (hf: ∀a,(st.keep ks).upd (u a) (uo a)=f a) (h0:st.keep ks=f a0) (hI:I a0)
  (round: ∀a,I a→W P X c (f a) (Qg9 (fun s'=> ∃a',Le X s' (f a')∧I a'∧μ a'<μ a) Q)):W P X (.loop c) st Q:=
 Q15a f I μ a0 (Le.trans (Le.keep ks st) (Le.of_eq h0)) hI round
def St.trim(n:Nat)(s:St):St:=⟨jkL (fun id=>decide (n≤id)) s.tm,(s.ob.take n).map (jkO (fun id=>decide (n≤id)))⟩
mutual
theorem Q12p(n:Nat): ∀x:V,(x.jk (fun id=>decide (n≤id))).lim n=true
 | .junk=>rfl
 | .bool _=>rfl
 | .int _ _=>rfl
 | .str _=>rfl
 | .raw _=>rfl
 | .agg xs=>by simp only[V.jk,V.lim];exact jkL_lim n xs
 | .tup xs=>by simp only[V.jk,V.lim];exact jkL_lim n xs
 | .lst _ _ _=>rfl
 | .bx _ _=>rfl
 | .fp _=>rfl
 | .fmap _=>rfl
 | .ptr id i j=>by
  simp only[V.jk]
  split
  ·rfl
  ·rename_i h;simp only[V.lim,decide_eq_true_eq] at h⊢;omega
 | .arr id i j=>by
  simp only[V.jk]
  split
  ·rfl
  ·rename_i h;simp only[V.lim,decide_eq_true_eq] at h⊢;omega
 | .clo f xs ys=>by simp only[V.jk,V.lim,jkL_lim n xs,jkL_lim n ys];rfl
 | .ifc t x=>by simp only[V.jk,V.lim];exact Q12p n x
theorem jkL_lim(n:Nat): ∀xs:List V,limL n (jkL (fun id=>decide (n≤id)) xs)=true
 |[]=>rfl
 |x::xs=>by simp only[jkL,limL,Q12p n x,jkL_lim n xs];rfl
end
theorem Le.trim(n:Nat)(hn0:X.n0≤n)(s:St)(hn:n≤s.ob.length):Le X s (s.trim n):=by
 intro w m cn a hi hs
 have h1:=hi.jk (fun id=>decide (n≤id))
 have h2:=h1.trim (n:=n) hn0 Zbj (fun o ho=>by
  rw[←List.map_take] at ho
  obtain ⟨o',_,rfl⟩:=List.mem_map.1 ho
  cases o' with
  |none=>rfl
  |some p=>exact jkL_lim n p.2)
 rw[←List.map_take] at h2
 refine ⟨_,cn,h2,?_⟩
 exact R.jk (p:=fun id=>decide (n≤id)) (fun id h=>if_pos Z49) hs
theorem Qo{α:Type}{f:α→St}{I:α→Prop}{μ:α→Nat}{a:α}{s':St}(a':α)(ks:List Nat)(h:s'.keep ks=f a')(hI:I a')(hμ:μ a'<μ a):
  ∃a',Le X s' (f a')∧I a'∧μ a'<μ a:=⟨a',Le.trans (Le.keep ks s') (Le.of_eq h),hI,hμ⟩
theorem Qm{α:Type}{f:α→St}{I:α→Prop}{μ:α→Nat}{a:α}{s':St}(a':α)(ks:List Nat)(n:Nat)(hn0:X.n0≤n)(hn:n≤s'.ob.length)(h:(s'.keep ks).trim n=f a')(hI:I a')(hμ:μ a'<μ a):
  ∃a',Le X s' (f a')∧I a'∧μ a'<μ a:=⟨a',Le.trans (Le.keep ks s') (Le.trans (Le.trim n hn0 _ hn) (Le.of_eq h)),hI,hμ⟩
theorem Qw0{fn:Func}{n0:Nat}{r r':V}{ob' ob'':List Ob}(h:Qgu T fn n0 st=some (r',ob''))(hr:Wk r' r)(ho:ob''=ob'):Qj6 T fn n0 r ob' .normal st:=
 let ⟨_,hx⟩:=Q1b h hr ho
 ⟨.inr rfl,hx⟩
theorem Qc{z:Int}(h1: -9223372036854775808≤z)(h2:z<9223372036854775808):IntKind.i64.wrap z=z:=by
 unfold IntKind.wrap
 simp[IntKind.signed,IntKind.bits]
 omega
end
end Go.Ev
