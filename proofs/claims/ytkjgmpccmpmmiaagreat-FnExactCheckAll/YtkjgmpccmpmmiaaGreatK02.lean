/- Part 3 of what the proofs lean on: an evaluator of Go functions over abstract values. Conditions: none. -/
import Derived.Test.YtkjgmpccmpmmiaaGreatK01
import Derived.Deep.Quiet
import Derived.StillTail
import Derived.OrdersHeld
set_option linter.all false
set_option linter.unusedVariables false
set_option linter.unusedSimpArgs false
set_option maxHeartbeats 2000000
set_option maxRecDepth 100000
namespace Go.Ev
open Go
def Qa1:Op→Bool
 | .alloc _=>false
 | .box _ _=>false
 | .store _ _ _=>false
 | .makeSlice _ _ _=>false
 | .buildSlice _ _ _=>false
 | .call c=>match c.callee with
  | .builtin .len=>true
  |_=>false
 |_=>true
section
variable {P:Program} {X:Ctx} {st:St} {o:Oper} {T:Nat→Option TI}
theorem Q14f{L:List Nat}(hT:TOK P T){x:V}{st':St}(h:opA T st o.op=some (x,st'))(hp:Qa1 o.op=true)(hL:rdB st L o.op=true):OKp P X L st o x∧st'=st:=by
 cases ho:o.op<;>rw[ho] at h hp<;>simp only[opA] at h<;>try (cases h;done)
 case move=>cases h;exact ⟨(Qq9 (.inl ho)),rfl⟩
 case assign=>cases h;exact ⟨(Qq9 (.inr ho)),rfl⟩
 case pick=>
  split at h
  ·rename_i hv;cases h;exact ⟨(Qz7 ho hv),rfl⟩
  ·cases h
 case nilCheck=>
  split at h
  ·rename_i hv;cases h;rw[←hv];exact ⟨(Q7v ho (.inl ⟨_,_,_,hv⟩)),rfl⟩
  ·rename_i hv;cases h;rw[←hv];exact ⟨(Q7v ho (.inr (.inl ⟨_,hv⟩))),rfl⟩
  ·rename_i hv;cases h;rw[←hv];exact ⟨(Q7v ho (.inr (.inr ⟨_,_,_,hv⟩))),rfl⟩
  ·cases h
 case binOp op t p q t'=>
  split at h
  ·rename_i r hr
   cases h
   unfold Qz6 at hr
   split at hr
   ·rename_i k p k' q hx hy
    split at hr
    ·exact ⟨(Qq8 ho hx hy hr),rfl⟩
    ·exact ⟨(Qq8 ho hx hy hr),rfl⟩
    ·split at hr
     ·rename_i hk;subst hk;exact ⟨(Qwm ho hx hy hr),rfl⟩
     ·cases hr
   ·rename_i hx hy;exact ⟨(Q127 ho hx hy hr),rfl⟩
   ·rename_i hx hy
    split at hr
    ·rename_i ti ht
     split at hr
     ·rename_i hk;cases hr;exact ⟨(Qi8 hT ht hk ho (.inl rfl) hx hy),rfl⟩
     ·rename_i hk;cases hr;exact ⟨(Qi8 hT ht hk ho (.inr rfl) hx hy),rfl⟩
     ·cases hr
    ·cases hr
   ·cases hr
  ·cases h
 case unOp op t p=>
  cases op<;>simp only at h<;>try (cases h;done)
  ·split at h
   ·rename_i hv;cases h;exact ⟨(Q12a ho hv),rfl⟩
   ·cases h
  ·split at h
   ·rename_i hv;cases h;exact ⟨(Q129 ho hv),rfl⟩
   ·cases h
 case convert s t p=>
  split at h
  ·rename_i r hr
   cases h
   unfold Quy at hr
   split at hr
   ·rename_i si ti hs ht
    split at hr
    ·rename_i hk hx;cases hr;exact ⟨(Qz9 hT ht hk hs ho hx),rfl⟩
    ·rename_i hk1 hk2 hx;cases hr;exact ⟨(Qwj hT ht hk2 hs hk1 ho hx),rfl⟩
    ·cases hr
   ·cases hr
  ·cases h
 case extract=>
  split at h
  ·rename_i hv
   split at h
   ·rename_i hj;cases h;exact ⟨(Qqx ho hv hj),rfl⟩
   ·cases h
  ·cases h
 case index=>
  split at h
  ·rename_i r hr
   cases h
   unfold Qq6 at hr
   split at hr
   ·rename_i ti ht
    split at hr
    ·rename_i hk
     split at hr
     ·rename_i hx hy
      split at hr
      ·rename_i hc;cases hr;exact ⟨(Qtp hT ht hk ho hx hy hc.1 hc.2),rfl⟩
      ·cases hr
     ·cases hr
    ·cases hr
   ·cases hr
  ·cases h
 case fieldAddr=>
  split at h
  ·rename_i r hr
   cases h
   unfold Qbv at hr
   split at hr
   ·rename_i ti ht
    split at hr
    ·rename_i fs hk
     split at hr
     ·rename_i off ft hf
      split at hr
      ·rename_i fi hft
       split at hr
       ·cases hr
       ·rename_i hs
        split at hr
        ·rename_i hx;cases hr;exact ⟨(Qku hT ho ht hk hf hft hs hx),rfl⟩
        ·rename_i hx
         split at hr
         ·rename_i hl;cases hr;exact ⟨(Qjb hT ho ht hk hf hft hs hx hl),rfl⟩
         ·cases hr
        ·cases hr
      ·cases hr
     ·cases hr
    ·cases hr
   ·cases hr
  ·cases h
 case indexAddr=>
  split at h
  ·rename_i r hr
   cases h
   unfold Qbu at hr
   split at hr
   ·rename_i ti ht
    split at hr
    ·rename_i e hk
     split at hr
     ·rename_i ei he
      split at hr
      ·rename_i hx hy
       split at hr
       ·rename_i hsz
        split at hr
        ·rename_i hc;cases hr;subst hsz;exact ⟨(Qkt hT ho ht hk he hx hy hc.1 hc.2),rfl⟩
        ·cases hr
       ·cases hr
      ·rename_i hx hy
       split at hr
       ·rename_i k xs hid
        split at hr
        ·rename_i hsz
         split at hr
         ·rename_i hc;cases hr;subst hsz;exact ⟨(Qja hT ho ht hk he hx hid hy hc.1 hc.2),rfl⟩
         ·cases hr
        ·cases hr
       ·cases hr
      ·cases hr
     ·cases hr
    ·cases hr
   ·cases hr
  ·cases h
 case load=>
  split at h
  ·rename_i r hr
   cases h
   unfold Qux at hr
   split at hr
   ·rename_i ti ht
    split at hr
    ·rename_i hp;exact ⟨(Qwh hT ho ht hp hr),rfl⟩
    ·rename_i id i j hp
     split at hr
     ·rename_i k xs hid
      split at hr
      ·rename_i hc
       split at hr
       ·rename_i y hy
        split at hr
        ·rename_i hf;cases hr;exact ⟨(Qz8 hT ho ht hp hid hc.1 hc.2 hy hf (by rw[ho] at hL;simp only[rdB,hp] at hL;simpa using hL)),rfl⟩
        ·cases hr
       ·cases hr
      ·cases hr
     ·cases hr
    ·cases hr
   ·cases hr
  ·cases h
 case alloc=>simp[Qa1] at hp
 case box=>simp[Qa1] at hp
 case store=>simp[Qa1] at hp
theorem Q14d{L:List Nat}(hT:TOK P T){n0:Nat}{x:V}{st':St}(h:opX T n0 st o.op=some (x,st'))(hp:Qa1 o.op=true)(hL:rdB st L o.op=true):OKp P X L st o x∧st'=st:=by
 cases ho:o.op<;>rw[ho] at h hp<;>simp only[opX] at h<;>try (cases h;done)
 case binOp op t p q t'=>
  split at h
  ·rename_i r hr
   cases h
   unfold opEq at hr
   split at hr
   ·rename_i hx hy
    split at hr
    ·rename_i fs hfs
     split at hr
     ·rename_i b hb;cases hr;exact ⟨(Qbw hT ho (.inl rfl) hfs hx hy hb),rfl⟩
     ·cases hr
    ·cases hr
   ·rename_i hx hy
    split at hr
    ·rename_i fs hfs
     split at hr
     ·rename_i b hb;cases hr;exact ⟨(Qbw hT ho (.inr rfl) hfs hx hy hb),rfl⟩
     ·cases hr
    ·cases hr
   ·cases hr
  ·cases h
 case field=>
  split at h
  ·rename_i r hr;cases h;exact ⟨(Qwi hT ho hr),rfl⟩
  ·cases h
 case makeFunc=>cases h;exact ⟨(Qop ho),rfl⟩
 case slice t p lo hi mx=>
  split at h
  ·rename_i r hr
   cases h
   unfold Qq5 at hr
   split at hr
   ·rename_i ti ht
    split at hr
    ·rename_i hk
     split at hr
     ·rename_i hx
      split at hr
      ·rename_i l hh hs
       cases hr
       obtain ⟨l',h',q',h1,h2,h3,h4,h5,h6,h7,rfl,rfl⟩:=Qmp hs
       have:q'=none:=by simp[bnd] at h3;exact h3.symm
       subst this
       exact ⟨(Qtm hT ho ht hk hx h1 h2 (by simpa using h5) h6),rfl⟩
      ·cases hr
     ·cases hr
    ·rename_i e hk
     split at hr
     ·rename_i ei he
      split at hr
      ·rename_i ow k xs hx
       split at hr
       ·rename_i hsz
        subst hsz
        split at hr
        ·rename_i l hh hs
         cases hr
         obtain ⟨l',h',q',h1,h2,h3,h4,h5,h6,h7,rfl,rfl⟩:=Qmp hs
         exact ⟨(Qtn hT ho ht hk he hx h1 h2 h3 h4 h5 h6 h7),rfl⟩
        ·cases hr
       ·cases hr
      ·rename_i id off n hx
       split at hr
       ·rename_i k xs hid
        split at hr
        ·rename_i hsz
         subst hsz
         split at hr
         ·rename_i l hh hs
          cases hr
          obtain ⟨l',h',q',h1,h2,h3,h4,h5,h6,h7,rfl,rfl⟩:=Qmp hs
          exact ⟨(Qto hT ho ht hk he hx hid h1 h2 h3 h4 h5 h6 h7),rfl⟩
         ·cases hr
        ·cases hr
       ·cases hr
      ·cases hr
     ·cases hr
    ·cases hr
   ·cases hr
  ·cases h
 case build=>
  split at h
  ·rename_i ti ht
   split at h
   ·rename_i fs hk
    split at h
    ·rename_i hc
     split at h
     ·rename_i rs hb;cases h;exact ⟨(Qwl hT ho ht hk hc.1 hb hc.2),rfl⟩
     ·cases h
    ·cases h
   ·cases h
  ·cases h
 case buildSlice=>simp[Qa1] at hp
 case makeSlice=>simp[Qa1] at hp
 case call c=>
  unfold Quz at h
  split at h
  ·rename_i p t hcal hargs htys
   have hc:c={callee:= .builtin .len,args:= #[p],argTypes:= #[t]}:=by
    obtain ⟨a,b,d⟩:=c
    simp only at hcal hargs htys
    subst hcal
    rw[show b= #[p] from Array.ext' hargs,show d= #[t] from Array.ext' htys]
   rw[hc] at ho
   split at h
   ·rename_i ti ht
    split at h
    ·rename_i hk hx;cases h;exact ⟨(Qgg hT ho ht Zaz Zaf),rfl⟩
    ·rename_i hk hx;cases h;exact ⟨(Qgg hT ho ht Zaz Zaf),rfl⟩
    ·rename_i hk hx;cases h;exact ⟨(Qgg hT ho ht Zaz Zaf),rfl⟩
    ·rename_i hk hx;cases h;exact ⟨(Qgg (n:=0) hT ho ht Zaz Zaf),rfl⟩
    ·cases h
   ·cases h
  ·rename_i s p t t' hcal hargs htys
   rw[show (Op.call c)=Op.call c from rfl] at hp
   simp[Qa1,hcal] at hp
  ·cases h
theorem Qi7{L:List Nat}(hT:TOK P T){n0:Nat}{x:V}{st':St}(h:opB T n0 st o.op=some (x,st'))(hp:Qa1 o.op=true)(hL:rdB st L o.op=true):OKp P X L st o x∧st'=st:=by
 unfold opB at h
 split at h
 ·rename_i r hr;cases h;exact Q14d hT hr hp hL
 ·split at h
  ·rename_i hr;cases h;exact ⟨Q126 hT hr hL,rfl⟩
  ·exact Q14f hT h hp hL
end
section
variable {X:Ctx} {w w':World} {ob:List Ob} {m:Mp} {cn:Nat→Cnt}
theorem Ext.kp(hi:Inv X w ob m cn)(hk:Kp w w'):Ext X w m cn w' m cn:=
 ⟨hk.1,fun b hb hf=>⟨hf,hk.2 b hb⟩,fun id x hx=>⟨hx,Q4w (hk.2 _ (hi.mlt id x hx))⟩⟩
theorem Inv.kp(hi:Inv X w ob m cn)(hk:Kp w w')(h1:w'.os=w.os)(h2:w'.tape=w.tape)(h3:w'.output=w.output):Inv X w' ob m cn:=by
 have he:=Ext.kp hi hk
 refine ⟨Nat.le_trans hi.le hk.1,fun b hb ho=>by rw[hk.2 b (Nat.lt_of_lt_of_le hb hi.le)];exact hi.kept b hb ho,h1.trans hi.os,h2.trans hi.tape,h3.trans hi.output,
  fun i o ho=>(hi.obj i o ho).ext he rfl rfl (fun b hb=>hk.2 b (hi.new i b hb).1),hi.dis,hi.one,fun i b h=>⟨Nat.lt_of_lt_of_le (hi.new i b h).1 hk.1,(hi.new i b h).2⟩,hi.fresh,hi.pas,
  fun i x h=>Nat.lt_of_lt_of_le (hi.mlt i x h) hk.1,hi.n0,fun b hb=>by rw[Q4w (hk.2 b (Nat.lt_of_lt_of_le hb hi.le))];exact hi.shp b hb⟩
def cls(X:Ctx)(ob:List Ob)(m:Mp)(cn:Nat→Cnt)(w w':World):Prop:=Kp w w'∧Inv X w' ob m cn
end
mutual
def V.toV:V→Value
 | .bool b=> .bool b
 | .int k n=> .int k n
 | .str l=> .string ⟨l.toArray⟩
 | .raw v=>v
 | .agg xs=> .agg (toVL xs).toArray
 | .tup xs=> .tuple (toVL xs).toArray
 |_=>undef
def toVL:List V→List Value
 |[]=>[]
 |x::xs=>x.toV::toVL xs
end
mutual
def V.det:V→Bool
 | .bool _=>true
 | .int _ _=>true
 | .str _=>true
 | .raw v=>v.oneCell'
 | .agg xs=>detL xs
 | .tup xs=>detL xs
 |_=>false
def detL:List V→Bool
 |[]=>true
 |x::xs=>x.det&&detL xs
end
theorem R.det{w:World}{fr:Nat→Prop}{m:Mp}{j:J}{c:Cnt}(h:R w fr m j c):match j with| .one x u=>x.det=true→u=x.toV| .cells _ _ _=>True| .list xs us=>detL xs=true→us=toVL xs:=by
 induction h with
 |agg _ ih=>intro hp;rw[ih (by simpa[V.det] using hp)];rfl
 |tup _ ih=>intro hp;rw[ih (by simpa[V.det] using hp)];rfl
 |lnil=>intro _;rfl
 |lcons _ _ _ ih1 ih2=>
  intro hp
  simp only[detL,Bool.and_eq_true] at hp
  rw[ih1 hp.1,ih2 hp.2];rfl
 |cnil=>trivial
 |ccons=>trivial
 |bool=>intro _;rfl
 |int=>intro _;rfl
 |str=>intro _;rfl
 |raw=>intro _;rfl
 |_=>intro hp;simp[V.det] at hp
mutual
theorem Q15u{w:World}{fr:Nat→Prop}{m:Mp}: ∀{x:V},x.det=true→R w fr m (.one x x.toV) z0
 | .bool _,_=> .bool _
 | .int _ _,_=> .int _ _
 | .str _,_=> .str _
 | .raw v,h=> .raw v (by simpa[V.det] using h)
 | .agg xs,h=> .agg (det_RL (by simpa[V.det] using h))
 | .tup xs,h=> .tup (det_RL (by simpa[V.det] using h))
theorem det_RL{w:World}{fr:Nat→Prop}{m:Mp}: ∀{xs:List V},detL xs=true→R w fr m (.list xs (toVL xs)) z0
 |[],_=> .lnil
 |x::xs,h=>by
  simp only[detL,Bool.and_eq_true] at h
  exact .lcons (Q15u h.1) (det_RL h.2) (fun _=>rfl)
end
section
variable {P:Program} {X:Ctx} {T:Nat→Option TI} {ops:Array Oper} {rest l l':List Oper} {st s1 s2:St} {Q:Exit→St→Prop} {o:Oper}
def Q18(P:Program)(X:Ctx)(ops:Array Oper)(l:List Oper)(st s1:St):Prop:=
 s1.ob=st.ob∧ ∀(w:World) (m:Mp) (cn:Nat→Cnt) (a:Act) (rest:List Oper) (Qf:Act→Prop),Inv X w st.ob m cn→Sl X w m cn st.tm a→a.defers=[]→
  (∀a',Sl X w m cn s1.tm a'→a'.defers=[]→wpQuiet P ops (cls X st.ob m cn w) Qf rest a')→wpQuiet P ops (cls X st.ob m cn w) Qf (l++rest) a
theorem Q18.nil:Q18 P X ops [] st st:=⟨rfl,fun _ _ _ a _ _ _ hs hd h=>h a hs hd⟩
theorem Q3n{a:Act}(d:Option Tmp)(u:Value)(hd:a.defers=[]):(a.put d u).defers=[]:=by cases d<;>simpa[Act.put] using hd
theorem Q18.value{x:V}{l:List Oper}(hg:gd ops st o.guard=some true)(hv: ∀w m cn a,Inv X w st.ob m cn→Sl X w m cn st.tm a→ ∃u,(∀w',cls X st.ob m cn w w'→o.quietAt P a (cls X st.ob m cn w) w' u)∧R w (frz X cn) m (.one x u) z0)
  (hk:Q18 P X ops l ⟨Q2l o.dst x st.tm,st.ob⟩ s1):Q18 P X ops (o::l) st s1:=by
 refine ⟨hk.1,fun w m cn a rest Qf hi hs hd h=> ?_⟩
 obtain ⟨u,h1,h2⟩:=hv w m cn a hi hs
 show if Region.wanted o (yielded ops a.tmps) then o.quiet P a _ _ else _
 rw[Q62 hs hg,if_pos rfl]
 have hs2:Sl X w m cn (Q2l o.dst x st.tm) (a.put o.dst u):=by
  have:=hs.set o.dst h2
  cases ho:o.dst<;>simpa[Q2l,ho] using this
 exact ⟨u,h1,hk.2 w m cn _ rest Qf hi hs2 (Q3n _ _ hd) h⟩
theorem Q18.op{x:V}{l:List Oper}{L:List Nat}(h:OKp P X L st o x)(hg:gd ops st o.guard=some true)(hk:Q18 P X ops l ⟨Q2l o.dst x st.tm,st.ob⟩ s1):Q18 P X ops (o::l) st s1:=
 Q18.value hg (fun w m cn a hi hs=>by
  obtain ⟨u,hu,hR⟩:=h w m cn a hi hs
  exact ⟨u,fun w' hw'=>by unfold Oper.quietAt;rw[hu w' (.of_kp hw'.1)];exact ⟨rfl,rfl⟩,hR⟩) hk
theorem Q18.skip{l:List Oper}(hg:gd ops st o.guard=some false)(hk:Q18 P X ops l ⟨Q2l o.dst (.tup []) st.tm,st.ob⟩ s1):Q18 P X ops (o::l) st s1:=by
 refine ⟨hk.1,fun w m cn a rest Qf hi hs hd h=> ?_⟩
 show if Region.wanted o (yielded ops a.tmps) then o.quiet P a _ _ else _
 rw[Q62 hs hg,if_neg Z3]
 have hs2:Sl X w m cn (Q2l o.dst (.tup []) st.tm) (a.put o.dst undef):=by
  have:=hs.set o.dst (x:= .tup []) (u:=undef) (.tup .lnil)
  cases ho:o.dst<;>simpa[Q2l,ho] using this
 exact hk.2 w m cn _ rest Qf hi hs2 (Q3n _ _ hd) h
def Qp4(T:Nat→Option TI)(n0:Nat)(ops:Array Oper):List Oper→St→Option St
 |[],st=>some st
 |o::rest,st=>match gd ops st o.guard with
  |some true=>if Qa1 o.op=true then (match opB T n0 st o.op with
   |some (x,_)=>Qp4 T n0 ops rest ⟨Q2l o.dst x st.tm,st.ob⟩
   |none=>none) else none
  |some false=>Qp4 T n0 ops rest ⟨Q2l o.dst (.tup []) st.tm,st.ob⟩
  |none=>none
theorem Q18.run(hT:TOK P T){n0:Nat}: ∀{l:List Oper} {st st':St},Qp4 T n0 ops l st=some st'→Q18 P X ops l st st'
 |[],st,st',h=>by simp only[Qp4] at h;cases h;exact Q18.nil
 |o::l,st,st',h=>by
  simp only[Qp4] at h
  split at h
  ·rename_i hg
   split at h
   ·rename_i hp
    split at h
    ·rename_i x st2 hx
     exact Q18.op (Qi7 (L:=allL o.op st) hT hx hp (Quv o.op st)).1 hg (Q18.run hT h)
    ·cases h
   ·cases h
  ·rename_i hg
   exact Q18.skip hg (Q18.run hT h)
  ·cases h
theorem Q18.trans(k:Nat)(h1:Q18 P X ops (l.take k) st s1)(h2:Q18 P X ops (l.drop k) s1 s2):Q18 P X ops l st s2:=by
 obtain ⟨e1,h1⟩:=h1
 obtain ⟨e2,h2⟩:=h2
 refine ⟨e2.trans e1,fun w m cn a rest Qf hi hs hd h=> ?_⟩
 have:=h1 w m cn a (l.drop k++rest) Qf hi hs hd (fun a' hs' hd'=>by
  have:=h2 w m cn a' rest Qf (by rw[e1];exact hi) hs' hd'
  rw[e1] at this
  exact this h)
 rwa [←List.append_assoc,List.take_append_drop] at this
theorem Q18.step(k:Nat)(hT:TOK P T){n0:Nat}(h1:Qp4 T n0 ops (l.take k) st=some s1)(h2:Q18 P X ops (l.drop k) s1 s2):Q18 P X ops l st s2:=
 Q18.trans k (Q18.run hT h1) h2
theorem Q18.call{fo:Operand}{as:Array Operand}{ts:Array TypeId}{f:FuncId}{first cap args':List V}{r:V}
  (ho:o.op= .call {callee:= .value fo,args:=as,argTypes:=ts}) (hg:gd ops st o.guard=some true) (hf:val st fo= .clo (.func f) first cap)
  (ha:borL st.ob (first++as.toList.map (val st)++cap)=args')
  (hct:Ct P f args' [] r []) (hF:Q6 P f) (hdet:r.det=true) (hk:Q18 P X ops rest ⟨Q2l o.dst r st.tm,st.ob⟩ s1):Q18 P X ops (o::rest) st s1:=by
 subst ha
 refine Q18.value hg (fun w0 m cn a hi0 hs0=>⟨r.toV,fun w hw=> ?_,?_⟩) hk
 ·obtain ⟨hkp,hi⟩:=hw
  have hs:Sl X w m cn st.tm a:=(Ext.kp hi0 hkp).Sl hs0
  have hfv:=Q14 hs fo
  rw[hf] at hfv
  obtain ⟨us1,vs1,he,hfirst,hcap⟩: ∃us1 vs1,a.eval fo= .func (.func f) (List.toArray us1) (List.toArray vs1)∧R w (frz X cn) m (.list first us1) z0∧R w (frz X cn) m (.list cap vs1) z0:=by
   generalize a.eval fo=u at hfv
   generalize hz:z0=c at hfv
   cases hfv with
   |clo h1 h2 he=>
    subst hz
    exact ⟨_,_,rfl,h1.zero fun z=>by have:=he z;simp[z0] at this;omega,h2.zero fun z=>by have:=he z;simp[z0] at this;omega⟩
  have hargs: ∀l:List Operand,R w (frz X cn) m (.list (l.map (val st)) (l.map a.eval)) z0:=by
   intro l
   induction l with
   |nil=>exact .lnil
   |cons x l ih=>exact .lcons (Q14 hs x) ih (fun _=>rfl)
  have hall:=((hfirst.ljoin (hargs as.toList)).ljoin hcap).zero fun z=>by simp[z0]
  let C:Ctx:=⟨w,fun b=>b<w.heap.size,fun b=> ∃id,0<((fun _=>z0):Nat→Cnt) id b,Q1e,([]:List Ob).length⟩
  have hCinv:Inv C w [] Q1e (fun _=>z0):=by
   refine ⟨Nat.le_refl _,fun _ _ _=>rfl,rfl,rfl,rfl,fun i o ho=>by simp at ho,fun b i j h=>absurd h Z2z,fun i b=>by simp[z0],fun i b h=>absurd h Z2z,fun i h=>rfl,fun i h=>rfl,fun i x h=>by simp[Q1e] at h,Nat.le_refl _,fun _ _=>rfl⟩
  have hCR:R w (frz C (fun _=>z0)) Q1e (.list (borL st.ob (first++as.toList.map (val st)++cap)) (us1++as.toList.map a.eval++vs1)) z0:=
   Qmj hi (fr':=frz C (fun _=>z0)) (fun b hb=>⟨.inl hb,fun _=>rfl⟩) hall (fun _=>rfl) (fun y _ u c h hc=>borR hi (fun b hb=>⟨.inl hb,fun _=>rfl⟩) _ rfl h hc)
  have hcall:=hct w (fun b=>b<w.heap.size) Q1e (fun _=>z0) (us1++as.toList.map a.eval++vs1) (fun b hb=>⟨hb,fun _=>rfl⟩) hCinv hCR
  have hrun:(execOp a.eval o).run P w= .ok (.enter f (us1++as.toList.map a.eval++vs1).toArray) w:=by
   simp only[execOp,ho,resolve,Deferred.ofValue,he,Sem.run_bind,Sem.run_pure,Result.andThen_ok,invoke]
   rw[Q6r hF]
   congr 2
   apply Array.ext'
   simp
  unfold Oper.quietAt
  rw[hrun]
  refine ⟨rfl,Calls.mono hcall ?_⟩
  rintro e w' ⟨u,mc,cnc,d,rfl,h1,h2,h3,n,h4,h5⟩
  have hu:u=r.toV:=R.det h2 hdet
  subst hu
  have hkp2:Kp w w':=⟨h1.le,fun b hb=>h1.kept b hb (fun ⟨id,hid⟩=>absurd hid Z2z)⟩
  exact ⟨rfl,hkp.trans hkp2,hi.kp hkp2 h1.os h1.tape h1.output⟩
 ·exact Q15u hdet
theorem Q100{id:Nat}(hm:P.follows .mixedOrders=true)(hB:Region.lexB .any ops=true)(h:Q18 P X ops ops.toList st s1)(hq:Q .normal s1):W P X (.region id ops true) st Q:=by
 intro w m cn a hi hs hd
 obtain ⟨e,h⟩:=h
 refine wp_region_quiet (C:=cls X st.ob m cn {w with drawn:=w.drawn+1}) hm hB ⟨Kp.refl _,hi.drew⟩ ?_
 have:=h {w with drawn:=w.drawn+1} m cn a [] (fun a'=> ∀w',cls X st.ob m cn {w with drawn:=w.drawn+1} w'→post X Q .normal a' w') hi.drew (Ext.drew.Sl hs) hd
  (fun a' hs' hd' w' hw'=>⟨s1,m,cn,hq,by rw[e];exact hw'.2,(Ext.kp hi.drew hw'.1).Sl hs',hd'⟩)
 simpa using this
theorem Q172{id:Nat}{y:Code}(hm:P.follows .mixedOrders=true)(hB:Region.lexB .any ops=true)(h:Q18 P X ops ops.toList st s1)(hk:W P X y s1 Q):W P X (.seq (.region id ops true) y) st Q:=
 Q4 (Q100 hm hB h hk)
theorem Q18.mrg(k d:Nat){b:Bool}{s0:St}(hd:st.tm[d]? =some (.bool b))
  (h1:b=true→Q18 P X ops (l.take k) ⟨st.tm.set d (.bool true),st.ob⟩ s1) (h0:b=false→Q18 P X ops (l.take k) ⟨st.tm.set d (.bool false),st.ob⟩ s0)
  (hl:s1.tm.length=s0.tm.length) (hk:Q18 P X ops (l.drop k) ⟨(St.mrg b s1 s0).tm,st.ob⟩ s2):Q18 P X ops l st s2:=by
 refine Q18.trans k ?_ hk
 have hset: ∀c:Bool,b=c→(⟨st.tm.set d (.bool c),st.ob⟩:St)=st:=fun c hc=>by
  subst hc
  rw[Qcv hd]
 cases b with
 |true=>
  have:=h1 rfl
  rw[hset true rfl] at this
  have e:(⟨(St.mrg true s1 s0).tm,st.ob⟩:St)=s1:=by
   rw[Qwx hl,←this.1]
  rw[e];exact this
 |false=>
  have:=h0 rfl
  rw[hset false rfl] at this
  have e:(⟨(St.mrg false s1 s0).tm,st.ob⟩:St)=s0:=by
   have e2:(St.mrg false s1 s0).tm=s0.tm:=by
    have:=congrArg St.tm (Qts (s1:=⟨s1.tm,s0.ob⟩) (s0:=s0) hl rfl)
    exact this
   rw[e2,←this.1]
  rw[e];exact this
def Qui(P:Program)(X:Ctx)(ops:Array Oper)(l:List Oper)(st s1:St):Prop:=
 s1.ob=st.ob∧ ∀(w:World) (m:Mp) (cn:Nat→Cnt) (a:Act) (Qf:Act→Prop),Inv X w st.ob m cn→Sl X w m cn st.tm a→a.defers=[]→
  (∀a',Sl X w m cn s1.tm a'→a'.defers=[]→Qf a')→wpStill P ops w Qf l a
theorem Qui.run(hT:TOK P T){n0:Nat}: ∀{l:List Oper} {st st':St},Qp4 T n0 ops l st=some st'→Qui P X ops l st st'
 |[],st,st',h=>by simp only[Qp4] at h;cases h;exact ⟨rfl,fun _ _ _ a _ _ hs hd h=>h a hs hd⟩
 |o::l,st,st',h=>by
  simp only[Qp4] at h
  split at h
  ·rename_i hg
   split at h
   ·rename_i hp
    split at h
    ·rename_i x st2 hx
     obtain ⟨e,hk⟩:=Qui.run hT h
     refine ⟨e,fun w m cn a Qf hi hs hd h=> ?_⟩
     obtain ⟨u,hu,hR⟩:=(Qi7 (L:=allL o.op st) hT hx hp (Quv o.op st)).1 w m cn a hi hs
     show if Region.wanted o (yielded ops a.tmps) then o.still P a w _ else _
     rw[Q62 hs hg,if_pos rfl]
     have hs2:Sl X w m cn (Q2l o.dst x st.tm) (a.put o.dst u):=by
      have:=hs.set o.dst hR
      cases ho:o.dst<;>simpa[Q2l,ho] using this
     unfold Oper.still
     rw[hu w (Kr.refl w)]
     exact ⟨rfl,hk w m cn _ Qf hi hs2 (Q3n _ _ hd) h⟩
    ·cases h
   ·cases h
  ·rename_i hg
   obtain ⟨e,hk⟩:=Qui.run hT h
   refine ⟨e,fun w m cn a Qf hi hs hd h=> ?_⟩
   show if Region.wanted o (yielded ops a.tmps) then o.still P a w _ else _
   rw[Q62 hs hg,if_neg Z3]
   have hs2:Sl X w m cn (Q2l o.dst (.tup []) st.tm) (a.put o.dst undef):=by
    have:=hs.set o.dst (x:= .tup []) (u:=undef) (.tup .lnil)
    cases ho:o.dst<;>simpa[Q2l,ho] using this
   exact hk w m cn _ Qf hi hs2 (Q3n _ _ hd) h
  ·cases h
end
end Go.Ev
namespace Go.Ev
open Go
section
variable {X:Ctx} {w:World} {ob:List Ob} {m:Mp} {cn:Nat→Cnt}
theorem Ext.put(hi:Inv X w ob m cn){p N:Nat}{d:Cnt}(hN:ob.length≤N)(hd: ∀z,d z≤cn N z)
  {cn':Nat→Cnt} (hcn:cn'=upd (upd cn N (fun z=>cn N z-d z)) p (fun z=>cn p z+d z)) (hlt:p<ob.length):Ext X w m cn w m cn':=by
 have hpN:p≠N:=by omega
 have e1:cn' p=fun z=>cn p z+d z:=by rw[hcn];exact Q1h _ _ _
 have e2:cn' N=fun z=>cn N z-d z:=by rw[hcn,Qu _ _ (Ne.symm hpN),Q1h]
 have e3: ∀i,i≠p→i≠N→cn' i=cn i:=fun i h1 h2=>by rw[hcn,Qu _ _ h1,Qu _ _ h2]
 have hpos: ∀i z,0<cn' i z→(i=p∧0<d z∧0<cn N z)∨(0<cn i z∧(i=N→d z=0)):=by
  intro i z h
  by_cases h1:i=p
  ·subst h1
   rw[e1] at h
   have h:0<cn i z+d z:=h
   rcases Nat.eq_zero_or_pos (d z) with h0|h0
   ·exact .inr ⟨by omega,fun e=>absurd e hpN⟩
   ·exact .inl ⟨rfl,h0,by have:=hd z;omega⟩
  ·by_cases h2:i=N
   ·subst h2
    rw[e2] at h
    have h:0<cn i z-d z:=h
    have:=hi.one i z
    exact .inr ⟨by omega,fun _=>by omega⟩
   ·rw[e3 i h1 h2] at h;exact .inr ⟨h,fun e=>absurd e h2⟩
 refine ⟨Nat.le_refl _,fun b _ hf=>⟨⟨hf.1,fun i=> ?_⟩,rfl⟩,fun _ _ h=>⟨h,rfl⟩⟩
 rcases Nat.eq_zero_or_pos (cn' i b) with h|h
 ·exact h
 ·rcases hpos i b h with ⟨_,_,h⟩|⟨h,_⟩
  ·have:=hf.2 N;omega
  ·have:=hf.2 i;omega
theorem Inv.put(hi:Inv X w ob m cn){p N k:Nat}{xs ys:List V}{d:Cnt}(hN:ob.length≤N)(hp:ob[p]? =some (some (k,xs)))(hd: ∀z,d z≤cn N z)
  {cn':Nat→Cnt} (hcn:cn'=upd (upd cn N (fun z=>cn N z-d z)) p (fun z=>cn p z+d z)) (hnew:Qgh w (frz X cn') m (fun z=>cn p z+d z) p (some (k,ys))):
  Inv X w (ob.set p (some (k,ys))) m cn'∧Ext X w m cn w m cn':=by
 have hlt:=(List.getElem?_eq_some_iff.1 hp).1
 have hpN:p≠N:=by omega
 have e1:cn' p=fun z=>cn p z+d z:=by rw[hcn];exact Q1h _ _ _
 have e2:cn' N=fun z=>cn N z-d z:=by rw[hcn,Qu _ _ (Ne.symm hpN),Q1h]
 have e3: ∀i,i≠p→i≠N→cn' i=cn i:=fun i h1 h2=>by rw[hcn,Qu _ _ h1,Qu _ _ h2]
 have hpos: ∀i z,0<cn' i z→(i=p∧0<d z∧0<cn N z)∨(0<cn i z∧(i=N→d z=0)):=by
  intro i z h
  by_cases h1:i=p
  ·subst h1
   rw[e1] at h
   have h:0<cn i z+d z:=h
   rcases Nat.eq_zero_or_pos (d z) with h0|h0
   ·exact .inr ⟨by omega,fun e=>absurd e hpN⟩
   ·exact .inl ⟨rfl,h0,by have:=hd z;omega⟩
  ·by_cases h2:i=N
   ·subst h2
    rw[e2] at h
    have h:0<cn i z-d z:=h
    have:=hi.one i z
    exact .inr ⟨by omega,fun _=>by omega⟩
   ·rw[e3 i h1 h2] at h;exact .inr ⟨h,fun e=>absurd e h2⟩
 have hext:Ext X w m cn w m cn':=by
  refine ⟨Nat.le_refl _,fun b _ hf=>⟨⟨hf.1,fun i=> ?_⟩,rfl⟩,fun _ _ h=>⟨h,rfl⟩⟩
  rcases Nat.eq_zero_or_pos (cn' i b) with h|h
  ·exact h
  ·rcases hpos i b h with ⟨_,_,h⟩|⟨h,_⟩
   ·have:=hf.2 N;omega
   ·have:=hf.2 i;omega
 refine ⟨⟨hi.le,hi.kept,hi.os,hi.tape,hi.output,fun i o ho=> ?_,fun b i j h1 h2=> ?_,fun i b=> ?_,fun i b h=> ?_,fun i h=>hi.fresh i Z49,hi.pas,hi.mlt,by simpa using hi.n0,hi.shp⟩,hext⟩
 ·by_cases h:i=p
  ·subst h
   rw[List.getElem?_set_self hlt] at ho
   cases ho
   rw[e1]
   exact hnew
  ·rw[List.getElem?_set_ne (Ne.symm h)] at ho
   have:=(List.getElem?_eq_some_iff.1 ho).1
   exact (hi.obj i o ho).ext hext (e3 i h Zb) rfl (fun _ _=>rfl)
 ·rcases hpos i b h1 with ⟨rfl,a1,a2⟩|⟨a1,a2⟩<;>rcases hpos j b h2 with ⟨rfl,b1,b2⟩|⟨b1,b2⟩
  ·rfl
  ·have:=hi.dis b N j a2 b1
   have:=b2 this.symm
   omega
  ·have:=hi.dis b N i b2 a1
   have:=a2 this.symm
   omega
  ·exact hi.dis b i j a1 b1
 ·by_cases h1:i=p
  ·subst h1
   rw[e1]
   show cn i b+d b≤1
   have a1:=hi.one i b
   have a2:=hi.one N b
   have a3:=hd b
   rcases Nat.eq_zero_or_pos (d b) with h|h
   ·omega
   ·rcases Nat.eq_zero_or_pos (cn i b) with h'|h'
    ·omega
    ·exact absurd (hi.dis b i N h' Zb) hpN
  ·by_cases h2:i=N
   ·subst h2;rw[e2];have:=hi.one i b;show cn i b-d b≤1;omega
   ·rw[e3 i h1 h2];exact hi.one i b
 ·rcases hpos i b h with ⟨rfl,_,h⟩|⟨h,_⟩
  ·exact hi.new N b h
  ·exact hi.new i b h
def St.absorb(p e j:Nat)(s:St):Option St:=
 match s.ob[p]? with
 |some (some (kp,xs))=>match (xs.getD e .junk).cells[j]? with
  |some (.arr id 0 n)=>match s.ob[id]? with
   |some (some (k,ys))=>if e<xs.length∧p≠id∧n≤ys.length∧pureL ys=true then
     some ⟨s.tm,(s.ob.set id none).set p (some (kp,xs.set e (Qe6 (xs.getD e .junk) j [.lst true k (ys.take n)])))⟩ else none
   |_=>none
  |_=>none
 |_=>none
theorem Le.absorb(p e j:Nat){s s':St}(h:s.absorb p e j=some s'):Le X s s':=by
 unfold St.absorb at h
 split at h
 ·rename_i kp xs hp
  split at h
  ·rename_i id n hcell
   split at h
   ·rename_i k ys hid
    split at h
    ·rename_i hc
     obtain ⟨he,hne,hn,hpure⟩:=hc
     cases h
     intro w m cn a hi hs
     have hplt:=(List.getElem?_eq_some_iff.1 hp).1
     have hidlt:=(List.getElem?_eq_some_iff.1 hid).1
     obtain ⟨b,hm⟩: ∃b,m p=some (b,kp):=by
      rcases hi.obj p _ hp with ⟨h0,_,_⟩|⟨b,_,_,_,h1,_⟩
      ·rw[h0] at he;simp at he
      ·exact ⟨b,h1⟩
     obtain ⟨_,cur,el,c,hb,hk,hl,hR,hcn⟩:=hi.object hp hm
     have hE:=Qg7 hk he
     have hjl:j<(xs.getD e .junk).cells.length:=(List.getElem?_eq_some_iff.1 hcell).1
     have hvc:Q2q [V.lst true k (ys.take n)]=true:=by simp[Q2q,V.cellOK]
     have hcells:=Qe5 (e:=xs.getD e .junk) (j:=j) (vc:=[V.lst true k (ys.take n)]) Z8z hvc Z3
     have hflat:=Ql8 hk he hcells Z8z
     have hk2:uni kp (xs.set e (Qe6 (xs.getD e .junk) j [V.lst true k (ys.take n)])):=by
      intro x hx
      rcases List.mem_or_eq_of_mem_set hx with h|h
      ·exact hk x h
      ·rw[h,hcells,List.length_append,List.length_append,List.length_take,List.length_drop];show min j _+1+(_-(j+1))=_;omega
     have hfl:=Q33 hk
     have hq:e*kp+j<(Q1y xs).length:=by
      rw[hfl]
      have:(e+1)*kp≤xs.length*kp:=Nat.mul_le_mul_right kp he
      rw[Nat.add_mul] at this;omega
     have hat:(Q1y xs)[e*kp+j]? =some (.arr id 0 n):=by
      rw[Qef he,List.append_assoc,List.getElem?_append_right Z8i,Q2f hk (Nat.le_of_lt he),
       show e*kp+j-e*kp=j from by omega,List.getElem?_append_left hjl]
      exact hcell
     have hsp:Q1y xs=(Q1y xs).take (e*kp+j)++([V.arr id 0 n]++(Q1y xs).drop (e*kp+j+1)):=by
      conv=>lhs;rw[←List.take_append_drop (e*kp+j) (Q1y xs)]
      rw[List.drop_eq_getElem_cons hq]
      have:(Q1y xs)[e*kp+j]= .arr id 0 n:=by
       have:=List.getElem?_eq_getElem hq
       rw[hat] at this
       exact (Option.some.inj this).symm
      rw[this];rfl
     have hAl:((Q1y xs).take (e*kp+j)).length=e*kp+j:=by rw[List.length_take];omega
     have hN:s.ob.length≤s.ob.length:=Nat.le_refl _
     have hneN:id≠s.ob.length:=by omega
     have hRs:=hR
     rw[hsp] at hRs
     obtain ⟨d1,d2,hA,hBC,hd12⟩:=R.split hRs
     rw[hAl,Nat.zero_add] at hBC
     generalize hz:d2=d2' at hBC
     cases hBC with
     | @ccons _ _ _ _ _ u cB cC _ hcu hone hB hC hd2=>
      have hcB: ∀z,cB z=0:=R.free0 hB rfl
      obtain ⟨d,hT1,hT2⟩:=Qw9 hi hid hn hpure hN (hB.zero hcB)
      have hg:=hi.give hN hidlt
      have hp':(s.ob.set id none)[p]? =some (some (kp,xs)):=by rw[List.getElem?_set_ne (Ne.symm hne)];exact hp
      have hgp:Ev.give cn id s.ob.length p=cn p:=Q99 cn hne Zb
      have hput:=hg.put (p:=p) (N:=s.ob.length) (ys:=xs.set e (Qe6 (xs.getD e .junk) j [V.lst true k (ys.take n)])) (d:=d) Z3 hp' (fun z=>by have:=hT2 z;omega) rfl ?_
      ·exact ⟨m,_,hput.1,hput.2.Sl ((Ext.give hneN).Sl hs)⟩
      ·have hx1:Ext X w m cn w m (Ev.give cn id s.ob.length):=Ext.give hneN
       have hx2:=Ext.put (X:=X) hg (p:=p) (N:=s.ob.length) (d:=d) Z3 (fun z=>by have:=hT2 z;omega) rfl (by simpa using hplt)
       have tr1: ∀{ys:List V} {off:Nat} {c:Cnt},R w (frz X cn) m (.cells b off ys) c→R w (frz X (upd (upd (Ev.give cn id s.ob.length) s.ob.length (fun z=>Ev.give cn id s.ob.length s.ob.length z-d z)) p (fun z=>Ev.give cn id s.ob.length p z+d z))) m (.cells b off ys) c:=
        fun h=>h.mono (Nat.le_refl _) (fun b hb hf=>⟨(hx2.fr b hb (hx1.fr b hb hf).1).1,rfl⟩) (fun _ _=>rfl) (.inr rfl) (fun _ _ h=>⟨h,rfl⟩)
       have hT3:=hT1.mono (fr':=frz X (upd (upd (Ev.give cn id s.ob.length) s.ob.length (fun z=>Ev.give cn id s.ob.length s.ob.length z-d z)) p (fun z=>Ev.give cn id s.ob.length p z+d z))) (m':=m)
        (Nat.le_refl _) hx2.fr (fun _ _=>rfl) trivial (fun _ _ h=>⟨h,rfl⟩)
       refine .inr ⟨b,cur,el,fun z=>d1 z+(d z+cC z),hm,hb,hk2,by rw[List.length_set];exact hl,?_,fun z=> ?_⟩
       ·rw[hflat,List.append_assoc]
        refine R.join (c1:=d1) (c2:=fun z=>d z+cC z) (tr1 hA) ?_
        rw[hAl,Nat.zero_add]
        exact .ccons hcu hone hT3 (tr1 hC) (fun _=>rfl)
       ·have q1:=hcn z
        have q2:=hd12 z
        have q3:=hd2 z
        have q4:=hcB z
        have q5:=congrFun hgp z
        rw[hz] at q2
        simp only
        omega
    ·cases h
   ·cases h
  ·cases h
 ·cases h
end
end Go.Ev
namespace Go.Ev
open Go
def Qr4{α:Type}(b:Bool):List α→List α→List α
 |x::xs,y::ys=>(bif b then x else y)::Qr4 b xs ys
 |xs,ys=>bif b then xs else ys
def St.mrg2(b:Bool)(s1 s0:St):St:=⟨Qr4 b s1.tm s0.tm,Qr4 b s1.ob s0.ob⟩
theorem Qd5{α:Type}: ∀(l1 l2:List α),Qr4 true l1 l2=l1
 |[],[]=>rfl
 |[],_::_=>rfl
 |_::_,[]=>rfl
 |x::xs,y::ys=>by simp only[Qr4,cond_true,Qd5 xs ys]
theorem Qb1{α:Type}: ∀(l1 l2:List α),Qr4 false l1 l2=l2
 |[],[]=>rfl
 |[],_::_=>rfl
 |_::_,[]=>rfl
 |x::xs,y::ys=>by simp only[Qr4,cond_false,Qb1 xs ys]
theorem Qtt{s1 s0:St}:St.mrg2 true s1 s0=s1:=by
 unfold St.mrg2
 rw[Qd5,Qd5]
theorem Qr5{s1 s0:St}:St.mrg2 false s1 s0=s0:=by
 unfold St.mrg2
 rw[Qb1,Qb1]
section
variable {P:Program} {X:Ctx} {T:Nat→Option TI} {ops:Array Oper} {l:List Oper} {st s1 s2:St} {Q:Exit→St→Prop}
theorem Q8.weak{s3:St}(h:Q8 P X ops l st s1)(hl:Le X s1 s3):Q8 P X ops l st s3:=fun rest Q hk=>h rest Q (Q13q hl hk)
theorem Q8.mrgK(k d:Nat)(ks:List Nat){b:Bool}{s0:St}(hd:st.tm[d]? =some (.bool b))
  (h1:b=true→Q8 P X ops (l.take k) ⟨st.tm.set d (.bool true),st.ob⟩ s1) (h0:b=false→Q8 P X ops (l.take k) ⟨st.tm.set d (.bool false),st.ob⟩ s0)
  (hk:Q8 P X ops (l.drop k) (St.mrg2 b (s1.keep ks) (s0.keep ks)) s2):Q8 P X ops l st s2:=by
 refine Q8.trans k ?_ hk
 have hset: ∀c:Bool,b=c→(⟨st.tm.set d (.bool c),st.ob⟩:St)=st:=fun c hc=>by
  subst hc
  rw[Qcv hd]
 cases b with
 |true=>rw[Qtt];have:=h1 rfl;rw[hset true rfl] at this;exact this.weak (Le.keep ks s1)
 |false=>rw[Qr5];have:=h0 rfl;rw[hset false rfl] at this;exact this.weak (Le.keep ks s0)
theorem Q18.weak{ks:List Nat}(h:Q18 P X ops l st s1):Q18 P X ops l st (s1.keep ks):=
 ⟨h.1,fun w m cn a rest Qf hi hs hd hq=>h.2 w m cn a rest Qf hi hs hd fun a' hs' hd'=>hq a' (Qqc _ 0 ks _ hs') hd'⟩
theorem Q18.mrgK(k d:Nat)(ks:List Nat){b:Bool}{s0:St}(hd:st.tm[d]? =some (.bool b))
  (h1:b=true→Q18 P X ops (l.take k) ⟨st.tm.set d (.bool true),st.ob⟩ s1) (h0:b=false→Q18 P X ops (l.take k) ⟨st.tm.set d (.bool false),st.ob⟩ s0)
  (hk:Q18 P X ops (l.drop k) ⟨(St.mrg2 b (s1.keep ks) (s0.keep ks)).tm,st.ob⟩ s2):Q18 P X ops l st s2:=by
 refine Q18.trans k ?_ hk
 have hset: ∀c:Bool,b=c→(⟨st.tm.set d (.bool c),st.ob⟩:St)=st:=fun c hc=>by
  subst hc
  rw[Qcv hd]
 cases b with
 |true=>
  have:=(h1 rfl).weak (ks:=ks)
  rw[hset true rfl] at this
  have e:(⟨(St.mrg2 true (s1.keep ks) (s0.keep ks)).tm,st.ob⟩:St)=s1.keep ks:=by
   rw[Qtt,←this.1]
  rw[e];exact this
 |false=>
  have:=(h0 rfl).weak (ks:=ks)
  rw[hset false rfl] at this
  have e:(⟨(St.mrg2 false (s1.keep ks) (s0.keep ks)).tm,st.ob⟩:St)=s0.keep ks:=by
   rw[Qr5,←this.1]
  rw[e];exact this
theorem Q8.fin(h:st=s1):Q8 P X ops [] st s1:=h▸Q8.nil
theorem Q18.fin(h:st=s1):Q18 P X ops [] st s1:=h▸Q18.nil
theorem Q0{id:Nat}{y:Code}(ks:List Nat)(h:Q8 P X ops ops.toList st s1)(hk:W P X y (s1.keep ks) Q):W P X (.seq (.region id ops false) y) st Q:=
 Q171 h (Q15 (Le.keep ks s1) hk)
theorem Q15c{id:Nat}{y:Code}(ks:List Nat)(hm:P.follows .mixedOrders=true)(hB:Region.lexB .any ops=true)(h:Q18 P X ops ops.toList st s1)(hk:W P X y (s1.keep ks) Q):W P X (.seq (.region id ops true) y) st Q:=
 Q172 hm hB h (Q15 (Le.keep ks s1) hk)
end
@[simp] theorem cond_some {α:Type} (b:Bool) (x y:α):(bif b then some x else some y)=some (bif b then x else y):=by cases b<;>rfl
@[simp] theorem cond_obj (b:Bool) (k:Nat) (x y:List V):(bif b then (k,x) else (k,y))=(k,bif b then x else y):=by cases b<;>rfl
@[simp] theorem cond_vcons (b:Bool) (x y:V) (xs ys:List V):(bif b then x::xs else y::ys)=(bif b then x else y)::(bif b then xs else ys):=by cases b<;>rfl
@[simp] theorem cond_vagg2 (b:Bool) (xs ys:List V):(bif b then V.agg xs else V.agg ys)=V.agg (bif b then xs else ys):=by cases b<;>rfl
@[simp] theorem cond_vtup2 (b:Bool) (xs ys:List V):(bif b then V.tup xs else V.tup ys)=V.tup (bif b then xs else ys):=by cases b<;>rfl
@[simp] theorem cond_vptr (b:Bool) (i j k i' j' k':Nat):(bif b then V.ptr i j k else V.ptr i' j' k')=V.ptr (bif b then i else i') (bif b then j else j') (bif b then k else k'):=by cases b<;>rfl
@[simp] theorem cond_varr (b:Bool) (i j k i' j' k':Nat):(bif b then V.arr i j k else V.arr i' j' k')=V.arr (bif b then i else i') (bif b then j else j') (bif b then k else k'):=by cases b<;>rfl
@[simp] theorem cond_vclo (b:Bool) (f:Fn) (xs ys xs' ys':List V):(bif b then V.clo f xs ys else V.clo f xs' ys')=V.clo f (bif b then xs else xs') (bif b then ys else ys'):=by cases b<;>rfl
@[simp] theorem cond_vfp (b:Bool) (x y:List V):(bif b then V.fp x else V.fp y)=V.fp (bif b then x else y):=by cases b<;>rfl
end Go.Ev
namespace Go.Ev
open Go
section
variable {X:Ctx} {w:World} {ob:List Ob} {m:Mp} {cn:Nat→Cnt}
theorem Inv.freezeN(hi:Inv X w ob m cn){N:Nat}(hN:ob.length≤N){r:V}{u:Value}{d:Cnt}(hR:R w (frz X cn) m (.one r u) d)(hd: ∀z,d z≤cn N z)(hnew: ∀b,0<d b→X.w0.heap.size≤b):
  ∃cn2,Inv X w ob m cn2∧Ext X w m cn w m cn2∧R w (frz X cn2) m (.one r.fz u) z0:=by
 have hle: ∀i x,upd cn N (fun _=>0) i x≤cn i x:=by
  intro i x
  by_cases h:i=N
  ·subst h;rw[Q1h];exact Nat.zero_le _
  ·rw[Qu _ _ h];exact Nat.le_refl _
 have hext:Ext X w m cn w m (upd cn N (fun _=>0)):=
  ⟨Nat.le_refl _,fun x _ hf=>⟨⟨hf.1,fun i=>by have:=hle i x;have:=hf.2 i;omega⟩,rfl⟩,fun _ _ h=>⟨h,rfl⟩⟩
 refine ⟨upd cn N (fun _=>0),⟨hi.le,hi.kept,hi.os,hi.tape,hi.output,fun i o ho=> ?_,fun x i j h1 h2=>hi.dis x i j (Nat.lt_of_lt_of_le h1 (hle i x)) (Nat.lt_of_lt_of_le h2 (hle j x)),fun i x=>Nat.le_trans (hle i x) (hi.one i x),
  fun i x h=>hi.new i x (Nat.lt_of_lt_of_le h (hle i x)),hi.fresh,hi.pas,hi.mlt,hi.n0,hi.shp⟩,hext,?_⟩
 ·have:=(List.getElem?_eq_some_iff.1 ho).1
  exact (hi.obj i o ho).ext hext (Qu _ _ Zb) rfl (fun _ _=>rfl)
 ·refine R.fz (fun b hb h=>(hext.fr b hb h).1) hR (fun b hb hc=>⟨.inr (hnew b hc),fun i=> ?_⟩) m
  by_cases h:i=N
  ·subst h;rw[Q1h]
  ·rw[Qu _ _ h]
   rcases Nat.eq_zero_or_pos (cn i b) with h'|h'
   ·exact h'
   ·exact absurd (hi.dis b i N h' (Nat.lt_of_lt_of_le hc (hd b))) h
end
mutual
theorem Qda: ∀x:V,(x.mapId (Qcj [])).fz=x.fz
 | .junk=>rfl
 | .bool _=>rfl
 | .int _ _=>rfl
 | .str _=>rfl
 | .raw _=>rfl
 | .agg xs=>by simp only[V.mapId,V.fz,fz_mapIdL0 xs]
 | .tup xs=>by simp only[V.mapId,V.fz,fz_mapIdL0 xs]
 | .lst _ _ _=>rfl
 | .bx _ _=>rfl
 | .fp _=>rfl
 | .fmap _=>rfl
 | .ptr _ _ _=>rfl
 | .arr _ _ _=>rfl
 | .clo _ xs ys=>by simp only[V.mapId,V.fz,fz_mapIdL0 xs,fz_mapIdL0 ys]
 | .ifc _ x=>by simp only[V.mapId,V.fz,Qda x]
theorem fz_mapIdL0: ∀xs:List V,fzL (mapL (Qcj []) xs)=fzL xs
 |[]=>rfl
 |x::xs=>by simp only[mapL,fzL,Qda x,fz_mapIdL0 xs]
end
section
variable {P:Program} {X:Ctx} {T:Nat→Option TI} {ops:Array Oper} {rest l l':List Oper} {st s1 s2:St} {Q:Exit→St→Prop} {o:Oper}
theorem Q8.callF{fo:Operand}{as:Array Operand}{ts:Array TypeId}{f:FuncId}{first cap args':List V}{r:V}
  (ho:o.op= .call {callee:= .value fo,args:=as,argTypes:=ts}) (hg:gd ops st o.guard=some true) (hf:val st fo= .clo (.func f) first cap)
  (ha:mapL (gIn []) (first++as.toList.map (val st)++cap)=args')
  (hct:Ct P f args' [] r []) (hF:Q6 P f) (he:(⟨Q2l o.dst r.fz st.tm,st.ob⟩:St)=s1) (hk:Q8 P X ops rest s1 s2):Q8 P X ops (o::rest) st s2:=by
 subst ha;subst he
 intro rest' Q hq
 have hk:=hk rest' Q hq
 intro w m cn a hi hs hd
 refine wpList_step fun K hK=> ?_
 rw[Q62 hs hg,if_pos rfl]
 have hfv:=Q14 hs fo
 rw[hf] at hfv
 obtain ⟨us1,vs1,he,hfirst,hcap⟩: ∃us1 vs1,a.eval fo= .func (.func f) (List.toArray us1) (List.toArray vs1)∧R w (frz X cn) m (.list first us1) z0∧R w (frz X cn) m (.list cap vs1) z0:=by
  generalize a.eval fo=u at hfv
  generalize hz:z0=c at hfv
  cases hfv with
  |clo h1 h2 he=>
   subst hz
   exact ⟨_,_,rfl,h1.zero fun z=>by have:=he z;simp[z0] at this;omega,h2.zero fun z=>by have:=he z;simp[z0] at this;omega⟩
 have hargs: ∀l:List Operand,R w (frz X cn) m (.list (l.map (val st)) (l.map a.eval)) z0:=by
  intro l
  induction l with
  |nil=>exact .lnil
  |cons x l ih=>exact .lcons (Q14 hs x) ih (fun _=>rfl)
 have hall:=((hfirst.ljoin (hargs as.toList)).ljoin hcap).zero fun z=>by simp[z0]
 obtain ⟨hinv,hfr⟩:=Qex hi (ps:=[]) List.nodup_nil (fun id h=>by simp at h)
 have hR2:R w (frz (Q8y X w m cn []) (Qiy [] cn)) m (.list (first++as.toList.map (val st)++cap) (us1++as.toList.map a.eval++vs1)) z0:=
  hall.mono (Nat.le_refl _) (fun b hb hf=>⟨hfr b hb hf,rfl⟩) (fun _ _=>rfl) trivial (fun _ _ h=>⟨h,rfl⟩)
 have hR3:=R.mapId (g:=gIn []) (m':=fun q=>(([]:List Nat)[q]?).bind m) (fun id q hg=>by rw[Qrn hg];rfl) hR2
 have hcall:=hct w (fun b=>b<w.heap.size∧frz X cn b) (fun q=>(([]:List Nat)[q]?).bind m) (Qiy [] cn) (us1++as.toList.map a.eval++vs1)
  (fun b hb=>⟨hb.1,fun q=>by rw[Q5n rfl]⟩) hinv hR3
 unfold Oper.wp
 have hrun:(execOp a.eval o).run P w= .ok (.enter f (us1++as.toList.map a.eval++vs1).toArray) w:=by
  simp only[execOp,ho,resolve,Deferred.ofValue,he,Sem.run_bind,Sem.run_pure,Result.andThen_ok,invoke]
  rw[Q6r hF]
  congr 2
  apply Array.ext'
  simp
 rw[hrun]
 refine Calls.mono hcall ?_
 rintro e w' ⟨u,mc,cnc,d,rfl,h1,h2,h3,n,h4,h5⟩
 have hnewb: ∀b,0<d b→w.heap.size≤b:=by
  intro b hb
  obtain ⟨_,g2⟩:=h1.new n b (Nat.lt_of_lt_of_le hb (h5 b))
  rcases g2 with g2|⟨id,g2⟩
  ·exact g2
  ·rw[Q5n rfl] at g2;exact absurd g2 Z2z
 obtain ⟨a1,a2,a3,a4⟩:=Q7t hi (ps:=[]) List.nodup_nil (fun id h=>by simp at h) h1 h2 h3 h4 h5 (Nat.le_refl _)
 replace a1:Inv X w' st.ob m _:=a1
 obtain ⟨cn2,b1,b2,b3⟩:=a1.freezeN (Nat.le_refl _) a3 a4 (fun b hb=>Nat.le_trans hi.le (hnewb b hb))
 rw[Qda] at b3
 have hs2:Sl X w' m cn2 (Q2l o.dst r.fz st.tm) (a.put o.dst u):=by
  have:=(b2.Sl (a2.Sl hs)).set o.dst b3
  cases hod:o.dst<;>simpa[Q2l,hod] using this
 have hd2:(a.put o.dst u).defers=[]:=by cases hod:o.dst<;>simpa[Act.put] using hd
 exact hK _ _ (hk w' m cn2 _ b1 hs2 hd2)
theorem Q8.callBF{fo:Operand}{as:Array Operand}{ts:Array TypeId}{f:FuncId}{first cap args':List V}{r:V}
  (ho:o.op= .call {callee:= .value fo,args:=as,argTypes:=ts}) (hg:gd ops st o.guard=some true) (hf:val st fo= .clo (.func f) first cap)
  (ha:borL st.ob (first++as.toList.map (val st)++cap)=args')
  (hct:Ct P f args' [] r []) (hF:Q6 P f) (hsol:r.solid=true) (he:(⟨Q2l o.dst r.fz st.tm,st.ob⟩:St)=s1) (hk:Q8 P X ops rest s1 s2):Q8 P X ops (o::rest) st s2:=by
 subst ha;subst he
 intro rest' Q hq
 have hk:=hk rest' Q hq
 intro w m cn a hi hs hd
 refine wpList_step fun K hK=> ?_
 rw[Q62 hs hg,if_pos rfl]
 have hfv:=Q14 hs fo
 rw[hf] at hfv
 obtain ⟨us1,vs1,he,hfirst,hcap⟩: ∃us1 vs1,a.eval fo= .func (.func f) (List.toArray us1) (List.toArray vs1)∧R w (frz X cn) m (.list first us1) z0∧R w (frz X cn) m (.list cap vs1) z0:=by
  generalize a.eval fo=u at hfv
  generalize hz:z0=c at hfv
  cases hfv with
  |clo h1 h2 he=>
   subst hz
   exact ⟨_,_,rfl,h1.zero fun z=>by have:=he z;simp[z0] at this;omega,h2.zero fun z=>by have:=he z;simp[z0] at this;omega⟩
 have hargs: ∀l:List Operand,R w (frz X cn) m (.list (l.map (val st)) (l.map a.eval)) z0:=by
  intro l
  induction l with
  |nil=>exact .lnil
  |cons x l ih=>exact .lcons (Q14 hs x) ih (fun _=>rfl)
 have hall:=((hfirst.ljoin (hargs as.toList)).ljoin hcap).zero fun z=>by simp[z0]
 let C:Ctx:=⟨w,fun b=>b<w.heap.size,fun b=> ∃id,0<((fun _=>z0):Nat→Cnt) id b,Q1e,([]:List Ob).length⟩
 have hCinv:Inv C w [] Q1e (fun _=>z0):=by
  refine ⟨Nat.le_refl _,fun _ _ _=>rfl,rfl,rfl,rfl,fun i o ho=>by simp at ho,fun b i j h=>absurd h Z2z,fun i b=>by simp[z0],fun i b h=>absurd h Z2z,fun i h=>rfl,fun i h=>rfl,fun i x h=>by simp[Q1e] at h,Nat.le_refl _,fun _ _=>rfl⟩
 have hCR:R w (frz C (fun _=>z0)) Q1e (.list (borL st.ob (first++as.toList.map (val st)++cap)) (us1++as.toList.map a.eval++vs1)) z0:=
  Qmj hi (fr':=frz C (fun _=>z0)) (fun b hb=>⟨.inl hb,fun _=>rfl⟩) hall (fun _=>rfl) (fun y _ u c h hc=>borR hi (fun b hb=>⟨.inl hb,fun _=>rfl⟩) _ rfl h hc)
 have hcall:=hct w (fun b=>b<w.heap.size) Q1e (fun _=>z0) (us1++as.toList.map a.eval++vs1) (fun b hb=>⟨hb,fun _=>rfl⟩) hCinv hCR
 unfold Oper.wp
 have hrun:(execOp a.eval o).run P w= .ok (.enter f (us1++as.toList.map a.eval++vs1).toArray) w:=by
  simp only[execOp,ho,resolve,Deferred.ofValue,he,Sem.run_bind,Sem.run_pure,Result.andThen_ok,invoke]
  rw[Q6r hF]
  congr 2
  apply Array.ext'
  simp
 rw[hrun]
 refine Calls.mono hcall ?_
 rintro e w' ⟨u,mc,cnc,d,rfl,h1,h2,h3,n,h4,h5⟩
 have hnew: ∀i b,0<cnc i b→b<w'.heap.size∧w.heap.size≤b:=fun i b h=>by
  obtain ⟨g1,g2⟩:=h1.new i b h
  refine ⟨g1,?_⟩
  rcases g2 with g2|⟨id,g2⟩
  ·exact g2
  ·exact absurd g2 Z2z
 have h1':Inv (Q8y X w m cn []) w' [] mc cnc:=by
  refine ⟨h1.le,fun b hb hn=>h1.kept b hb (fun ⟨id,hid⟩=>absurd hid Z2z),h1.os,h1.tape,h1.output,fun i o ho=>by simp at ho,h1.dis,h1.one,fun i b h=>⟨(hnew i b h).1,.inl (hnew i b h).2⟩,h1.fresh,fun i hi=>by simp[Q8y] at hi,h1.mlt,Nat.le_refl _,h1.shp⟩
 have h2':R w' (frz (Q8y X w m cn []) cnc) mc (.one r u) d:=R.solid h2 hsol mc
 obtain ⟨a1,a2,a3,a4⟩:=Q7t hi List.nodup_nil (fun id h=>by simp at h) h1' h2' rfl (Nat.zero_le n) h5 (Nat.le_refl _)
 rw[Q9n _ r hsol] at a3
 replace a1:Inv X w' st.ob m _:=a1
 obtain ⟨cn2,b1,b2,b3⟩:=a1.freezeN (Nat.le_refl _) a3 a4 (fun b hb=>Nat.le_trans hi.le (hnew n b (Nat.lt_of_lt_of_le hb (h5 b))).2)
 have hs2:Sl X w' m cn2 (Q2l o.dst r.fz st.tm) (a.put o.dst u):=by
  have:=(b2.Sl (a2.Sl hs)).set o.dst b3
  cases hod:o.dst<;>simpa[Q2l,hod] using this
 have hd2:(a.put o.dst u).defers=[]:=by cases hod:o.dst<;>simpa[Act.put] using hd
 exact hK _ _ (hk w' m cn2 _ b1 hs2 hd2)
end
def WkL(xs ys:List V):Prop:= ∀(w:World) (fr:Nat→Prop) (m:Mp) (us:List Value) (d:Cnt),R w fr m (.list xs us) d→R w fr m (.list ys us) d
theorem WkL.nil:WkL [] []:=fun _ _ _ _ _ h=>h
theorem WkL.cons{x y:V}{xs ys:List V}(h1:Wk x y)(h2:WkL xs ys):WkL (x::xs) (y::ys):=fun w fr m us d h=>by
 cases h with
 |lcons a b e=>exact .lcons (h1 _ _ _ _ _ a) (h2 _ _ _ _ _ b) e
theorem Wk.agg{xs ys:List V}(h:WkL xs ys):Wk (.agg xs) (.agg ys):=fun w fr m u d hR=>by
 obtain ⟨us,rfl,hl⟩:=R.inv_agg hR
 exact .agg (h _ _ _ _ _ hl)
theorem Wk.tup{xs ys:List V}(h:WkL xs ys):Wk (.tup xs) (.tup ys):=fun w fr m u d hR=>by
 obtain ⟨us,rfl,hl⟩:=R.inv_tup hR
 exact .tup (h _ _ _ _ _ hl)
theorem Wk.nilSlice(o:Bool)(k:Nat):Wk (.raw (.slice none 0 0)) (.lst o k []):=fun w fr m u d hR=>by
 cases hR
 exact .nil
theorem Wk.nilArr(id o:Nat):Wk (.raw (.slice none 0 0)) (.arr id o 0):=fun w fr m u d hR=>by
 cases hR
 exact .arrn
theorem R.cset{w:World}{fr:Nat→Prop}{m:Mp}{b:Nat}{x y:V}(hw:Wk x y): ∀{xs:List V} {off q:Nat} {c:Cnt},R w fr m (.cells b off xs) c→xs[q]? =some x→R w fr m (.cells b off (xs.set q y)) c
 |[],_,_,_,_,hx=>by simp at hx
 |z::zs,off,q,c,h,hx=>by
  cases h with
  |ccons hc h1c h1 h2 he=>
   cases q with
   |zero=>simp at hx;subst hx;exact .ccons hc h1c (hw _ _ _ _ _ h1) h2 he
   |succ q=>exact .ccons hc h1c h1 (R.cset hw h2 Z8v) he
theorem Inv.wkC{X:Ctx}{w:World}{ob:List Ob}{m:Mp}{cn:Nat→Cnt}(hi:Inv X w ob m cn){p e j kp:Nat}{xs:List V}{x y:V}(hp:ob[p]? =some (some (kp,xs)))(he:e<xs.length)
  (hj:j<(xs.getD e .junk).cells.length) (hx:(xs.getD e .junk).cells[j]? =some x) (hy:y.cellOK=true) (hw:Wk x y):Inv X w (ob.set p (some (kp,xs.set e (Qe6 (xs.getD e .junk) j [y])))) m cn:=by
 refine ⟨hi.le,hi.kept,hi.os,hi.tape,hi.output,fun i o ho=> ?_,hi.dis,hi.one,hi.new,fun i h=>hi.fresh i Z49,hi.pas,hi.mlt,by simpa using hi.n0,hi.shp⟩
 have hplt:=(List.getElem?_eq_some_iff.1 hp).1
 by_cases hpi:i=p
 ·subst hpi
  rw[List.getElem?_set_self hplt] at ho
  cases ho
  rcases hi.obj i _ hp with ⟨h0,_,_⟩|⟨b,cur,el,c,h1,h2,hk,hl,hR,hcn⟩
  ·rw[h0] at he;simp at he
  ·have hE:=Qg7 hk he
   have hvc:Q2q [y]=true:=by simp[Q2q,hy]
   have hcells:=Qe5 (e:=xs.getD e .junk) (j:=j) (vc:=[y]) Z8z hvc Z3
   have hflat:=Ql8 hk he hcells Z8z
   have hk2:uni kp (xs.set e (Qe6 (xs.getD e .junk) j [y])):=by
    intro z hz
    rcases List.mem_or_eq_of_mem_set hz with h|h
    ·exact hk z h
    ·rw[h,hcells,List.length_append,List.length_append,List.length_take,List.length_drop];show min j _+1+(_-(j+1))=_;omega
   have hfl:=Q33 hk
   have hq:e*kp+j<(Q1y xs).length:=by
    rw[hfl]
    have:(e+1)*kp≤xs.length*kp:=Nat.mul_le_mul_right kp he
    rw[Nat.add_mul] at this;omega
   have hat:(Q1y xs)[e*kp+j]? =some x:=by
    rw[Qef he,List.append_assoc,List.getElem?_append_right Z8i,Q2f hk (Nat.le_of_lt he),
     show e*kp+j-e*kp=j from by omega,List.getElem?_append_left hj]
    exact hx
   have hset:Q1y (xs.set e (Qe6 (xs.getD e .junk) j [y]))=(Q1y xs).set (e*kp+j) y:=by
    rw[hflat,List.set_eq_take_append_cons_drop,if_pos hq,List.append_assoc]
    rfl
   refine .inr ⟨b,cur,el,c,h1,h2,hk2,by rw[List.length_set];exact hl,?_,hcn⟩
   rw[hset]
   exact R.cset hw hR hat
 ·rw[List.getElem?_set_ne (Ne.symm hpi)] at ho
  exact hi.obj i o ho
theorem Le.nilOb{X:Ctx}(k:Nat)(s:St):Le X s ⟨s.tm,s.ob++[some (k,[])]⟩:=fun w m cn a hi hs=>by
 obtain ⟨h1,h2⟩:=hi.nameNil k
 exact ⟨m,_,h1,h2.Sl hs⟩
def St.nilC(p e j k:Nat)(s:St):Option St:=
 match s.ob[p]? with
 |some (some (kp,xs))=>match (xs.getD e .junk).cells[j]? with
  |some (.raw (.slice none 0 0))=>if e<xs.length then some ⟨s.tm,s.ob.set p (some (kp,xs.set e (Qe6 (xs.getD e .junk) j [.arr s.ob.length 0 0])))++[some (k,[])]⟩ else none
  |_=>none
 |_=>none
theorem Le.nilC{X:Ctx}(p e j k:Nat){s s':St}(h:s.nilC p e j k=some s'):Le X s s':=by
 unfold St.nilC at h
 split at h
 ·rename_i kp xs hp
  split at h
  ·rename_i hx
   split at h
   ·rename_i he
    cases h
    refine fun w m cn a hi hs=> ?_
    have h1:=hi.wkC hp he (List.getElem?_eq_some_iff.1 hx).1 hx (y:= .arr s.ob.length 0 0) rfl (Wk.nilArr _ _)
    obtain ⟨h2,h3⟩:=h1.nameNil k
    exact ⟨m,_,h2,h3.Sl hs⟩
   ·cases h
  ·cases h
 ·cases h
theorem R.lset{w:World}{fr:Nat→Prop}{m:Mp}{x y:V}(hw:Wk x y): ∀{xs:List V} {us:List Value} {q:Nat} {c:Cnt},R w fr m (.list xs us) c→xs[q]? =some x→R w fr m (.list (xs.set q y) us) c
 |[],_,_,_,_,hx=>by simp at hx
 |z::zs,us,q,c,h,hx=>by
  cases h with
  |lcons h1 h2 he=>
   cases q with
   |zero=>simp at hx;subst hx;exact .lcons (hw _ _ _ _ _ h1) h2 he
   |succ q=>exact .lcons h1 (R.lset hw h2 Z8v) he
theorem Le.wkS{X:Ctx}(t:Nat){x y:V}{s:St}(hw:Wk x y)(hx:s.tm[t]? =some x):Le X s ⟨s.tm.set t y,s.ob⟩:=fun _ m cn _ hi hs=>⟨m,cn,hi,R.lset hw hs hx⟩
def St.nilS(t k:Nat)(s:St):St:=⟨s.tm.set t (.arr s.ob.length 0 0),s.ob++[some (k,[])]⟩
theorem Le.nilS{X:Ctx}(t k:Nat){s:St}(hx:s.tm[t]? =some (.raw (.slice none 0 0))):Le X s (s.nilS t k):=Le.trans (Le.nilOb k s) (Le.wkS t (Wk.nilArr _ _) hx)
end Go.Ev
namespace Go.Ev
open Go
section
variable {P:Program} {ops:Array Oper} {Q:Exit→Act→World→Prop}
theorem Qcq{o:Oper}{a:Act}{w:World}{K K':Act→World→Prop}{Q':Exit→Act→World→Prop}(h: ∀a w,K a w→K' a w)(hq: ∀e a w,e≠ .normal→Q e a w→Q' e a w)
  (hh:o.wp P a w K Q):o.wp P a w K' Q':=by
 unfold Oper.wp at*
 generalize (execOp a.eval o).run P w=r at*
 cases r with
 |ok n w'=>
  cases n<;>simp only[Oper.upon] at hh⊢ <;>
   first
    |exact h _ _ hh
    |exact Calls.mono hh (fun e w'' he=>by cases e<;>first|exact h _ _ he|exact hq _ _ _ nofun he|(obtain ⟨a',w',h'⟩:=he;exact ⟨a',w',hq _ _ _ nofun h'⟩)|exact he)
    |exact Rows.mono hh (fun _ _ he=>h _ _ he)
    |exact hh
    |exact hq _ _ _ nofun hh
 |halt x w'=>cases x<;>simp only[Oper.upon] at hh⊢ <;>first|exact hh|exact hq _ _ _ nofun hh
def Q86(P:Program)(md:Region.Mode)(ops:Array Oper)(Q:Exit→Act→World→Prop)(S:World→Prop)(n:Nat):Nat→Array Bool→Act→World→Prop
 |0,listed,a,w=>Region.ready md ops listed=[]∧Q .normal a w
 |f+1,listed,a,w=>(Region.ready md ops listed=[]→Q .normal a w)∧
  ∀i∈Region.ready md ops listed,wpOp P ops Q i (fun a' w'=>((listed.setIfInBounds i true).getD n true=false→S w')∧Q86 P md ops Q S n f (listed.setIfInBounds i true) a' w') a w
theorem Qav{md:Region.Mode}{S:World→Prop}{n:Nat}: ∀(f:Nat) (listed:Array Bool) (a:Act) (w:World),Q86 P md ops Q S n f listed a w→wpAny P md ops Q f listed a w
 |0,_,_,_,h=>h
 |f+1,_,_,_,h=>⟨h.1,fun i hi=>wpOp_mono (fun a' w' h'=>Qav f _ a' w' h'.2) (h.2 i hi)⟩
theorem Qaj{md:Region.Mode}{S:World→Prop}{n i:Nat}{oi:Oper}{v:Value}(hi:ops[i]? =some oi)(hsel: ∀(j:Nat) (o:Oper) cs b,ops[j]? =some o→o.op≠ .select cs b)
  (hs:Region.sinkB md ops n=true) (hc:Region.chainB md ops n=true) (hn:n<ops.size) (hin:i<n) (hQ: ∀c a w,¬Q (.panic c) a w):
  ∀(f:Nat) (listed:Array Bool) (a:Act) (w:World),HeadInv md ops n listed→
   (∀j oj,ops[j]? =some oj→j≠i→listed.getD j true=false→(∀e∈oj.after,Region.binds md e=true→e.on≠i)→oi.apart ops oj=true)→
   i∈Region.ready md ops listed→YieldsIf P ops S oi v a→S w→
   Q86 P md ops Q S n f (listed.setIfInBounds i true) (a.put oi.dst v) w→Q86 P md ops Q S n (f+1) listed a w:=by
 intro f
 induction f with
 |zero=>
  intro listed a w inv _ hr hy hS H
  refine ⟨fun h=>Zbk,fun j hj=> ?_⟩
  by_cases hji:j=i
  ·subst hji;exact hy.wpOp hi hS ⟨fun _=>hS,H⟩
  ·have:=ready_mono hj hji
   rw[H.1] at this
   cases this
 |succ f ih=>
  intro listed a w inv hfree hr hy hS H
  have hun:=(mem_ready.1 hr).1
  refine ⟨fun h=>Zbk,fun j hj=> ?_⟩
  have hjn:j<n:=by
   rcases Nat.lt_or_ge j n with h|h
   ·exact h
   ·exact absurd hj (tail_waits hs hc hn inv _ i rfl hin hun j h)
  by_cases hji:j=i
  ·subst hji;exact hy.wpOp hi hS ⟨fun _=>hS,H⟩
  ·have h1:=H.2 j (ready_mono hj hji)
   obtain ⟨hjun,oj,hoj,hall⟩:=mem_ready.1 hj
   have hnot: ∀e∈oj.after,Region.binds md e=true→e.on≠i:=fun e he hb heq=>by
    have h1:=hall e he hb
    rw[heq,getD_both hun] at h1
    cases h1
   have h2:=wpOp_putIf hoj (hfree j oj hoj hji hjun hnot) (fun cs b=>hsel i oi cs b hi) (fun cs b=>hsel j oj cs b hoj) (fun c a w h=>absurd h (hQ _ _ _)) hy h1
   have hfree': ∀k ok,ops[k]? =some ok→k≠i→(listed.setIfInBounds j true).getD k true=false→
     (∀e∈ok.after,Region.binds md e=true→e.on≠i)→oi.apart ops ok=true:=fun k ok hk hki hun hno=>by
    refine hfree k ok hk hki ?_ hno
    by_cases hjk:j=k
    ·subst hjk;exact hjun
    ·rw[getD_set_ne true hjk] at hun;exact hun
   have htail:((listed.setIfInBounds i true).setIfInBounds j true).getD n true=false:=by
    rw[getD_set_ne true Zb,getD_set_ne true Zb]
    exact inv.tail n (Nat.le_refl _) hn
   refine wpOp_mono (fun a' w' h3=>⟨fun _=>h3.2.1 htail,ih (listed.setIfInBounds j true) a' w' (inv.set hj hjn) hfree' (ready_mono hr (Ne.symm hji)) h3.1 (h3.2.1 htail) ?_⟩) h2
   rw[Array.setIfInBounds_comm _ _ hji]
   exact h3.2.2
def headD(md:Region.Mode)(ops:Array Oper)(n:Nat):List Nat→Array Bool→Bool
 |i::B,listed=>decide (i<n)&&decide (Region.ready md ops listed=[i])&&headD md ops n B (listed.setIfInBounds i true)
 |[],listed=>Region.seqB md ops (ops.size-n) n listed
def Qu0(md:Region.Mode)(ops:Array Oper)(n:Nat)(B:List Nat):List Nat→Array Bool→Bool
 |i::A,listed=>decide (i<n)&&(Region.ready md ops listed).contains i&&Region.free md ops listed i&&Qu0 md ops n B A (listed.setIfInBounds i true)
 |[],listed=>headD md ops n B listed
def Qx1(md:Region.Mode)(ops:Array Oper)(n:Nat)(A B:List Nat):Bool:=
 Region.noSelect ops&&decide (n<ops.size)&&Region.sinkB md ops n&&Region.chainB md ops n&&decide (A.length+B.length=n)&&Qu0 md ops n B A (Array.replicate ops.size false)
def Quj(P:Program)(ops:Array Oper)(Q:Exit→Act→World→Prop)(S:World→Prop)(n:Nat):List Nat→Act→World→Prop
 |i::B,a,w=>wpOp P ops Q i (fun a' w'=>S w'∧Quj P ops Q S n B a' w') a w
 |[],a,w=>wpList P ops Q (ops.toList.drop n) a w
def Q108(P:Program)(ops:Array Oper)(Q:Exit→Act→World→Prop)(S:World→Prop)(n:Nat)(B:List Nat):List Nat→Act→World→Prop
 |i::A,a,w=> ∃oi v,ops[i]? =some oi∧YieldsIf P ops S oi v a∧Q108 P ops Q S n B A (a.put oi.dst v) w
 |[],a,w=>Quj P ops Q S n B a w
theorem Q9m{md:Region.Mode}{S:World→Prop}{n:Nat}: ∀(l:List Oper) (k:Nat) (listed:Array Bool) (a:Act) (w:World),n≤k→(∀j,l[j]? =ops[k+j]?)→(n<k→listed.getD n true=true)→listed.size=ops.size→
  Region.seqB md ops l.length k listed=true→wpList P ops Q l a w→Q86 P md ops Q S n l.length listed a w
 |[],_,_,_,_,_,_,_,_,hB,h=>⟨by simpa[Region.seqB] using hB,h⟩
 |o::l,k,listed,a,w,hk,hl,hln,hsz,hB,h=>by
  have h0:ops[k]? =some o:=by simpa using (hl 0).symm
  have hklt:k<ops.size:=(Array.getElem?_eq_some_iff.1 h0).1
  simp only[List.length_cons,Region.seqB,Bool.and_eq_true,decide_eq_true_eq] at hB
  refine ⟨fun h1=>(by rw[hB.1] at h1;cases h1),fun i hi=> ?_⟩
  rw[hB.1] at hi
  have hik:i=k:=by simpa using hi
  subst hik
  have hw:wpOp P ops Q i (wpList P ops Q l) a w:=by unfold wpOp;simp only[h0];exact h
  have hlisted:(listed.setIfInBounds i true).getD n true=true:=by
   by_cases hni:i=n
   ·subst hni
    have:i<listed.size:=by omega
    simp[this]
   ·rw[getD_set_ne true hni];exact hln Zb
  exact wpOp_mono (fun a' w' h'=>⟨fun hf=>(by rw[hlisted] at hf;cases hf),Q9m l (i+1) _ a' w' Zb (fun j=>by have:=hl (j+1);simpa[Nat.add_assoc,Nat.add_comm 1 j] using this) (fun _=>hlisted) (by simp[hsz]) hB.2 h'⟩) hw
theorem Qg3{md:Region.Mode}{S:World→Prop}{n:Nat}(hsel:Region.noSelect ops=true)(hn:n<ops.size)(hs:Region.sinkB md ops n=true)(hc:Region.chainB md ops n=true)(hQ: ∀c a w,¬Q (.panic c) a w):
  ∀(A B:List Nat) (listed:Array Bool) (a:Act) (w:World),HeadInv md ops n listed→S w→Qu0 md ops n B A listed=true→Q108 P ops Q S n B A a w→
   Q86 P md ops Q S n (A.length+B.length+(ops.size-n)) listed a w
 |i::A,B,listed,a,w,inv,hS,hB,⟨oi,v,hi,hy,h⟩=>by
  simp only[Qu0,Bool.and_eq_true,decide_eq_true_eq] at hB
  obtain ⟨⟨⟨hin,hr⟩,hf⟩,hB⟩:=hB
  have hr':i∈Region.ready md ops listed:=by simpa using hr
  have:=Qg3 hsel hn hs hc hQ A B _ _ _ (inv.set hr' hin) hS hB h
  rw[show (i::A).length+B.length+(ops.size-n)=(A.length+B.length+(ops.size-n))+1 from by simp;omega]
  exact Qaj hi (Region.noSelect_spec hsel) hs hc hn hin hQ _ listed a w inv (Region.free_spec hi hf) hr' hy hS this
 |[],i::B,listed,a,w,inv,hS,hB,h=>by
  simp only[Qu0,headD,Bool.and_eq_true,decide_eq_true_eq] at hB
  obtain ⟨⟨hin,hr⟩,hB⟩:=hB
  rw[show ([]:List Nat).length+(i::B).length+(ops.size-n)=(([]:List Nat).length+B.length+(ops.size-n))+1 from by simp;omega]
  refine ⟨fun h0=>Z7l,fun j hj=> ?_⟩
  have hmem:=hj
  rw[hr] at hj
  have hji:j=i:=by simpa using hj
  subst hji
  have h:wpOp P ops Q j (fun a' w'=>S w'∧Quj P ops Q S n B a' w') a w:=h
  exact wpOp_mono (fun a' w' h'=>⟨fun _=>h'.1,Qg3 hsel hn hs hc hQ [] B _ _ _ (inv.set hmem hin) h'.1 hB h'.2⟩) h
 |[],[],listed,a,w,inv,hS,hB,h=>by
  simp only[Qu0,headD] at hB
  have h:wpList P ops Q (ops.toList.drop n) a w:=h
  have hlen:(ops.toList.drop n).length=ops.size-n:=by simp
  have:=Q9m (P:=P) (Q:=Q) (md:=md) (S:=S) (n:=n) (ops.toList.drop n) n listed a w (Nat.le_refl _) (fun j=>by simp) (fun h=>by omega) inv.size Zbv h
  rw[hlen] at this
  simpa using this
theorem Qp2{id:Nat}{S:World→Prop}{n:Nat}{A B:List Nat}{a:Act}{w:World}(hm:P.follows .mixedOrders=true)(hB:Qx1 .any ops n A B=true)(hQ: ∀c a w,¬Q (.panic c) a w)
  (hS:S {w with drawn:=w.drawn+1}) (h:Q108 P ops Q S n B A a {w with drawn:=w.drawn+1}):(Code.region id ops true).wp P Q a w:=by
 simp only[Qx1,Bool.and_eq_true,decide_eq_true_eq] at hB
 obtain ⟨⟨⟨⟨⟨hsel,hn⟩,hs⟩,hc⟩,hAB⟩,hhead⟩:=hB
 have inv0:HeadInv .any ops n (Array.replicate ops.size false):=
  ⟨by simp,fun j oj _ hl=>Z6f,fun t _ ht=>getD_in Zag (getD_replicate_false _ _)⟩
 have:=Qg3 hsel hn hs hc hQ A B _ _ _ inv0 hS hhead h
 rw[show A.length+B.length+(ops.size-n)=ops.size from by omega] at this
 exact wp_region_any hm (Qav _ _ _ _ this)
end
end Go.Ev
namespace Go.Ev
open Go
def hid:List Nat→List Ob→List Ob
 |[],ob=>ob
 |id::L,ob=>hid L (ob.set id none)
def unh(ob:List Ob):List Nat→List Ob→List Ob
 |[],ob'=>ob'
 |id::L,ob'=>(unh ob L ob').set id (ob.getD id none)
theorem Qb3: ∀(L:List Nat) (ob:List Ob),(hid L ob).length=ob.length
 |[],_=>rfl
 |id::L,ob=>by simp[hid,Qb3 L]
theorem Qaw(ob:List Ob): ∀(L:List Nat) (ob':List Ob),(unh ob L ob').length=ob'.length
 |[],_=>rfl
 |id::L,ob'=>by simp[unh,Qaw ob L]
theorem Qvc: ∀(L:List Nat) (ob:List Ob) (i:Nat) (o:Ob),(hid L ob)[i]? =some o→(i∈L∧o=none)∨(i∉L∧ob[i]? =some o)
 |[],ob,i,o,h=> .inr ⟨by simp,h⟩
 |id::L,ob,i,o,h=>by
  rcases Qvc L _ i o h with ⟨h1,h2⟩|⟨h1,h2⟩
  ·exact .inl ⟨by simp[h1],h2⟩
  ·by_cases hi:i=id
   ·subst hi
    have:=(List.getElem?_eq_some_iff.1 h2).1
    rw[List.getElem?_set_self (by simpa using this)] at h2
    cases h2
    exact .inl ⟨by simp,rfl⟩
   ·rw[List.getElem?_set_ne (Ne.symm hi)] at h2
    exact .inr ⟨by simp[hi,h1],h2⟩
theorem Qun(ob:List Ob): ∀(L:List Nat) (ob':List Ob) (i:Nat) (o:Ob),(unh ob L ob')[i]? =some o→(i∈L∧o=ob.getD i none)∨(i∉L∧ob'[i]? =some o)
 |[],ob',i,o,h=> .inr ⟨by simp,h⟩
 |id::L,ob',i,o,h=>by
  by_cases hi:i=id
  ·subst hi
   have:=(List.getElem?_eq_some_iff.1 h).1
   rw[unh,List.getElem?_set_self (by simpa[unh] using this)] at h
   cases h
   exact .inl ⟨by simp,rfl⟩
  ·rw[unh,List.getElem?_set_ne (Ne.symm hi)] at h
   rcases Qun ob L ob' i o h with ⟨h1,h2⟩|⟨h1,h2⟩
   ·exact .inl ⟨by simp[h1],h2⟩
   ·exact .inr ⟨by simp[hi,h1],h2⟩
open Classical in
noncomputable def cnH (L:List Nat) (cn:Nat→Cnt) (id:Nat):Cnt:=if id∈L then z0 else cn id
open Classical in
noncomputable def cnU (L:List Nat) (cn0 cn:Nat→Cnt) (id:Nat):Cnt:=if id∈L then cn0 id else cn id
def Q75(X:Ctx)(w:World)(m:Mp)(cn:Nat→Cnt)(L:List Nat)(n:Nat):Ctx:=
 ⟨w,fun b=>b<w.heap.size∧frz X cn b,fun b=> ∃id,id∉L∧0<cn id b,m,n⟩
theorem Qgh.mono{w:World}{fr fr':Nat→Prop}{m:Mp}{cnt:Cnt}{id:Nat}{o:Ob}(hf: ∀b,b<w.heap.size→fr b→fr' b)(h:Qgh w fr m cnt id o):Qgh w fr' m cnt id o:=by
 cases o with
 |none=>trivial
 |some p=>
  rcases h with h|⟨b,cur,e,c,h1,h2,h3,h4,h5,h6⟩
  ·exact .inl h
  ·exact .inr ⟨b,cur,e,c,h1,h2,h3,h4,h5.mono (Nat.le_refl _) (fun b hb h=>⟨hf b hb h,rfl⟩) (fun _ _=>rfl) (.inr rfl) (fun _ _ h=>⟨h,rfl⟩),h6⟩
section
variable {X:Ctx} {w:World} {ob:List Ob} {m:Mp} {cn:Nat→Cnt}
theorem Inv.hide(hi:Inv X w ob m cn)(L:List Nat):Inv (Q75 X w m cn L ob.length) w (hid L ob) m (cnH L cn)∧ ∀b,b<w.heap.size→frz X cn b→frz (Q75 X w m cn L ob.length) (cnH L cn) b:=by
 have hle: ∀i b,cnH L cn i b≤cn i b:=fun i b=>by unfold cnH;split<;>simp[z0]
 have hfr: ∀b,b<w.heap.size→frz X cn b→frz (Q75 X w m cn L ob.length) (cnH L cn) b:=fun b hb h=>⟨.inl ⟨hb,h⟩,fun id=>by have:=hle id b;have:=h.2 id;omega⟩
 refine ⟨⟨Nat.le_refl _,fun _ _ _=>rfl,rfl,rfl,rfl,fun i o ho=> ?_,fun b i j h1 h2=>hi.dis b i j (Nat.lt_of_lt_of_le h1 (hle _ _)) (Nat.lt_of_lt_of_le h2 (hle _ _)),fun i b=>Nat.le_trans (hle i b) (hi.one i b),
  fun i b h=>⟨(hi.new i b (Nat.lt_of_lt_of_le h (hle i b))).1,.inr ?_⟩,fun i h=>hi.fresh i (by rw[Qb3] at h;exact h),fun _ _=>rfl,hi.mlt,by rw[Qb3];exact Nat.le_refl _,fun _ _=>rfl⟩,hfr⟩
 ·rcases Qvc L ob i o ho with ⟨_,rfl⟩|⟨h1,h2⟩
  ·trivial
  ·have:cnH L cn i=cn i:=by unfold cnH;rw[if_neg h1]
   rw[this]
   exact (hi.obj i o h2).mono hfr
 ·by_cases hL:i∈L
  ·unfold cnH at h;rw[if_pos hL] at h;exact absurd h Z2z
  ·exact ⟨i,hL,Nat.lt_of_lt_of_le h (hle i b)⟩
theorem Inv.unhide{L:List Nat}{w':World}{ob':List Ob}{m':Mp}{cn':Nat→Cnt}(hi:Inv X w ob m cn)(hL: ∀id∈L,id<ob.length)(h':Inv (Q75 X w m cn L ob.length) w' ob' m' cn'):
  Inv X w' (unh ob L ob') m' (cnU L cn cn')∧(∀b,frz (Q75 X w m cn L ob.length) cn' b→frz X (cnU L cn cn') b)∧
   (∀b,b<w.heap.size→(frz X cn b∨ ∃id∈L,0<cn id b)→w'.heap[b]? =w.heap[b]?)∧(∀b,b<w.heap.size→frz X cn b→frz X (cnU L cn cn') b):=by
 have hin: ∀id,id∈L→cnU L cn cn' id=cn id:=fun id h=>by unfold cnU;rw[if_pos h]
 have hout: ∀id,id∉L→cnU L cn cn' id=cn' id:=fun id h=>by unfold cnU;rw[if_neg h]
 have hfr: ∀b,frz (Q75 X w m cn L ob.length) cn' b→frz X (cnU L cn cn') b:=by
  rintro b ⟨h1,h2⟩
  rcases h1 with ⟨hb,h1⟩|hb
  ·refine ⟨h1.1,fun id=> ?_⟩
   by_cases h:id∈L
   ·rw[hin id h];exact h1.2 id
   ·rw[hout id h];exact h2 id
  ·have hb:w.heap.size≤b:=hb
   refine ⟨.inr (Nat.le_trans hi.le hb),fun id=> ?_⟩
   by_cases h:id∈L
   ·rw[hin id h]
    rcases Nat.eq_zero_or_pos (cn id b) with h0|h0
    ·exact h0
    ·have:=(hi.new id b h0).1;omega
   ·rw[hout id h];exact h2 id
 have hnew': ∀id b,0<cn' id b→b<w.heap.size→ ∃k,k∉L∧0<cn k b:=fun id b h hb=>by
  rcases (h'.new id b h).2 with h|h
  ·have:w.heap.size≤b:=h
   omega
  ·exact h
 have hfrz2: ∀b,b<w.heap.size→frz X cn b→frz X (cnU L cn cn') b:=fun b hb h=>⟨h.1,fun id=>by
  by_cases hl:id∈L
  ·rw[hin id hl];exact h.2 id
  ·rw[hout id hl]
   rcases Nat.eq_zero_or_pos (cn' id b) with h0|h0
   ·exact h0
   ·obtain ⟨k,_,hk⟩:=hnew' id b h0 hb
    have:=h.2 k;omega⟩
 have hheap: ∀b,b<w.heap.size→(frz X cn b∨ ∃id∈L,0<cn id b)→w'.heap[b]? =w.heap[b]? :=fun b hb h=>by
  refine h'.kept b hb fun ⟨k,hk,hc⟩=> ?_
  rcases h with h|⟨id,hid,hc2⟩
  ·have:=h.2 k;omega
  ·have:=hi.dis b id k hc2 hc
   subst this
   exact hk hid
 have hmp: ∀id x,m id=some x→m' id=some x∧w'.shape? x.1=w.shape? x.1:=fun id x h=>by
  have hid:id<ob.length:=by
   rcases Nat.lt_or_ge id ob.length with h1|h1
   ·exact h1
   ·rw[hi.fresh id h1] at h;cases h
  have:=h'.pas id hid
  exact ⟨by rw[this];exact h,h'.shp x.1 (hi.mlt id x h)⟩
 refine ⟨⟨Nat.le_trans hi.le h'.le,fun b hb ho=> ?_,h'.os.trans hi.os,h'.tape.trans hi.tape,h'.output.trans hi.output,fun i o ho=> ?_,fun b i j h1 h2=> ?_,fun i b=> ?_,fun i b h=> ?_,
  fun i h=>h'.fresh i (by rw[Qaw] at h;exact h),fun i h=> ?_,h'.mlt,by rw[Qaw];exact Nat.le_trans hi.n0 h'.n0,fun b hb=> ?_⟩,hfr,hheap,hfrz2⟩
 ·rw[h'.kept b (Nat.lt_of_lt_of_le hb hi.le) (fun ⟨k,_,hk⟩=> ?_)]
  ·exact hi.kept b hb ho
  ·rcases (hi.new k b hk).2 with h|h
   ·omega
   ·exact ho h
 ·rcases Qun ob L ob' i o ho with ⟨h1,rfl⟩|⟨h1,h2⟩
  ·rw[hin i h1]
   have hlt:=hL i h1
   have h3:=hi.obj i _ (List.getElem?_eq_getElem hlt)
   rw[List.getD_eq_getElem?_getD,List.getElem?_eq_getElem hlt,Option.getD_some]
   cases hob:ob[i] with
   |none=>trivial
   |some p=>
    rw[hob] at h3
    have hmi:m' i=m i:=h'.pas i hlt
    rcases h3 with ⟨g1,g2,g3⟩|⟨b,cur,e,c,g1,g2,g3,g4,g5,g6⟩
    ·exact .inl ⟨g1,by rw[hmi];exact g2,g3⟩
    ·have hb0:0<cn i b:=by rw[g6];simp
     have hbl:=(hi.new i b hb0).1
     have hk:=hheap b hbl (.inr ⟨i,h1,hb0⟩)
     refine .inr ⟨b,cur,e,c,by rw[hmi];exact g1,by rw[hk];exact g2,g3,g4,g5.mono h'.le (fun x hx hf=>⟨hfrz2 x hx hf,hheap x hx (.inl hf)⟩) (fun x hx=> ?_) (.inr hk) hmp,g6⟩
     have hx0:0<cn i x:=by rw[g6];omega
     exact hheap x (hi.new i x hx0).1 (.inr ⟨i,h1,hx0⟩)
  ·rw[hout i h1]
   exact (h'.obj i o h2).mono (fun b _ h=>hfr b h)
 ·by_cases hl1:i∈L<;>by_cases hl2:j∈L
  ·rw[hin _ hl1] at h1;rw[hin _ hl2] at h2;exact hi.dis b i j h1 h2
  ·rw[hin _ hl1] at h1;rw[hout _ hl2] at h2
   obtain ⟨k,hk,hc⟩:=hnew' j b h2 (hi.new i b h1).1
   have:=hi.dis b i k h1 hc
   subst this;exact absurd hl1 hk
  ·rw[hout _ hl1] at h1;rw[hin _ hl2] at h2
   obtain ⟨k,hk,hc⟩:=hnew' i b h1 (hi.new j b h2).1
   have:=hi.dis b j k h2 hc
   subst this;exact absurd hl2 hk
  ·rw[hout _ hl1] at h1;rw[hout _ hl2] at h2;exact h'.dis b i j h1 h2
 ·by_cases hl:i∈L
  ·rw[hin _ hl];exact hi.one i b
  ·rw[hout _ hl];exact h'.one i b
 ·by_cases hl:i∈L
  ·rw[hin _ hl] at h
   have:=hi.new i b h
   exact ⟨Nat.lt_of_lt_of_le this.1 h'.le,this.2⟩
  ·rw[hout _ hl] at h
   obtain ⟨g1,g2⟩:=h'.new i b h
   refine ⟨g1,?_⟩
   rcases g2 with g2|⟨k,_,hk⟩
   ·exact .inl (Nat.le_trans hi.le g2)
   ·exact (hi.new k b hk).2
 ·rw[h'.pas i (Nat.lt_of_lt_of_le h hi.n0)];exact hi.pas i h
 ·rw[h'.shp b (Nat.lt_of_lt_of_le hb hi.le)];exact hi.shp b hb
end
section
variable {P:Program} {X:Ctx} {T:Nat→Option TI} {ls:List Oper} {L:List Nat} {st s1 s2 s3:St} {Q:Exit→St→Prop}
def Q4q(T:Nat→Option TI)(n0:Nat)(ops:Array Oper)(L:List Nat):List Nat→St→Option St
 |[],st=>some st
 |i::A,st=>match ops[i]? with
  |none=>none
  |some o=>match gd ops st o.guard with
   |some true=>if Qa1 o.op=true∧rdB st L o.op=true then (match opB T n0 st o.op with
    |some (x,_)=>Q4q T n0 ops L A ⟨Q2l o.dst x st.tm,st.ob⟩
    |none=>none) else none
   |some false=>Q4q T n0 ops L A ⟨Q2l o.dst (.tup []) st.tm,st.ob⟩
   |none=>none
theorem Qb0{n0:Nat}{ops:Array Oper}: ∀{A:List Nat} {st s1:St},Q4q T n0 ops L A st=some s1→s1.ob=st.ob
 |[],st,s1,h=>by simp only[Q4q] at h;cases h;rfl
 |i::A,st,s1,h=>by
  simp only[Q4q] at h
  split at h
  ·cases h
  ·split at h
   ·split at h
    ·split at h
     ·have:=Qb0 h;exact this
     ·cases h
    ·cases h
   ·have:=Qb0 h;exact this
   ·cases h
theorem Qqs(hT:TOK P T){n0 n:Nat}{ops:Array Oper}{Qf:Exit→Act→World→Prop}{B:List Nat}{w:World}{m:Mp}{cn:Nat→Cnt}:
  ∀{A:List Nat} {st s1:St} {a:Act},Q4q T n0 ops L A st=some s1→Inv X w st.ob m cn→Sl X w m cn st.tm a→a.defers=[]→
   (∀a',Sl X w m cn s1.tm a'→a'.defers=[]→Quj P ops Qf (Kr X cn L w) n B a' w)→Q108 P ops Qf (Kr X cn L w) n B A a w
 |[],st,s1,a,h,hi,hs,hd,hk=>by simp only[Q4q] at h;cases h;exact hk a hs hd
 |i::A,st,s1,a,h,hi,hs,hd,hk=>by
  simp only[Q4q] at h
  split at h
  ·cases h
  ·rename_i o ho
   split at h
   ·rename_i hg
    split at h
    ·rename_i hp
     split at h
     ·rename_i x st' hx
      obtain ⟨u,hu,hR⟩:=(Qi7 (X:=X) (L:=L) hT hx hp.1 hp.2).1 w m cn a hi hs
      refine ⟨o,u,ho,.inl ⟨Q62 hs hg,hu⟩,Qqs hT h hi ?_ (Q3n _ _ hd) hk⟩
      have:=hs.set o.dst hR
      cases hod:o.dst<;>simpa[Q2l,hod] using this
     ·cases h
    ·cases h
   ·rename_i hg
    refine ⟨o,undef,ho,.inr ⟨Q62 hs hg,rfl⟩,Qqs hT h hi ?_ (Q3n _ _ hd) hk⟩
    have:=hs.set o.dst (x:= .tup []) (u:=undef) (.tup .lnil)
    cases hod:o.dst<;>simpa[Q2l,hod] using this
   ·cases h
inductive Qez (P:Program) (ops:Array Oper) (L:List Nat):List Nat→St→St→Prop
 |nil {s:St}:Qez P ops L [] s s
 |cons {i:Nat} {o:Oper} {B:List Nat} {s s' s1 s2:St} (ho:ops[i]? =some o) (hL: ∀id∈L,id<s.ob.length)
   (h: ∀X':Ctx,X'.n0=s.ob.length→Q8 P X' ops [o] ⟨s.tm,hid L s.ob⟩ s') (he:(⟨s'.tm,unh s.ob L s'.ob⟩:St)=s1) (ht:Qez P ops L B s1 s2):Qez P ops L (i::B) s s2
def Qtq(Q:Exit→Act→World→Prop):Exit→Act→World→Prop
 | .normal,a,w=>Q .normal a w
 |_,_,_=>False
theorem Q10h{n:Nat}{ops:Array Oper}{Qf:Exit→Act→World→Prop}{w0:World}{cn0:Nat→Cnt}{B:List Nat}(h:Qez P ops L B st s1):
  ∀{w:World} {m:Mp} {cn:Nat→Cnt} {a:Act},Inv X w st.ob m cn→Sl X w m cn st.tm a→a.defers=[]→Kr X cn0 L w0 w→(∀b,b<w0.heap.size→frz X cn0 b→frz X cn b)→(∀id∈L,cn id=cn0 id)→
   (∀w m cn a,Inv X w s1.ob m cn→Sl X w m cn s1.tm a→a.defers=[]→wpList P ops Qf (ops.toList.drop n) a w)→Quj P ops Qf (Kr X cn0 L w0) n B a w:=by
 induction h with
 |nil=>intro w m cn a hi hs hd _ _ _ hk;exact hk w m cn a hi hs hd
 | @cons i o B s s' s1 s2 ho hL h he ht ih=>
  intro w m cn a hi hs hd hK hF hC hk
  subst he
  obtain ⟨h1,h2⟩:=hi.hide L
  have hs':Sl (Q75 X w m cn L s.ob.length) w m (cnH L cn) s.tm a:=hs.mono (Nat.le_refl _) (fun b hb hf=>⟨h2 b hb hf,rfl⟩) (fun _ _=>rfl) trivial (fun _ _ h=>⟨h,rfl⟩)
  have hr:=h (Q75 X w m cn L s.ob.length) rfl [] (fun e st=>e= .normal∧st=s') (Q8w ⟨rfl,rfl⟩) w m (cnH L cn) a h1 hs' hd
  have step:wpList P ops (post (Q75 X w m cn L s.ob.length) (fun e st=>e= .normal∧st=s')) [o] a w:=hr
  have fin: ∀a' w',post (Q75 X w m cn L s.ob.length) (fun e st=>e= .normal∧st=s') .normal a' w'→Kr X cn0 L w0 w'∧Quj P ops Qf (Kr X cn0 L w0) n B a' w':=by
   rintro a' w' ⟨st2,m',cn',⟨_,rfl⟩,hi',hs2,hd'⟩
   obtain ⟨u1,u2,u3,u4⟩:=hi.unhide hL hi'
   have hK':Kr X cn0 L w0 w':=⟨Nat.le_trans hK.1 hi'.le,fun b hb hc=>by
    rw[u3 b (Nat.lt_of_lt_of_le hb hK.1) (hc.imp (hF b hb) (fun ⟨id,hid,hc⟩=>⟨id,hid,by rw[hC id hid];exact hc⟩))]
    exact hK.2 b hb hc⟩
   refine ⟨hK',ih u1 (hs2.mono (Nat.le_refl _) (fun b _ hf=>⟨u2 b hf,rfl⟩) (fun _ _=>rfl) trivial (fun _ _ h=>⟨h,rfl⟩)) hd' hK' (fun b hb hf=>u4 b (Nat.lt_of_lt_of_le hb hK.1) (hF b hb hf)) (fun id hid=> ?_) hk⟩
   unfold cnU
   rw[if_pos hid]
   exact hC id hid
  show wpOp P ops Qf i _ a w
  unfold wpOp
  simp only[ho]
  unfold wpList at step
  split
  ·rename_i hw
   rw[if_pos hw] at step
   rcases step with step|⟨_,a',w',st2,m',cn',⟨h0,_⟩,_⟩
   ·exact .inl (Qcq (fun a' w' h=>fin a' w' h) (fun e a' w' hne ⟨st2,m',cn',⟨h0,_⟩,_⟩=>absurd h0 hne) step)
   ·cases h0
  ·rename_i hw
   rw[if_neg hw] at step
   exact fin _ _ step
theorem Q4a{ops:Array Oper}{Q1 Q2:Exit→Act→World→Prop}(hn: ∀a w,Q1 .normal a w→Q2 .normal a w)(hq: ∀e a w,e≠ .normal→Q1 e a w→Q2 e a w):
  ∀(l:List Oper) (a:Act) (w:World),wpList P ops Q1 l a w→wpList P ops Q2 l a w
 |[],a,w,h=>hn a w h
 |o::l,a,w,h=>by
  unfold wpList at h⊢
  split
  ·rename_i hw
   rw[if_pos hw] at h
   exact h.imp (Qcq (fun a w h=>Q4a hn hq l a w h) hq) (fun ⟨h1,a',w',h2⟩=>⟨h1,a',w',hq _ _ _ nofun h2⟩)
  ·rename_i hw
   rw[if_neg hw] at h
   exact Q4a hn hq l _ _ h
theorem Q1x{id n:Nat}{A B:List Nat}(hm:P.follows .mixedOrders=true)(hB:Qx1 .any ls.toArray n A B=true)(hT:TOK P T){n0:Nat}(hX:X.n0=n0)(hA:Q4q T n0 ls.toArray L A st=some s1)
  (hH:Qez P ls.toArray L B s1 s2) (h2:Q8 P X ls.toArray (ls.drop n) s2 s3) (hq:Q .normal s3):W P X (.region id ls.toArray true) st Q:=by
 intro w m cn a hi hs hd
 have hi':Inv X {w with drawn:=w.drawn+1} st.ob m cn:=hi.drew
 have hs':Sl X {w with drawn:=w.drawn+1} m cn st.tm a:=Ext.drew.Sl hs
 have hob:=Qb0 hA
 refine Code.wp_mono (Q:=Qtq (post X Q)) (fun e a' w' h=> ?_) ?_
 ·cases e<;>exact Z9g
 refine Qp2 (S:=Kr X cn L {w with drawn:=w.drawn+1}) hm hB (fun _ _ _ h=>h) (Kr.refl _) (Qqs hT hA hi' hs' hd fun a' hs2 hd2=> ?_)
 refine Q10h hH (hob▸hi') hs2 hd2 (Kr.refl _) (fun _ _ h=>h) (fun _ _=>rfl) (fun w3 m3 cn3 a3 hi3 hs3 hd3=> ?_)
 have:=h2 [] (fun e s=>e= .normal∧Q .normal s) (Q8w ⟨rfl,hq⟩) w3 m3 cn3 a3 hi3 hs3 hd3
 rw[List.append_nil] at this
 refine Q4a (fun a w ⟨s,m,cn,⟨_,h⟩,r⟩=>⟨s,m,cn,h,r⟩) (fun e a w hne ⟨s,m,cn,⟨h0,_⟩,_⟩=>absurd h0 hne) _ _ _ this
theorem Q15b{id n:Nat}{A B:List Nat}{y:Code}(ks:List Nat)(L:List Nat)(hm:P.follows .mixedOrders=true)(hB:Qx1 .any ls.toArray n A B=true)(hT:TOK P T){n0:Nat}(hX:X.n0=n0)(hA:Q4q T n0 ls.toArray L A st=some s1)
  (hH:Qez P ls.toArray L B s1 s2) (h2:Q8 P X ls.toArray (ls.drop n) s2 s3) (hk:W P X y (s3.keep ks) Q):W P X (.seq (.region id ls.toArray true) y) st Q:=
 Q4 (Q1x hm hB hT hX hA hH h2 (Q15 (Le.keep ks s3) hk))
end
end Go.Ev
namespace Go.Ev
open Go
def lkA(i:Nat):List (Nat×V)→V
 |[]=> .junk
 |p::l=>if p.1=i then p.2 else lkA i l
def spF(l:List (Nat×V)):Nat→Nat→List V
 |_,0=>[]
 |k,n+1=>lkA k l::spF l (k+1) n
def sp(n:Nat)(l:List (Nat×V)):List V:=spF l 0 n
def ins(i:Nat)(v:V):List (Nat×V)→List (Nat×V)
 |[]=>[(i,v)]
 |p::l=>if i=p.1 then (i,v)::l else if i<p.1 then (i,v)::p::l else p::ins i v l
def Qfa(ks:List Nat):List (Nat×V)→List (Nat×V)
 |[]=>[]
 |p::l=>if memN p.1 ks=true then p::Qfa ks l else Qfa ks l
def jkA(q:Nat→Bool):List (Nat×V)→List (Nat×V)
 |[]=>[]
 |p::l=>(p.1,p.2.jk q)::jkA q l
def Qvy(k:Nat):List V→List (Nat×V)
 |[]=>[]
 |x::xs=>(k,x)::Qvy (k+1) xs
theorem Qzf(i:Nat)(v:V)(k:Nat): ∀l,lkA k (ins i v l)=if i=k then v else lkA k l
 |[]=>by simp[ins,lkA]
 |p::l=>by
  unfold ins
  split
  ·rename_i h
   by_cases hk:i=k
   ·simp[lkA,hk]
   ·simp[lkA,hk,←h]
  ·split
   ·by_cases hk:i=k<;>simp[lkA,hk]
   ·rename_i h _
    simp only[lkA,Qzf i v k l]
    by_cases hk:i=k
    ·subst hk
     have: ¬p.1=i:=fun e=>h e.symm
     simp[this]
    ·simp[hk]
theorem Qrd(ks:List Nat)(k:Nat): ∀l,lkA k (Qfa ks l)=if memN k ks=true then lkA k l else .junk
 |[]=>by simp[Qfa,lkA]
 |p::l=>by
  unfold Qfa
  split
  ·rename_i h
   simp only[lkA,Qrd ks k l]
   by_cases hk:p.1=k
   ·subst hk;simp[h]
   ·simp[hk]
  ·rename_i h
   simp only[lkA,Qrd ks k l]
   by_cases hk:p.1=k
   ·subst hk;simp[h]
   ·simp[hk]
theorem Q12m(q:Nat→Bool)(k:Nat): ∀l,lkA k (jkA q l)=(lkA k l).jk q
 |[]=>by simp[jkA,lkA,V.jk]
 |p::l=>by
  simp only[jkA,lkA,Q12m q k l]
  split<;>rfl
theorem Qqa: ∀(xs:List V) (k i:Nat),lkA i (Qvy k xs)=if i<k then .junk else xs.getD (i-k) .junk
 |[],k,i=>by simp[Qvy,lkA]
 |x::xs,k,i=>by
  simp only[Qvy,lkA,Qqa xs (k+1) i]
  by_cases h:k=i
  ·subst h;simp
  ·rw[if_neg h]
   by_cases h2:i<k
   ·rw[if_pos h2,if_pos Zb]
   ·rw[if_neg h2,if_neg Zb,show i-k=(i-(k+1))+1 from by omega]
    simp
theorem Qz2(l:List (Nat×V)): ∀(n k i:Nat),(spF l k n)[i]? =if i<n then some (lkA (k+i) l) else none
 |0,k,i=>by simp[spF]
 |n+1,k,i=>by
  cases i with
  |zero=>simp[spF]
  |succ i=>
   simp only[spF,List.getElem?_cons_succ,Qz2 l n (k+1) i]
   rw[show k+1+i=k+(i+1) from by omega]
   by_cases h:i<n
   ·rw[if_pos h,if_pos Zb]
   ·rw[if_neg h,if_neg Zb]
theorem Qax(n:Nat)(l:List (Nat×V))(i:Nat):(sp n l)[i]? =if i<n then some (lkA i l) else none:=by
 unfold sp;rw[Qz2];simp
theorem Q4e(n:Nat)(l:List (Nat×V)):(sp n l).length=n:=by
 have: ∀n k,(spF l k n).length=n:=by
  intro n
  induction n with
  |zero=>intro k;rfl
  |succ n ih=>intro k;simp[spF,ih]
 exact this n 0
theorem Quu{xs:List V}{n:Nat}{l:List (Nat×V)}(hn:xs.length=n)(h: ∀i,i<n→xs[i]? =some (lkA i l)):xs=sp n l:=by
 apply List.ext_getElem?
 intro i
 rw[Qax]
 split
 ·rename_i hi;exact h i hi
 ·rename_i hi;rw[List.getElem?_eq_none];omega
theorem Q164(n:Nat)(l:List (Nat×V))(i:Nat)(v:V):(sp n l).set i v=sp n (ins i v l):=by
 refine Quu (by rw[List.length_set,Q4e]) fun k hk=> ?_
 rw[Qzf,List.getElem?_set,Q4e,Qax]
 by_cases h:i=k
 ·subst h;simp[hk]
 ·simp[h,hk]
theorem Qtx(ks:List Nat): ∀(xs:List V) (n i:Nat),(Qc1 n ks xs)[i]? =(xs[i]?).map fun x=>if memN (n+i) ks=true then x else .junk
 |[],n,i=>by simp[Qc1]
 |x::xs,n,i=>by
  cases i with
  |zero=>simp[Qc1]
  |succ i=>
   simp only[Qc1,List.getElem?_cons_succ,Qtx ks xs (n+1) i]
   rw[show n+1+i=n+(i+1) from by omega]
theorem Ql6(ks:List Nat): ∀(xs:List V) (n:Nat),(Qc1 n ks xs).length=xs.length
 |[],n=>by simp[Qc1]
 |x::xs,n=>by simp[Qc1,Ql6 ks xs]
theorem Qi3(n:Nat)(ks:List Nat)(l:List (Nat×V)):Qc1 0 ks (sp n l)=sp n (Qfa ks l):=by
 refine Quu (by rw[Ql6,Q4e]) fun k hk=> ?_
 rw[Qtx,Qax,Qrd,if_pos hk]
 simp
theorem Q178(q:Nat→Bool)(n:Nat)(l:List (Nat×V)):jkL q (sp n l)=sp n (jkA q l):=by
 refine Quu (by rw[Qan,List.length_map,Q4e]) fun k hk=> ?_
 rw[Qan,List.getElem?_map,Qax,Q12m,if_pos hk]
 rfl
theorem R.less{w:World}{fr:Nat→Prop}{m:Mp}: ∀{xs ys:List V} {us:List Value},R w fr m (.list xs us) z0→ys.length=xs.length→(∀(i:Nat) (y:V),ys[i]? =some y→xs[i]? =some y∨y= .junk)→R w fr m (.list ys us) z0
 |[],ys,us,h,hl,_=>by
  have:ys=[]:=List.eq_nil_of_length_eq_zero Zbh
  subst this;exact h
 |x::xs,[],us,h,hl,_=>by simp at hl
 |x::xs,y::ys,us,h,hl,hy=>by
  generalize hz:z0=c at h
  cases h with
  |lcons h1 h2 he=>
   rename_i u us c1 c2
   have e1:c1=z0:=funext fun y=>by have:=he y;rw[←hz] at this;simp[z0] at this⊢;omega
   have e2:c2=z0:=funext fun y=>by have:=he y;rw[←hz] at this;simp[z0] at this⊢;omega
   subst e1;subst e2
   have hr:=R.less h2 Zbh (fun i z hz=>by simpa using hy (i+1) z (by simpa using hz))
   rcases hy 0 y rfl with h0|h0
   ·simp at h0;subst h0;exact .lcons h1 hr (fun _=>by rw[←hz];simp[z0])
   ·subst h0;exact .lcons .junk hr (fun _=>by rw[←hz];simp[z0])
theorem Le.less{X:Ctx}{xs ys:List V}{ob:List Ob}(hl:ys.length=xs.length)(hy: ∀(i:Nat) (y:V),ys[i]? =some y→xs[i]? =some y∨y= .junk):Le X ⟨xs,ob⟩ ⟨ys,ob⟩:=
 fun _ m cn _ hi hs=>⟨m,cn,hi,R.less hs hl hy⟩
theorem Q13x{P:Program}{T:Nat→Option TI}(hT:TOK P T){f:FuncId}{fn:Func}{c:Code}(hf:P.funcs[f]? =some fn)(hb:fn.body=some c)(n:Nat)(hn:fn.ntmps=n){args:List V}(hl:Nat.ble args.length n=true){ob ob':List Ob}{r:V}
  (h: ∀X:Ctx,X.n0=ob.length→W P X c ⟨sp n (Qvy 0 args),ob⟩ (Qj6 T fn ob.length r ob')):Ct P f args ob r ob':=by
 refine Q15i hT hf hb fun X hX=>Q15 (Le.less ?_ fun i y hy=> ?_) (h X hX)
 ·have:=Nat.le_of_ble_eq_true hl
  rw[Q4e,List.length_append,List.length_replicate];omega
 ·rw[Qax] at hy
  split at hy
  ·rw[Qqa] at hy
   simp at hy
   by_cases hi:i<args.length
   ·left
    rw[List.getElem?_append_left hi,List.getElem?_eq_getElem hi]
    rw[List.getElem?_eq_getElem hi] at hy
    simpa using hy
   ·right
    rw[List.getElem?_eq_none Zb] at hy
    simpa using hy.symm
  ·cases hy
def Qjl(b:Bool):List (Nat×V)→List (Nat×V)→List (Nat×V)
 |[],_=>[]
 |_,[]=>[]
 |p::l1,q::l2=>if p.1=q.1 then (p.1,bif b then p.2 else q.2)::Qjl b l1 l2 else if p.1<q.1 then (p.1,.junk)::Qjl b l1 (q::l2) else (q.1,.junk)::Qjl b (p::l1) l2
 termination_by l1 l2=>l1.length+l2.length
theorem Qmw(k:Nat)(l1 l2:List (Nat×V)):lkA k (Qjl true l1 l2)=lkA k l1∨lkA k (Qjl true l1 l2)= .junk:=by
 fun_induction Qjl true l1 l2 with
 |case1=>exact .inr rfl
 |case2=>exact .inr rfl
 |case3 p l1 q l2 h ih=>
  simp only[lkA]
  split
  ·exact .inl rfl
  ·exact ih
 |case4 p l1 q l2 h h2 ih=>
  by_cases hk:p.1=k
  ·simp[lkA,hk]
  ·simp only[lkA,if_neg hk];exact ih
 |case5 p l1 q l2 h h2 ih=>
  by_cases hk:q.1=k
  ·right;simp[lkA,hk]
  ·simp only[lkA,if_neg hk] at ih⊢;exact ih
theorem Qjk(k:Nat)(l1 l2:List (Nat×V)):lkA k (Qjl false l1 l2)=lkA k l2∨lkA k (Qjl false l1 l2)= .junk:=by
 fun_induction Qjl false l1 l2 with
 |case1=>exact .inr rfl
 |case2=>exact .inr rfl
 |case3 p l1 q l2 h ih=>
  simp only[lkA,h]
  split
  ·exact .inl rfl
  ·exact ih
 |case4 p l1 q l2 h h2 ih=>
  by_cases hk:p.1=k
  ·right;simp[lkA,hk]
  ·simp only[lkA,if_neg hk] at ih⊢;exact ih
 |case5 p l1 q l2 h h2 ih=>
  by_cases hk:q.1=k
  ·simp[lkA,hk]
  ·simp only[lkA,if_neg hk];exact ih
theorem Le.less_sp{X:Ctx}{n:Nat}{l l':List (Nat×V)}{ob:List Ob}(h: ∀k,lkA k l'=lkA k l∨lkA k l'= .junk):Le X ⟨sp n l,ob⟩ ⟨sp n l',ob⟩:=
 Le.less (by rw[Q4e,Q4e]) fun i y hy=>by
  rw[Qax] at hy⊢
  split at hy
  ·rename_i hi
   rw[if_pos hi]
   simp only[Option.some.injEq] at hy⊢
   subst hy
   rcases h i with h|h
   ·exact .inl h.symm
   ·exact .inr h
  ·cases hy
section
variable {P:Program} {X:Ctx} {ops:Array Oper} {l:List Oper} {st s1 s0 s2:St} {Q:Exit→St→Prop}
theorem Q8.mrgS(k d:Nat)(ks:List Nat){b:Bool}{n:Nat}{l1 l0:List (Nat×V)}{ob1 ob0:List Ob}{x:Option V}(hd:st.tm[d]? =x)(hx:x=some (.bool b))
  (h1:b=true→Q8 P X ops (l.take k) ⟨st.tm.set d (.bool true),st.ob⟩ s1) (h0:b=false→Q8 P X ops (l.take k) ⟨st.tm.set d (.bool false),st.ob⟩ s0)
  (e1:s1=⟨sp n l1,ob1⟩) (e0:s0=⟨sp n l0,ob0⟩) (hk:Q8 P X ops (l.drop k) ⟨sp n (Qjl b (Qfa ks l1) (Qfa ks l0)),Qr4 b ob1 ob0⟩ s2):Q8 P X ops l st s2:=by
 subst hx
 refine Q8.trans k ?_ hk
 have hset: ∀c:Bool,b=c→(⟨st.tm.set d (.bool c),st.ob⟩:St)=st:=fun c hc=>by
  subst hc
  rw[Qcv hd]
 cases b with
 |true=>
  have:=h1 rfl
  rw[hset true rfl,e1] at this
  rw[Qd5]
  refine (this.weak (Le.keep ks _)).weak ?_
  rw[St.keep,Qi3]
  exact Le.less_sp fun k=>Qmw k _ _
 |false=>
  have:=h0 rfl
  rw[hset false rfl,e0] at this
  rw[Qb1]
  refine (this.weak (Le.keep ks _)).weak ?_
  rw[St.keep,Qi3]
  exact Le.less_sp fun k=>Qjk k _ _
theorem Q15d{c:Operand}{x y:Code}{t:Bool}{v:V}(hc:val st c=v)(hv:v= .bool t)(h1:t=true→W P X x st Q)(h2:t=false→W P X y st Q):W P X (.cond c x y) st Q:=
 Q13p (hc.trans hv) h1 h2
theorem Qbi{c:Operand}{x y z:Code}{b:Bool}{v:V}{n:Nat}{l1 l0:List (Nat×V)}{ob1 ob0:List Ob}(ks:List Nat)(hc:val st c=v)(hv:v= .bool b)
  (h1:b=true→W P X x st (fun e s=>e= .normal∧s=⟨sp n l1,ob1⟩)) (h0:b=false→W P X y st (fun e s=>e= .normal∧s=⟨sp n l0,ob0⟩))
  (hk:W P X z ⟨sp n (Qjl b (Qfa ks l1) (Qfa ks l0)),Qr4 b ob1 ob0⟩ Q):W P X (.cond c x y) st (Qg9 (fun s=>W P X z s Q) Q):=by
 refine Q13p (hc.trans hv) (fun hb=> ?_) (fun hb=> ?_)
 ·subst hb
  refine Qys (h1 rfl) fun e s ⟨he,hs⟩=> ?_
  subst he;subst hs
  rw[Qd5] at hk
  refine Q15 (Le.keep ks _) (Q15 ?_ hk)
  rw[St.keep,Qi3]
  exact Le.less_sp fun k=>Qmw k _ _
 ·subst hb
  refine Qys (h0 rfl) fun e s ⟨he,hs⟩=> ?_
  subst he;subst hs
  rw[Qb1] at hk
  refine Q15 (Le.keep ks _) (Q15 ?_ hk)
  rw[St.keep,Qi3]
  exact Le.less_sp fun k=>Qjk k _ _
theorem Q18.weakL{xs ys:List V}{ob:List Ob}(h:Q18 P X ops l st ⟨xs,ob⟩)(hl:ys.length=xs.length)(hy: ∀(i:Nat) (y:V),ys[i]? =some y→xs[i]? =some y∨y= .junk):Q18 P X ops l st ⟨ys,ob⟩:=
 ⟨h.1,fun w m cn a rest Qf hi hs hd hq=>h.2 w m cn a rest Qf hi hs hd fun a' hs' hd'=>hq a' (R.less hs' hl hy) hd'⟩
theorem Q18.mrgS(k d:Nat)(ks:List Nat){b:Bool}{n:Nat}{l1 l0:List (Nat×V)}{ob1 ob0:List Ob}{x:Option V}(hd:st.tm[d]? =x)(hx:x=some (.bool b))
  (h1:b=true→Q18 P X ops (l.take k) ⟨st.tm.set d (.bool true),st.ob⟩ s1) (h0:b=false→Q18 P X ops (l.take k) ⟨st.tm.set d (.bool false),st.ob⟩ s0)
  (e1:s1=⟨sp n l1,ob1⟩) (e0:s0=⟨sp n l0,ob0⟩) (hk:Q18 P X ops (l.drop k) ⟨sp n (Qjl b (Qfa ks l1) (Qfa ks l0)),st.ob⟩ s2):Q18 P X ops l st s2:=by
 subst hx
 refine Q18.trans k ?_ hk
 have hset: ∀c:Bool,b=c→(⟨st.tm.set d (.bool c),st.ob⟩:St)=st:=fun c hc=>by
  subst hc
  rw[Qcv hd]
 have fin: ∀{xs:List (Nat×V)} {ob:List Ob} (zs:List (Nat×V)),Q18 P X ops (l.take k) st ⟨sp n xs,ob⟩→(∀k,lkA k zs=lkA k (Qfa ks xs)∨lkA k zs= .junk)→Q18 P X ops (l.take k) st ⟨sp n zs,st.ob⟩:=by
  intro xs ob zs h hz
  have hob:ob=st.ob:=h.1
  subst hob
  have h2:=h.weak (ks:=ks)
  rw[St.keep,Qi3] at h2
  refine h2.weakL (by rw[Q4e,Q4e]) fun i y hy=> ?_
  rw[Qax] at hy⊢
  split at hy
  ·rename_i hi
   rw[if_pos hi]
   simp only[Option.some.injEq] at hy⊢
   subst hy
   rcases hz i with h|h
   ·exact .inl h.symm
   ·exact .inr h
  ·cases hy
 cases b with
 |true=>
  have:=h1 rfl
  rw[hset true rfl,e1] at this
  exact fin _ this fun k=>Qmw k _ _
 |false=>
  have:=h0 rfl
  rw[hset false rfl,e0] at this
  exact fin _ this fun k=>Qjk k _ _
end
end Go.Ev
namespace Go.Ev
open Go
def ixL(c:UInt8):List UInt8→Int
 |[]=> -1
 |x::l=>if x=c then 0 else if ixL c l<0 then-1 else ixL c l+1
theorem Qvm(l:List UInt8)(c:UInt8):firstIdx ⟨l.toArray⟩ c=ixL c l:=by
 have key: ∀l:List UInt8,(match (List.range l.length).find? (fun i=>l.getD i 0==c) with|some i=>(i:Int)|none=> -1)=ixL c l:=by
  intro l
  induction l with
  |nil=>rfl
  |cons x l ih=>
   rw[List.length_cons,List.range_succ_eq_map,List.find?_cons,List.find?_map]
   by_cases hx:x=c
   ·simp[ixL,hx]
   ·have:((x::l).getD 0 0==c)=false:=by simpa using hx
    rw[this]
    simp only[ixL,if_neg hx,←ih]
    have e:((fun i=>(x::l).getD i 0==c)∘Nat.succ)=(fun i=>l.getD i 0==c):=by funext i;simp
    rw[e]
    cases (List.range l.length).find? (fun i=>l.getD i 0==c) with
    |none=>simp
    |some i=>simp;omega
 rw[←key]
 unfold firstIdx
 have hs:(⟨l.toArray⟩:ByteArray).size=l.length:=by show l.toArray.size=_;simp
 have hg:(fun i=>(⟨l.toArray⟩:ByteArray)[i]! ==c)=(fun i=>l.getD i 0==c):=by
  funext i
  congr 1
  rcases Nat.lt_or_ge i l.length with h|h
  ·rw[getElem!_pos _ _ (by rw[hs];exact h)]
   show (l.toArray)[i]'_=_
   simp[h]
  ·rw[getElem!_neg _ _ (by rw[hs];omega)]
   simp[List.getD_eq_getElem?_getD,List.getElem?_eq_none h]
   rfl
 rw[hs,hg]
 rfl
section
variable {T:Nat→Option TI} {st:St}
theorem Qp{fn:Func}{n0:Nat}{r r':V}{ob' ob'':List Ob}{z:Option (V×List Ob)}(h:Qgu T fn n0 st=z)(hz:z=some (r',ob''))(hr:Wk r' r)(ho:ob''=ob'):Qj6 T fn n0 r ob' .ret st:=Q1b (h.trans hz) hr ho
theorem Qk{fn:Func}{n0:Nat}{r r':V}{ob' ob'':List Ob}{z:Option (V×List Ob)}(h:Qgu T fn n0 st=z)(hz:z=some (r',ob''))(hr:Wk r' r)(ho:ob''=ob'):Qj6 T fn n0 r ob' .normal st:=Qw0 (h.trans hz) hr ho
end
def Q15z(P:Program)(f:FuncId):Prop:=
 ∃ fn, P.funcs[f]? = some fn ∧ (fn.name == "runtime.NumGoroutine") = false ∧ fn.body.isNone = true ∧ Extern.findNext fn = none ∧ Extern.find fn = some Extern.BytealgIndexByte.indexByte
theorem Q8.extIB{P:Program}{X:Ctx}{ops:Array Oper}{rest:List Oper}{st s2:St}{o:Oper}{f:FuncId}{x y:Operand}{ts:Array TypeId}{l:List UInt8}{c:UInt8}
  (ho:o.op= .call {callee:= .value (.func f),args:= #[x,y],argTypes:=ts}) (hg:gd ops st o.guard=some true) (hx:val st x= .str l) (hy:val st y= .int .u8 c.toNat) (hE:Q15z P f)
  {s1:St} (he:(⟨Q2l o.dst (.int .i64 (ixL c l)) st.tm,st.ob⟩:St)=s1) (hk:Q8 P X ops rest s1 s2):Q8 P X ops (o::rest) st s2:=by
 subst he
 have hop:OKp P X [] st o (.int .i64 (ixL c l)):=by
  intro w m cn a hi hs
  have h1:=Q14 hs x
  have h2:=Q14 hs y
  rw[hx] at h1
  rw[hy] at h2
  obtain ⟨fn,e1,e2,e3,e4,e5⟩:=hE
  refine ⟨.int .i64 (ixL c l),fun w' _=> ?_,.int _ _⟩
  have h3:=run_indexByte_string (P:=P) ⟨l.toArray⟩ (c.toNat:Int) w'
  rw[show ((c.toNat:Int).toNat.toUInt8)=c from by simp,Qvm] at h3
  have hf:a.eval (.func f)= .func (.func f) #[] #[]:=rfl
  simp only[execOp,ho,resolve,Deferred.ofValue,hf,Sem.run_bind,Sem.run_pure,Result.andThen_ok,invoke,List.map_toArray,List.map_cons,List.map_nil,R.inv_str h1,R.inv_int h2]
  rw[run_callFunc_extern e1 e2 e3 e4 e5]
  simp[h3]
 exact fun rest' Q hq=>Q102 hop.ok hg (hk rest' Q hq)
end Go.Ev
namespace Go.Ev
open Go
mutual
def V.borD(ob:List Ob)(g:List V→List V):V→V
 | .arr id o n=>if o+n≤(seen ob id).length then .lst false (Qkr ob id) (fzL (((seen ob id).drop o).take n)) else .junk
 | .ptr id i j=>if i<(seen ob id).length∧j≤((seen ob id).getD i .junk).cells.length then .fp (g (((seen ob id).getD i .junk).cells.drop j)) else .junk
 | .lst true k xs=> .lst false k (fzL xs)
 | .bx _ x=> .fp x.fz.cells
 | .agg xs=> .agg (borDL ob g xs)
 | .tup xs=> .tup (borDL ob g xs)
 | .clo f xs ys=> .clo f (borDL ob g xs) (borDL ob g ys)
 | .ifc t x=> .ifc t (x.borD ob g)
 |x=>x
def borDL(ob:List Ob)(g:List V→List V):List V→List V
 |[]=>[]
 |x::xs=>x.borD ob g::borDL ob g xs
end
abbrev Qxj (ob:List Ob):List V→List V:=borDL ob (borDL ob fzL)
section
variable {w:World} {fr fr':Nat→Prop} {m:Mp} {X:Ctx} {ob:List Ob} {cn:Nat→Cnt} {g:List V→List V}
theorem Q16u(hi:Inv X w ob m cn)(hf: ∀b,b<w.heap.size→fr' b)(hg: ∀b off xs c,R w (frz X cn) m (.cells b off xs) c→R w fr' Q1e (.cells b off (g xs)) z0){m':Mp}: ∀{x:V} {u:Value} {c:Cnt},R w (frz X cn) m (.one x u) c→
  (∀xs us c,R w (frz X cn) m (.list xs us) c→(∀y∈xs,SizeOf.sizeOf y<SizeOf.sizeOf x)→R w fr' m' (.list (borDL ob g xs) us) z0)→
  (∀y u c,SizeOf.sizeOf y<SizeOf.sizeOf x→R w (frz X cn) m (.one y u) c→R w fr' m' (.one (y.borD ob g) u) z0)→R w fr' m' (.one (x.borD ob g) u) z0:=by
 intro x u c h ihL ih1
 have hf': ∀b,b<w.heap.size→frz X cn b→fr' b:=fun b hb _=>hf b hb
 cases h with
 |junk=>exact .junk
 |bool=>exact .bool _
 |int=>exact .int _ _
 |str=>exact .str _
 |raw u h=>exact .raw _ h
 |agg h=>exact .agg (ihL _ _ _ h (fun y hy=>by have:=List.sizeOf_lt_of_mem hy;simp only[V.agg.sizeOf_spec];omega))
 |tup h=>exact .tup (ihL _ _ _ h (fun y hy=>by have:=List.sizeOf_lt_of_mem hy;simp only[V.tup.sizeOf_spec];omega))
 | @nil _ o k=>cases o<;>exact .nil
 | @nilz _ o k a=>cases o<;>exact .nilz
 |frz hl hb hk hn h=>
  exact .frz hl (hf _ hl) hk hn (h.mono (Nat.le_refl _) (fun b hb h=>⟨hf b hb,rfl⟩) (fun _ _=>rfl) (.inr rfl) (fun _ _ h=>by simp[Q1e] at h))
 |own hb hs hk hn h hcc=>exact R.fz (m:=m) hf' (.own hb hs hk hn h hcc) (fun b hb _=>hf b hb) m'
 |bx hb hs hk h hcc=>exact R.fz (m:=m) hf' (.bx hb hs hk h hcc) (fun b hb _=>hf b hb) m'
 |fp hl hb h=>
  exact .fp hl (hf _ hl) (h.mono (Nat.le_refl _) (fun b hb h=>⟨hf b hb,rfl⟩) (fun _ _=>rfl) (.inr rfl) (fun _ _ h=>by simp[Q1e] at h))
 |fmap hl hb he h=>exact .fmap hl (hf _ hl) he h
 | @ptr _ id i j b k h=>
  simp only[V.borD]
  split
  ·rename_i hcd
   have hne:seen ob id≠[]:=by intro h0;rw[h0] at hcd;simp at hcd
   obtain ⟨rfl,cur,e,c1,g1,g2,g3,g4,g5⟩:=hi.object (Qi4 hne) h
   have hlt:b<w.heap.size:=(Array.getElem?_eq_some_iff.1 g1).1
   obtain ⟨c1,c2,c3,_,h2,_,_⟩:=R.elem g4 g2 hcd.1
   rw[←List.take_append_drop j ((seen ob id).getD i .junk).cells] at h2
   obtain ⟨c4,c5,_,h3,_⟩:=R.split h2
   rw[List.length_take,Nat.min_eq_left hcd.2] at h3
   exact .fp hlt (hf _ hlt) (hg _ _ _ _ h3)
  ·exact .junk
 | @arr _ id o n b k cap cur e h hb hn hcap=>
  simp only[V.borD]
  split
  ·rename_i hcd
   by_cases hn0:n=0
   ·subst hn0
    have hlt:b<w.heap.size:=hi.mlt _ _ h
    simp only[List.take_zero,fzL]
    exact .frz (xs:=[]) hlt (hf _ hlt) (fun x hx=>by simp at hx) Z3 .cnil
   ·have hne:seen ob id≠[]:=by intro h0;rw[h0] at hcd;simp at hcd;omega
    obtain ⟨rfl,cur,e,c1,g1,g2,g3,g4,g5⟩:=hi.object (Qi4 hne) h
    have hlt:b<w.heap.size:=(Array.getElem?_eq_some_iff.1 g1).1
    rw[Q5g o] at g4
    obtain ⟨c1,c2,_,q2,q3⟩:=R.split g4
    rw[Q2f g2 Zb,Nat.zero_add,Q5g n] at q2
    obtain ⟨c3,c4,q4,_,q6⟩:=R.split q2
    have hlen:(fzL (((seen ob id).drop o).take n)).length=n:=by rw[Q6j,List.length_take,List.length_drop];omega
    have:=R.frz (w:=w) (fr:=fr') (m:=m') (k:=Qkr ob id) (xs:=fzL (((seen ob id).drop o).take n)) (b:=b) (off:=o*Qkr ob id) (cap:=cap) hlt (hf _ hlt) (Qq2 (Q60 (Qg6 g2 o) n)) (by rw[hlen];exact hn)
     Z9e
    rw[hlen] at this
    exact this
  ·exact .junk
 | @arrz _ id o b k cap cur e off h hb ho=>
  simp only[V.borD]
  split
  ·have hlt:b<w.heap.size:=hi.mlt _ _ h
   simp only[List.take_zero,fzL]
   exact .frz (xs:=[]) hlt (hf _ hlt) (fun x hx=>by simp at hx) Z3 .cnil
  ·exact .junk
 | @arrn _ id o=>
  simp only[V.borD]
  split
  ·rename_i ad _
   simp only[List.take_zero,fzL]
   cases ad<;>first|exact .nil|exact .nilz
  ·exact .junk
 | @clo _ f xs us ys vs c d e h1 h2 he=>
  exact .clo (ihL _ _ _ h1 (fun y hy=>by have:=List.sizeOf_lt_of_mem hy;simp only[V.clo.sizeOf_spec];omega))
   (ihL _ _ _ h2 (fun y hy=>by have:=List.sizeOf_lt_of_mem hy;simp only[V.clo.sizeOf_spec];omega)) (fun _=>by simp[z0])
 | @ifc _ t x u c h=>exact .ifc (ih1 _ _ _ (by simp only[V.ifc.sizeOf_spec];omega) h)
theorem Que(hi:Inv X w ob m cn)(hf: ∀b,b<w.heap.size→fr' b)(hg: ∀b off xs c,R w (frz X cn) m (.cells b off xs) c→R w fr' Q1e (.cells b off (g xs)) z0){m':Mp}: ∀{xs:List V} {us:List Value} {c:Cnt},R w (frz X cn) m (.list xs us) c→(∀y∈xs,∀u c,R w (frz X cn) m (.one y u) c→R w fr' m' (.one (y.borD ob g) u) z0)→
  R w fr' m' (.list (borDL ob g xs) us) z0:=by
 intro xs
 induction xs with
 |nil=>intro us c h _;cases h;exact .lnil
 |cons x xs ih=>
  intro us c h hy
  cases h with
  |lcons h1 h2 he=>
   exact .lcons (hy x Z3 _ _ h1) (ih h2 (fun y hm=>hy y (by simp[hm]))) (fun _=>by simp[z0])
theorem Q15v(hi:Inv X w ob m cn)(hf: ∀b,b<w.heap.size→fr' b)(hg: ∀b off xs c,R w (frz X cn) m (.cells b off xs) c→R w fr' Q1e (.cells b off (g xs)) z0){m':Mp}(n:Nat): ∀{x:V} {u:Value} {c:Cnt},SizeOf.sizeOf x=n→R w (frz X cn) m (.one x u) c→R w fr' m' (.one (x.borD ob g) u) z0:=by
 induction n using Nat.strongRecOn with
 |_ n ih=>
  intro x u c hn h
  refine Q16u hi hf hg h ?_ ?_
  ·intro xs us c h hlt
   exact Que hi hf hg h (fun y hy u c h=>ih _ (hn▸hlt y hy) rfl h)
  ·intro y u c hlt h
   exact ih _ (hn▸hlt) rfl h
theorem Qzj(hf: ∀b,b<w.heap.size→fr' b): ∀b off xs c,R w (frz X cn) m (.cells b off xs) c→R w fr' Q1e (.cells b off (fzL xs)) z0:=
 fun _ _ _ _ h=>R.fz (fun b hb _=>hf b hb) h (fun b hb _=>hf b hb) Q1e
theorem Quf(hi:Inv X w ob m cn)(hf: ∀b,b<w.heap.size→fr' b)(hg: ∀b off xs c,R w (frz X cn) m (.cells b off xs) c→R w fr' Q1e (.cells b off (g xs)) z0):
  ∀b off xs c,R w (frz X cn) m (.cells b off xs) c→R w fr' Q1e (.cells b off (borDL ob g xs)) z0:=by
 intro b off xs
 induction xs generalizing off with
 |nil=>intro c h;cases h;exact .cnil
 |cons x xs ih=>
  intro c h
  cases h with
  |ccons hc h1c h1 h2 he=>exact .ccons hc h1c (Q15v hi hf hg _ rfl h1) (ih _ _ h2) (fun _=>by simp[z0])
theorem Q11a(hi:Inv X w ob m cn)(hf: ∀b,b<w.heap.size→fr' b){m':Mp}{xs:List V}{us:List Value}{c:Cnt}(h:R w (frz X cn) m (.list xs us) c):
  R w fr' m' (.list (Qxj ob xs) us) z0:=
 Que hi hf (Quf hi hf (Qzj hf)) h (fun _ _ _ _ h=>Q15v hi hf (Quf hi hf (Qzj hf)) _ rfl h)
end
section
variable {P:Program} {X:Ctx} {T:Nat→Option TI} {ops:Array Oper} {rest l l':List Oper} {st s1 s2:St} {Q:Exit→St→Prop} {o:Oper}
theorem Q8.callB2{fo:Operand}{as:Array Operand}{ts:Array TypeId}{f:FuncId}{first cap args':List V}{r:V}
  (ho:o.op= .call {callee:= .value fo,args:=as,argTypes:=ts}) (hg:gd ops st o.guard=some true) (hf:val st fo= .clo (.func f) first cap)
  (ha:Qxj st.ob (first++as.toList.map (val st)++cap)=args')
  (hct:Ct P f args' [] r []) (hF:Q6 P f) (hsol:r.solid=true) (he:(⟨Q2l o.dst (Q32 st.ob r).1 st.tm,(Q32 st.ob r).2⟩:St)=s1) (hk:Q8 P X ops rest s1 s2):Q8 P X ops (o::rest) st s2:=by
 subst ha;subst he
 intro rest' Q hq
 have hk:=hk rest' Q hq
 intro w m cn a hi hs hd
 refine wpList_step fun K hK=> ?_
 rw[Q62 hs hg,if_pos rfl]
 have hfv:=Q14 hs fo
 rw[hf] at hfv
 obtain ⟨us1,vs1,he,hfirst,hcap⟩: ∃us1 vs1,a.eval fo= .func (.func f) (List.toArray us1) (List.toArray vs1)∧R w (frz X cn) m (.list first us1) z0∧R w (frz X cn) m (.list cap vs1) z0:=by
  generalize a.eval fo=u at hfv
  generalize hz:z0=c at hfv
  cases hfv with
  |clo h1 h2 he=>
   subst hz
   exact ⟨_,_,rfl,h1.zero fun z=>by have:=he z;simp[z0] at this;omega,h2.zero fun z=>by have:=he z;simp[z0] at this;omega⟩
 have hargs: ∀l:List Operand,R w (frz X cn) m (.list (l.map (val st)) (l.map a.eval)) z0:=by
  intro l
  induction l with
  |nil=>exact .lnil
  |cons x l ih=>exact .lcons (Q14 hs x) ih (fun _=>rfl)
 have hall:=((hfirst.ljoin (hargs as.toList)).ljoin hcap).zero fun z=>by simp[z0]
 let C:Ctx:=⟨w,fun b=>b<w.heap.size,fun b=> ∃id,0<((fun _=>z0):Nat→Cnt) id b,Q1e,([]:List Ob).length⟩
 have hCinv:Inv C w [] Q1e (fun _=>z0):=by
  refine ⟨Nat.le_refl _,fun _ _ _=>rfl,rfl,rfl,rfl,fun i o ho=>by simp at ho,fun b i j h=>absurd h Z2z,fun i b=>by simp[z0],fun i b h=>absurd h Z2z,fun i h=>rfl,fun i h=>rfl,fun i x h=>by simp[Q1e] at h,Nat.le_refl _,fun _ _=>rfl⟩
 have hCR:R w (frz C (fun _=>z0)) Q1e (.list (Qxj st.ob (first++as.toList.map (val st)++cap)) (us1++as.toList.map a.eval++vs1)) z0:=
  Q11a hi (fr':=frz C (fun _=>z0)) (fun b hb=>⟨.inl hb,fun _=>rfl⟩) hall
 have hcall:=hct w (fun b=>b<w.heap.size) Q1e (fun _=>z0) (us1++as.toList.map a.eval++vs1) (fun b hb=>⟨hb,fun _=>rfl⟩) hCinv hCR
 unfold Oper.wp
 have hrun:(execOp a.eval o).run P w= .ok (.enter f (us1++as.toList.map a.eval++vs1).toArray) w:=by
  simp only[execOp,ho,resolve,Deferred.ofValue,he,Sem.run_bind,Sem.run_pure,Result.andThen_ok,invoke]
  rw[Q6r hF]
  congr 2
  apply Array.ext'
  simp
 rw[hrun]
 refine Calls.mono hcall ?_
 rintro e w' ⟨u,mc,cnc,d,rfl,h1,h2,h3,n,h4,h5⟩
 have h1':Inv (Q8y X w m cn []) w' [] mc cnc:=by
  refine ⟨h1.le,fun b hb hn=>h1.kept b hb (fun ⟨id,hid⟩=>absurd hid Z2z),h1.os,h1.tape,h1.output,fun i o ho=>by simp at ho,h1.dis,h1.one,fun i b h=> ?_,h1.fresh,fun i hi=>by simp[Q8y] at hi,h1.mlt,Nat.le_refl _,h1.shp⟩
  obtain ⟨g1,g2⟩:=h1.new i b h
  refine ⟨g1,.inl ?_⟩
  rcases g2 with g2|⟨id,g2⟩
  ·exact g2
  ·exact absurd g2 Z2z
 have h2':R w' (frz (Q8y X w m cn []) cnc) mc (.one r u) d:=R.solid h2 hsol mc
 have hN:st.ob.length≤(Q32 st.ob r).2.length:=Qia st.ob r
 obtain ⟨a1,a2,a3,a4⟩:=Q7t hi List.nodup_nil (fun id h=>by simp at h) h1' h2' rfl (Nat.zero_le n) h5 hN
 rw[Q9n _ r hsol] at a3
 replace a1:Inv X w' st.ob m _:=a1
 obtain ⟨m2,cn2,b1,b2,b3,_,_⟩:=Ql0 r a1 (Nat.le_refl _) a3 a4
 have hs2:Sl X w' m2 cn2 (Q2l o.dst (Q32 st.ob r).1 st.tm) (a.put o.dst u):=by
  have:=(b2.Sl (a2.Sl hs)).set o.dst b3
  cases hod:o.dst<;>simpa[Q2l,hod] using this
 have hd2:(a.put o.dst u).defers=[]:=by cases hod:o.dst<;>simpa[Act.put] using hd
 exact hK _ _ (hk w' m2 cn2 _ b1 hs2 hd2)
end
end Go.Ev
namespace Go.Ev
open Go
abbrev ES:=List (List UInt8×Int)
def Qty(w:World)(bm:Nat)(es:ES):Prop:=
 ∃ens clock,w.heap[bm]? =some (.map ens clock)∧ens.toList.map (fun e=>(e.key,e.val))=es.map (fun p=>(Value.string ⟨p.1.toArray⟩,Value.int .i64 p.2))
def JM(X:Ctx)(bm:Nat)(es:ES)(w:World)(cn:Nat→Cnt):Prop:=
 bm<X.w0.heap.size∧X.own0 bm∧ ¬X.fr0 bm∧Qty w bm es∧ ∀id,cn id bm=0
section
variable {P:Program} {X:Ctx} {T:Nat→Option TI} {bm:Nat} {es:ES} {st:St}
def Qwf(X:Ctx)(bm:Nat)(Q:Exit→St→ES→Prop)(e:Exit)(a:Act)(w:World):Prop:=
 ∃st m cn es,Q e st es∧Inv X w st.ob m cn∧Sl X w m cn st.tm a∧a.defers=[]∧JM X bm es w cn
def WJ(P:Program)(X:Ctx)(bm:Nat)(c:Code)(st:St)(es:ES)(Q:Exit→St→ES→Prop):Prop:=
 ∀w m cn a,Inv X w st.ob m cn→Sl X w m cn st.tm a→a.defers=[]→JM X bm es w cn→c.wp P (Qwf X bm Q) a w
def MK(X:Ctx)(bm:Nat)(es:ES):Prop:=bm<X.w0.heap.size∧ ¬X.own0 bm∧Qty X.w0 bm es
theorem Q7m{c:Code}{Q:Exit→St→ES→Prop}(h: ∀X',X'.n0=st.ob.length→MK X' bm es→W P X' c st (fun e s=>Q e s es)):WJ P X bm c st es Q:=by
 intro w m cn a hi hs hd ⟨j1,j2,j3,j4,j5⟩
 obtain ⟨h1,h2⟩:=hi.hide []
 have hbw:bm<w.heap.size:=Nat.lt_of_lt_of_le j1 hi.le
 have hmk:MK (Q75 X w m cn [] st.ob.length) bm es:=⟨hbw,fun ⟨id,_,hid⟩=>by rw[j5 id] at hid;omega,j4⟩
 have hs':Sl (Q75 X w m cn [] st.ob.length) w m (cnH [] cn) st.tm a:=
  R.mono hs (Nat.le_refl _) (fun b hb hf=>⟨h2 b hb hf,rfl⟩) (fun _ _=>rfl) trivial (fun _ _ h=>⟨h,rfl⟩)
 refine Code.wp_mono ?_ (h _ rfl hmk w m (cnH [] cn) a h1 hs' hd)
 rintro e a' w' ⟨s,m',cn',hq,hi',hs2,hd2⟩
 obtain ⟨g1,g2,g3,g4⟩:=hi.unhide (L:=[]) (fun _ h=>by cases h) hi'
 refine ⟨s,m',_,es,hq,g1,?_,hd2,j1,j2,j3,?_,fun id=> ?_⟩
 ·exact R.mono hs2 (Nat.le_refl _) (fun b hb hf=>⟨g2 b hf,rfl⟩) (fun _ _=>rfl) trivial (fun _ _ h=>⟨h,rfl⟩)
 ·obtain ⟨ens,clock,k1,k2⟩:=j4
  exact ⟨ens,clock,by rw[hi'.kept bm hbw hmk.2.1];exact k1,k2⟩
 ·show cnU [] cn cn' id bm=0
  unfold cnU
  rw[if_neg Z3]
  rcases Nat.eq_zero_or_pos (cn' id bm) with h0|h0
  ·exact h0
  ·rcases (hi'.new id bm h0).2 with h|h
   ·have:w.heap.size≤bm:=h
    omega
   ·exact absurd h hmk.2.1
def Qbq(K:St→ES→Prop)(Q:Exit→St→ES→Prop):Exit→St→ES→Prop
 | .normal,st,es=>K st es
 |e,st,es=>Q e st es
def Qsj(id:Nat)(Q:Exit→St→ES→Prop):Exit→St→ES→Prop
 | .exit id',st,es=>if id'=id then Q .normal st es else Q (.exit id') st es
 |e,st,es=>Q e st es
variable {Q:Exit→St→ES→Prop}
theorem Qey{x y:Code}(h:WJ P X bm x st es (Qbq (fun s es=>WJ P X bm y s es Q) Q)):WJ P X bm (.seq x y) st es Q:=by
 intro w m cn a hi hs hd hj
 refine wp_seq (Code.wp_mono ?_ (h w m cn a hi hs hd hj))
 rintro e a' w' ⟨s,m',cn',es',hq,hi',hs',hd',hj'⟩
 cases e with
 |normal=>exact hq w' m' cn' a' hi' hs' hd' hj'
 |_=>exact ⟨s,m',cn',es',hq,hi',hs',hd',hj'⟩
theorem Qxm{id:Nat}{c:Code}(h:WJ P X bm c st es (Qsj id Q)):WJ P X bm (.block id c) st es Q:=by
 intro w m cn a hi hs hd hj
 refine wp_block (Code.wp_mono ?_ (h w m cn a hi hs hd hj))
 rintro e a' w' ⟨s,m',cn',es',hq,hi',hs',hd',hj'⟩
 cases e with
 |exit id'=>
  simp only[Exit.inBlock]
  simp only[Qsj] at hq
  split<;>rename_i hid
  ·rw[if_pos hid] at hq;exact ⟨s,m',cn',es',hq,hi',hs',hd',hj'⟩
  ·rw[if_neg hid] at hq;exact ⟨s,m',cn',es',hq,hi',hs',hd',hj'⟩
 |_=>exact ⟨s,m',cn',es',hq,hi',hs',hd',hj'⟩
theorem Q15f{α:Type}{c:Code}(f:α→St)(E:α→ES)(I:α→Prop)(μ:α→Nat)(a0:α)(h0:st=f a0)(he:es=E a0)(hI:I a0)
  (round: ∀a,I a→WJ P X bm c (f a) (E a) (Qbq (fun s' es'=> ∃a',s'=f a'∧es'=E a'∧I a'∧μ a'<μ a) Q)):WJ P X bm (.loop c) st es Q:=by
 subst h0 he
 intro w m cn a hi hs hd hj
 intro b k cs
 have key: ∀n x,μ x=n→I x→ ∀w m cn a,Inv X w (f x).ob m cn→Sl X w m cn (f x).tm a→a.defers=[]→JM X bm (E x) w cn→
   ∃e a' w',Qwf X bm Q e a' w'∧Arrives P (lone (b.at a (.code c:: .inLoop c::k)) cs w) b k cs e a' w':=by
  intro n
  induction n using Nat.strongRecOn with
  |_ n ih=>
   intro x hn hI w m cn a hi hs hd hj
   obtain ⟨e,a₁,w₁,⟨s₁,m₁,cn₁,es₁,hq,hi₁,hs₁,hd₁,hj₁⟩,harr⟩:=round x hI w m cn a hi hs hd hj b (.inLoop c::k) cs
   cases e with
   |normal=>
    obtain ⟨x',rfl,rfl,hI₁,hlt⟩:=hq
    obtain ⟨e₂,a₂,w₂,hq₂,harr₂⟩:=ih (μ x') (hn▸hlt) x' rfl hI₁ w₁ m₁ cn₁ a₁ hi₁ hs₁ hd₁ hj₁
    exact ⟨e₂,a₂,w₂,hq₂,.of_steps (Steps.trans harr (.one step_inLoop)) harr₂⟩
   |exit id=>exact ⟨_,a₁,w₁,⟨s₁,m₁,cn₁,es₁,hq,hi₁,hs₁,hd₁,hj₁⟩,.pass (x:= .inLoop c) rfl (fun _ _=> .inl Z3) harr⟩
   |goto l=>exact ⟨_,a₁,w₁,⟨s₁,m₁,cn₁,es₁,hq,hi₁,hs₁,hd₁,hj₁⟩,.pass (x:= .inLoop c) rfl (fun _ _=> .inl Z3) harr⟩
   |ret=>exact ⟨_,a₁,w₁,⟨s₁,m₁,cn₁,es₁,hq,hi₁,hs₁,hd₁,hj₁⟩,.pass (x:= .inLoop c) rfl (fun _ _=> .inl Z3) harr⟩
   |panic ch=>exact ⟨_,a₁,w₁,⟨s₁,m₁,cn₁,es₁,hq,hi₁,hs₁,hd₁,hj₁⟩,.pass (x:= .inLoop c) rfl (fun _ _=> .inl Z3) harr⟩
   |outgrown=>exact ⟨_,a₁,w₁,⟨s₁,m₁,cn₁,es₁,hq,hi₁,hs₁,hd₁,hj₁⟩,.pass (x:= .inLoop c) rfl (fun _ _=> .inl Z3) harr⟩
 obtain ⟨e,a',w',hq,harr⟩:=key _ a0 rfl hI w m cn a hi hs hd hj
 exact ⟨e,a',w',hq,.of_steps (.one step_loop) harr⟩
theorem JM.update{w:World}{m:Mp}{cn:Nat→Cnt}{ob:List Ob}{tm:List V}{a:Act}(hi:Inv X w ob m cn)(hs:Sl X w m cn tm a)(hj:JM X bm es w cn){es':ES}{ens:Array MapEntry}{clock:Nat}
  (he:ens.toList.map (fun e=>(e.key,e.val))=es'.map (fun p=>(Value.string ⟨p.1.toArray⟩,Value.int .i64 p.2))):
  Inv X {w with heap:=w.heap.setIfInBounds bm (.map ens clock)} ob m cn∧Sl X {w with heap:=w.heap.setIfInBounds bm (.map ens clock)} m cn tm a∧JM X bm es' {w with heap:=w.heap.setIfInBounds bm (.map ens clock)} cn:=by
 obtain ⟨j1,j2,j3,⟨ens0,clock0,k1,k2⟩,j5⟩:=hj
 obtain ⟨s1,s2⟩:=MapKept.heap_set (w:=w) (o':= .map ens clock) k1
 have hsh: ∀b,World.shape? {w with heap:=w.heap.setIfInBounds bm (.map ens clock)} b=w.shape? b:=by
  intro b
  by_cases hb:b=bm
  ·subst hb
   simp only[World.shape?,s1,k1]
  ·simp only[World.shape?,s2 b hb]
 have hfz: ∀b,frz X cn b→b≠bm:=by
  rintro b ⟨h1,_⟩ rfl
  rcases h1 with h1|h1
  ·exact j3 h1
  ·omega
 have hsz:w.heap.size≤(World.heap {w with heap:=w.heap.setIfInBounds bm (.map ens clock)}).size:=by simp
 have hR: ∀{j:J} {c:Cnt},R w (frz X cn) m j c→(∀b,0<c b→b≠bm)→(j.here fun b=>(w.heap.setIfInBounds bm (.map ens clock))[b]? =w.heap[b]?)→
   R {w with heap:=w.heap.setIfInBounds bm (.map ens clock)} (frz X cn) m j c:=fun h hc hh=>
  h.mono hsz (fun b _ hf=>⟨hf,s2 b (hfz b hf)⟩) (fun b hb=>s2 b (hc b hb)) hh (fun id x hx=>⟨hx,hsh _⟩)
 refine ⟨⟨Nat.le_trans hi.le hsz,fun b hb ho=> ?_,hi.os,hi.tape,hi.output,fun i o ho=> ?_,hi.dis,hi.one,fun i b h=>⟨Nat.lt_of_lt_of_le (hi.new i b h).1 hsz,(hi.new i b h).2⟩,hi.fresh,hi.pas,fun id x hx=>Nat.lt_of_lt_of_le (hi.mlt id x hx) hsz,hi.n0,fun b hb=> ?_⟩,
  hR hs (fun b hb=>absurd hb Z2z) trivial,j1,j2,j3,⟨ens,clock,s1,he⟩,j5⟩
 ·have:b≠bm:=fun e=>ho (e▸j2)
  show (w.heap.setIfInBounds bm (.map ens clock))[b]? =_
  rw[s2 b this];exact hi.kept b hb ho
 ·have h:=hi.obj i o ho
  cases o with
  |none=>trivial
  |some p=>
   rcases h with h|⟨b,cur,e,c,h1,h2,h3,h4,h5,h6⟩
   ·exact .inl h
   ·have hb:b≠bm:=by
     rintro rfl
     have:=j5 i
     rw[h6] at this
     simp at this
    refine .inr ⟨b,cur,e,c,h1,by show (w.heap.setIfInBounds bm (.map ens clock))[b]? =_;rw[s2 b hb];exact h2,h3,h4,hR h5 (fun x hx=> ?_) (.inr (s2 b hb)),h6⟩
    rintro rfl
    have:=j5 i
    rw[h6] at this
    omega
 ·rw[hsh];exact hi.shp b hb
end
end Go.Ev
namespace Go.Ev
open Go
section
variable {P:Program} {X:Ctx} {T:Nat→Option TI} {bm:Nat} {es:ES} {st s1:St} {o:Oper} {Q:Exit→St→ES→Prop}
theorem Qty.drew{w:World}(h:Qty w bm es):Qty w.drew bm es:=h
theorem JM.drew{w:World}{cn:Nat→Cnt}(h:JM X bm es w cn):JM X bm es w.drew cn:=h
theorem Q11h{id:Nat}{ls:List Oper}(n:Nat)(hT:TOK P T)(hm:P.follows .mixedOrders=true)(hB:Region.lexTailB .any ls.toArray n=true)(h:Qui P X ls.toArray (ls.take n) st s1)
  (hl:ls.drop n=[o]) (hg:gd ls.toArray s1 o.guard=some true) (hd:o.dst=none) {t kt et:Nat} {x y z:Operand} {ti ki:TI} (ho:o.op= .mapUpdate t x y z) (ht:T t=some ti) (hk:ti.kd= .map kt et) (hkt:T kt=some ki) (hks:ki.kd= .str)
  (hx:val s1 x= .raw (.map (some bm))) {s:List UInt8} (hy:val s1 y= .str s) {i:Int} (hz:val s1 z= .int .i64 i) (hnone:Q2w es s=none) (hq:Q .normal s1 (es++[(s,i)])):
  WJ P X bm (.region id ls.toArray true) st es Q:=by
 intro w m cn a hi hs hdf hj
 refine wp_region_still_tail n hm hB ?_
 refine h.2 {w with drawn:=w.drawn+1} m cn a _ hi.drew (Ext.drew.Sl hs) hdf (fun a' hs' hd'=> ?_)
 rw[hl]
 refine wpList_step fun K hK=> ?_
 rw[Q62 hs' hg,if_pos rfl]
 obtain ⟨_,d,_,_,hu,_,hdd,_⟩:=TI.of hT ht
 obtain ⟨_,d2,_,_,hu2,_,hd2,_⟩:=TI.of hT hkt
 rw[hk] at hdd
 have:=Qyd hdd
 subst this
 rw[hks] at hd2
 have:=Qci hd2
 subst this
 have h1:=Q14 hs' x
 have h2:=Q14 hs' y
 have h3:=Q14 hs' z
 rw[hx] at h1
 rw[hy] at h2
 rw[hz] at h3
 have e1:a'.eval x= .map (some bm):=by
  generalize a'.eval x=u at h1
  cases h1;rfl
 have e3:a'.eval z= .int .i64 i:=by
  generalize a'.eval z=u at h3
  cases h3;rfl
 obtain ⟨j1,j2,j3,⟨ens,clock,k1,k2⟩,j5⟩:=hj
 obtain ⟨r,hr,hqr⟩:=Q9i s ens.toList es 0 k2
 rw[hnone] at hqr
 have hr0:r=none:=by cases r<;>simp at hqr⊢
 subst hr0
 obtain ⟨q1,q2,q3⟩:=JM.update (ens:=ens.push {key:= .string ⟨s.toArray⟩,val:= .int .i64 i,born:=clock}) (clock:=clock+1) (es':=es++[(s,i)]) (hi.drew) hs' ⟨j1,j2,j3,⟨ens,clock,k1,k2⟩,j5⟩ (by simp[k2])
 have k1':w.drew.heap[bm]? =some (.map ens clock):=k1
 have hrun:(execOp a'.eval o).run P w.drew= .ok .skip {w.drew with heap:=w.drew.heap.setIfInBounds bm (.map (ens.push {key:= .string ⟨s.toArray⟩,val:= .int .i64 i,born:=clock}) (clock+1))}:=by
  simp only[execOp,ho,e1,e3,R.inv_str h2]
  simp[Instr.mapUpdate,run_underlying hu,MapKept.run_getObj_map k1',MapKept.run_checkKey hu2 (show MapKept.IsKey .string (.string ⟨s.toArray⟩) from trivial) _ 9999,MapKept.run_findKey hu2 hr,MapKept.run_setObj_map _ k1',Result.andThen]
 unfold Oper.wp
 rw[show ({w with drawn:=w.drawn+1}:World)=w.drew from rfl,hrun]
 refine hK _ _ (wpList_nil ⟨s1,m,cn,es++[(s,i)],hq,?_,?_,?_,q3⟩)
 ·rw[h.1];exact q1
 ·rw[hd];exact q2
 ·rw[hd];exact hd'
end
end Go.Ev
namespace Go.Ev
open Go
section
variable {P:Program} {X:Ctx} {T:Nat→Option TI} {bm:Nat} {es:ES} {st s1:St} {o:Oper} {ops:Array Oper}
theorem MK.at{w:World}{ob:List Ob}{m:Mp}{cn:Nat→Cnt}(h:MK X bm es)(hi:Inv X w ob m cn):Qty w bm es:=by
 obtain ⟨h1,h2,ens,clock,h3,h4⟩:=h
 exact ⟨ens,clock,by rw[hi.kept bm h1 h2];exact h3,h4⟩
theorem Q18.lookR(hT:TOK P T)(hmk:MK X bm es){l:List Oper}(hg:gd ops st o.guard=some true){t kt et:Nat}{x y:Operand}{ti ki ei:TI}(ho:o.op= .lookup t x y true)(ht:T t=some ti)(hk:ti.kd= .map kt et)(hkt:T kt=some ki)(hks:ki.kd= .str)
  (het:T et=some ei) (hz:ei.zero= .int .i64 0) (hx:val st x= .raw (.map (some bm))) {s:List UInt8} (hy:val st y= .str s)
  (hk':Q18 P X ops l ⟨Q2l o.dst (.tup [.int .i64 ((Q2w es s).getD 0),.bool (Q2w es s).isSome]) st.tm,st.ob⟩ s1):Q18 P X ops (o::l) st s1:=by
 refine Q18.value hg (fun w m cn a hi hs=> ?_) hk'
 have h1:=Q14 hs x
 have h2:=Q14 hs y
 rw[hx] at h1
 rw[hy] at h2
 obtain ⟨_,d,_,_,hu,_,hd,_⟩:=TI.of hT ht
 obtain ⟨_,d2,_,_,hu2,_,hd2,_⟩:=TI.of hT hkt
 obtain ⟨ie,d3,z3,hi3,hu3,hz3,_,_,_,hzz,_⟩:=TI.of hT het
 rw[hk] at hd
 have:=Qyd hd
 subst this
 rw[hks] at hd2
 have:=Qci hd2
 subst this
 rw[hz] at hzz
 have hzv:=Qza hzz.symm
 subst hzv
 have e1:a.eval x= .map (some bm):=by
  generalize a.eval x=u at h1
  cases h1;rfl
 refine ⟨.tuple #[.int .i64 ((Q2w es s).getD 0),.bool (Q2w es s).isSome],fun w' hw'=> ?_,.tup (.lcons (.int _ _) (.lcons (.bool _) .lnil (fun _=>rfl)) (fun _=>rfl))⟩
 obtain ⟨ens,clock,he',h⟩:=hmk.at hw'.2
 obtain ⟨r,hr,hq⟩:=Q9i s ens.toList es 0 h
 have hrun:(Instr.lookup t (.map (some bm)) (.string ⟨s.toArray⟩) true).run P w'= .ok (.tuple #[.int .i64 ((Q2w es s).getD 0),.bool (Q2w es s).isSome]) w':=by
  unfold Instr.lookup
  simp only[Sem.run_bind,run_underlying hu,Result.andThen_ok,MapKept.run_getObj_map he',MapKept.run_checkKey hu2 (show MapKept.IsKey .string (.string ⟨s.toArray⟩) from trivial) _ 9999,MapKept.run_findKey hu2 hr,Sem.run_pure]
  have hzr:(zeroValue et).run P w'= .ok (.int .i64 0) w':=by simp[zeroValue,typeInfo,hi3,hz3]
  cases hL:Q2w es s with
  |none=>
   rw[hL] at hq
   cases r with
   |none=>simp[hzr]
   |some p=>simp at hq
  |some v=>
   rw[hL] at hq
   cases r with
   |none=>simp at hq
   |some p=>simp at hq;simp[hq]
 unfold Oper.quietAt
 have:(execOp a.eval o).run P w'= .ok (.value (.tuple #[.int .i64 ((Q2w es s).getD 0),.bool (Q2w es s).isSome])) w':=by
  simp[execOp,ho,e1,R.inv_str h2,hrun]
 rw[this]
 exact ⟨rfl,rfl⟩
def WLJ(P:Program)(X:Ctx)(bm:Nat)(ops:Array Oper)(l:List Oper)(st:St)(es:ES)(Q:Exit→St→ES→Prop):Prop:=
 ∀w m cn a,Inv X w st.ob m cn→Sl X w m cn st.tm a→a.defers=[]→JM X bm es w cn→wpList P ops (Qwf X bm Q) l a w
theorem Q13r{l:List Oper}{Q:Exit→St→ES→Prop}(h: ∀X',X'.n0=st.ob.length→MK X' bm es→WL P X' ops l st (fun e s=>Q e s es)):WLJ P X bm ops l st es Q:=by
 intro w m cn a hi hs hd ⟨j1,j2,j3,j4,j5⟩
 obtain ⟨h1,h2⟩:=hi.hide []
 have hbw:bm<w.heap.size:=Nat.lt_of_lt_of_le j1 hi.le
 have hmk:MK (Q75 X w m cn [] st.ob.length) bm es:=⟨hbw,fun ⟨id,_,hid⟩=>by rw[j5 id] at hid;omega,j4⟩
 have hs':Sl (Q75 X w m cn [] st.ob.length) w m (cnH [] cn) st.tm a:=
  R.mono hs (Nat.le_refl _) (fun b hb hf=>⟨h2 b hb hf,rfl⟩) (fun _ _=>rfl) trivial (fun _ _ h=>⟨h,rfl⟩)
 have key: ∀e a' w',post (Q75 X w m cn [] st.ob.length) (fun e s=>Q e s es) e a' w'→Qwf X bm Q e a' w':=by
  rintro e a' w' ⟨s,m',cn',hq,hi',hs2,hd2⟩
  obtain ⟨g1,g2,g3,g4⟩:=hi.unhide (L:=[]) (fun _ h=>by cases h) hi'
  refine ⟨s,m',_,es,hq,g1,?_,hd2,j1,j2,j3,?_,fun id=> ?_⟩
  ·exact R.mono hs2 (Nat.le_refl _) (fun b hb hf=>⟨g2 b hf,rfl⟩) (fun _ _=>rfl) trivial (fun _ _ h=>⟨h,rfl⟩)
  ·obtain ⟨ens,clock,k1,k2⟩:=j4
   exact ⟨ens,clock,by rw[hi'.kept bm hbw hmk.2.1];exact k1,k2⟩
  ·show cnU [] cn cn' id bm=0
   unfold cnU
   rw[if_neg Z3]
   rcases Nat.eq_zero_or_pos (cn' id bm) with h0|h0
   ·exact h0
   ·rcases (hi'.new id bm h0).2 with h|h
    ·have:w.heap.size≤bm:=h
     omega
    ·exact absurd h hmk.2.1
 exact Q4a (fun a w h=>key _ a w h) (fun e a w _ h=>key e a w h) _ _ _ (h _ rfl hmk w m (cnH [] cn) a h1 hs' hd)
theorem Q10a{R:Exit→Act→World→Prop}{x:V}{st':St}{rest:List Oper}(h:OKo P X st o x st')(hg:gd ops st o.guard=some true){w:World}{m:Mp}{cn:Nat→Cnt}{a:Act}
  (hi:Inv X w st.ob m cn) (hs:Sl X w m cn st.tm a) (hd:a.defers=[])
  (hk: ∀w' m' cn' a',Inv X w' st'.ob m' cn'→Sl X w' m' cn' (Q2l o.dst x st'.tm) a'→a'.defers=[]→wpList P ops R rest a' w'):wpList P ops R (o::rest) a w:=by
 obtain ⟨nx,u,w',m',cn',hrun,hnx,hi',hs',hR⟩:=h w m cn a hi hs
 refine wpList_step fun K hK=> ?_
 rw[Q62 hs hg,if_pos rfl]
 have hs2:Sl X w' m' cn' (Q2l o.dst x st'.tm) (a.put o.dst u):=by
  have:=hs'.set o.dst hR
  cases ho:o.dst<;>simpa[Q2l,ho] using this
 have hd2:(a.put o.dst u).defers=[]:=by cases ho:o.dst<;>simpa[Act.put] using hd
 unfold Oper.wp
 rw[hrun]
 rcases hnx with rfl|⟨rfl,rfl⟩
 ·exact hK _ _ (hk w' m' cn' _ hi' hs2 hd2)
 ·exact hK _ _ (hk w' m' cn' _ hi' hs2 hd2)
theorem Q15y{w:World}{fr:Nat→Prop}{m:Mp}{v:V}{u:Value}(h:R w fr m (.one v u) z0): ∀{us:List Value} {t:Nat},us[t]? =some u→R w fr m (.list ((List.replicate us.length .junk).set t v) us) z0
 |[],t,ht=>by simp at ht
 |u'::us,0,ht=>by
  simp at ht
  subst ht
  have: ∀us:List Value,R w fr m (.list (List.replicate us.length .junk) us) z0:=by
   intro us
   induction us with
   |nil=>exact .lnil
   |cons u us ih=>exact .lcons .junk ih (fun _=>rfl)
  exact .lcons h (this us) (fun _=>rfl)
 |u'::us,t+1,ht=> .lcons .junk (Q15y h (us:=us) (t:=t) Zag) (fun _=>rfl)
theorem Q11g{id:Nat}{y:Code}{Qj:Nat→Exit→St→ES→Prop}(hX:X.n0=0){o0:Oper}{x0:V}{l:List Oper}{t d:Nat}{F:ES}{x:V}{t2:Nat}
  (hl:ops.toList=o0::o::l) (h0: ∀X:Ctx,X.n0=0→OKo P X st o0 x0 st) (hg0:gd ops st o0.guard=some true) (hs1:s1=⟨Q2l o0.dst x0 st.tm,st.ob⟩)
  (hg:gd ops s1 o.guard=some true) (ho:o.op= .makeMap t none) (hd:o.dst=some d) (hob:st.ob=[]) (hxf:x.fz=x) (hxc:x.cells=[x])
  (h: ∀X1 bm,X1.n0=0→WLJ P X1 bm ops l ⟨s1.tm.set d (.raw (.map (some bm))),[]⟩ [] (fun e s es=>e= .normal∧WJ P X1 bm y s es (Qj bm)))
  (hQ: ∀bm e s es,Qj bm e s es→(e= .ret∨e= .normal)∧s.ob[0]? =some (some (2,[.agg [x,.raw (.map (some bm))]]))∧s.tm[t2]? =some (.ptr 0 0 0)∧s.tm.length=st.tm.length∧es=F):
  W P X (.seq (.region id ops false) y) st (fun e s=>(e= .ret∨e= .normal)∧s=⟨(List.replicate st.tm.length .junk).set t2 (.fp [x,.fmap F]),[]⟩):=by
 intro w m cn a hi hs hdf
 refine wp_seq (wp_region_list ?_)
 rw[hl]
 refine Q10a (h0 X hX) hg0 hi hs hdf fun w m cn a hi hs hdf=> ?_
 rw[hob] at hi
 refine wpList_step fun K hK=> ?_
 rw[Q62 (st:=s1) (by rw[hs1];exact hs) hg,if_pos rfl]
 have hrun:(execOp a.eval o).run P w= .ok (.value (.map (some w.heap.size))) (w.alloc (.map #[] 0)):=by
  simp[execOp,ho,Instr.makeMap,Result.andThen]
 unfold Oper.wp
 rw[hrun]
 obtain ⟨g1,g2⟩:=MapKept.heap_alloc w (.map #[] 0)
 have gsz:(w.alloc (.map #[] 0)).heap.size=w.heap.size+1:=by
  show (w.heap.push _).size=_
  simp
 let X1:Ctx:=⟨w.alloc (.map #[] 0),fun b=>b<w.heap.size∧frz X cn b,fun b=>b=w.heap.size,Q1e,0⟩
 have hmn: ∀id,m id=none:=fun id=>hi.fresh id (Nat.zero_le _)
 have hi1:Inv X1 (w.alloc (.map #[] 0)) [] Q1e (fun _=>z0):=
  ⟨Nat.le_refl _,fun _ _ _=>rfl,rfl,rfl,rfl,fun i o ho=>by simp at ho,fun b i j h=>absurd h Z2z,fun i b=>by simp[z0],fun i b h=>absurd h Z2z,fun i h=>rfl,fun i h=>rfl,fun i x h=>by simp[Q1e] at h,Nat.le_refl _,fun _ _=>rfl⟩
 have hs2:Sl X1 (w.alloc (.map #[] 0)) Q1e (fun _=>z0) s1.tm a:=by
  rw[hs1]
  exact R.mono hs (by rw[gsz];omega) (fun b hb hf=>⟨⟨.inl ⟨hb,hf⟩,fun _=>rfl⟩,g2 b hb⟩) (fun b hb=>absurd hb Z2z) trivial (fun id x hx=>by rw[hmn id] at hx;cases hx)
 have hs3:Sl X1 (w.alloc (.map #[] 0)) Q1e (fun _=>z0) (s1.tm.set d (.raw (.map (some w.heap.size)))) (a.put o.dst (.map (some w.heap.size))):=by
  have:=hs2.set o.dst (x:= .raw (.map (some w.heap.size))) (u:= .map (some w.heap.size)) (.raw _ rfl)
  rw[hd] at this⊢
  simpa[Q2l] using this
 have hj:JM X1 w.heap.size [] (w.alloc (.map #[] 0)) (fun _=>z0):=
  ⟨by show _<(w.alloc _).heap.size;rw[gsz];omega,rfl,fun h=>by have:=h.1;omega,⟨#[],0,g1,rfl⟩,fun _=>rfl⟩
 have hd3:(a.put o.dst (.map (some w.heap.size))).defers=[]:=Q3n _ _ hdf
 have hfin: ∀e a' w',Qwf X1 w.heap.size (Qj w.heap.size) e a' w'→post X (fun e s=>(e= .ret∨e= .normal)∧s=⟨(List.replicate st.tm.length .junk).set t2 (.fp [x,.fmap F]),[]⟩) e a' w':=by
  rintro e a' w' ⟨s,m',cn',es',hq,hi',hs',hd',⟨_,_,_,⟨ens,clock,k1,k2⟩,_⟩⟩
  obtain ⟨he,hob0,ht2,hlen,rfl⟩:=hQ _ _ _ _ hq
  have hle1:X.w0.heap.size≤w.heap.size:=hi.le
  have hle2:w.heap.size+1≤w'.heap.size:=by have:=hi'.le;rw[←gsz];exact this
  have hfz1: ∀b,b<w'.heap.size→frz X1 cn' b→frz X (fun _=>z0) b:=by
   rintro b _ ⟨h1,_⟩
   refine ⟨?_,fun _=>rfl⟩
   rcases h1 with h1|h1
   ·exact h1.2.1
   ·have:(w.alloc (.map #[] 0)).heap.size≤b:=h1
    rw[gsz] at this
    exact .inr Zb
  have hinv:Inv X w' [] Q1e (fun _=>z0):=by
   refine ⟨by omega,fun b hb hn=> ?_,hi'.os.trans hi.os,hi'.tape.trans hi.tape,hi'.output.trans hi.output,fun i o ho=>by simp at ho,fun b i j h=>absurd h Z2z,fun i b=>by simp[z0],fun i b h=>absurd h Z2z,fun i h=>rfl,fun i h=>by rw[hX] at h;omega,fun i x h=>by simp[Q1e] at h,by rw[hX];exact Nat.zero_le _,fun b hb=> ?_⟩
   ·rw[hi'.kept b (by show b<(w.alloc _).heap.size;rw[gsz];omega) (fun e=>by have e:b=w.heap.size:=e;omega)]
    show (w.alloc _).heap[b]? =_
    rw[g2 b Zb]
    exact hi.kept b hb hn
   ·rw[hi'.shp b (by show b<(w.alloc _).heap.size;rw[gsz];omega)]
    show (w.alloc _).shape? b=_
    rw[←hi.shp b hb]
    simp only[World.shape?,g2 b (Nat.lt_of_lt_of_le hb hi.le)]
  obtain ⟨u,hu,hR⟩:=Sl.get hs' ht2
  refine ⟨_,Q1e,fun _=>z0,⟨he,rfl⟩,hinv,?_,hd'⟩
  have hlen2:a'.tmps.toList.length=st.tm.length:=by rw[←hlen];exact R.len hs'
  show R w' (frz X (fun _=>z0)) Q1e (.list ((List.replicate st.tm.length .junk).set t2 (.fp [x,.fmap es'])) a'.tmps.toList) z0
  rw[←hlen2]
  refine Q15y (u:=u) ?_ Zc0
  generalize hz:z0=zz at hR
  cases hR with
  | @ptr _ _ _ _ b k hmb=>
   obtain ⟨rfl,cur,e0,c,q1,q2,q3,q4,q5⟩:=hi'.object hob0 hmb
   have hbl:b<w'.heap.size:=(Array.getElem?_eq_some_iff.1 q1).1
   have hnew: ∀z,0<cn' 0 z→frz X (fun _=>z0) z:=fun z hzz=>by
    refine ⟨.inr ?_,fun _=>rfl⟩
    rcases (hi'.new 0 z hzz).2 with h|h
    ·have:(w.alloc (.map #[] 0)).heap.size≤z:=h
     rw[gsz] at this;omega
    ·have:z=w.heap.size:=h
     omega
   have hcells:=R.fz (fr':=frz X (fun _=>z0)) hfz1 q4 (fun z _ hcz=>hnew z (by rw[q5];omega)) Q1e
   have hflat:fzL (Q1y [.agg [x,.raw (.map (some w.heap.size))]])=[x,.raw (.map (some w.heap.size))]:=by
    simp[Q1y,V.cells,fzL,hxf,V.fz]
   have hcells:R w' (frz X (fun _=>z0)) Q1e (.cells b 0 [x,.raw (.map (some w.heap.size))]) z0:=by rw[←hflat];exact hcells
   have hml:w.heap.size<w'.heap.size:=by omega
   have hmf:frz X (fun _=>z0) w.heap.size:=⟨.inr hle1,fun _=>rfl⟩
   show R w' (frz X (fun _=>z0)) Q1e (.one (.fp [x,.fmap es']) (.pointer (some ⟨b,0*2+0,none⟩))) z0
   refine .fp hbl (hnew b (by rw[q5];simp)) ?_
   obtain ⟨zz,hcells,e⟩: ∃zz,R w' (frz X (fun _=>z0)) Q1e (.cells b 0 [x,.raw (.map (some w.heap.size))]) zz∧ ∀z,zz z=0:=⟨z0,hcells,fun _=>rfl⟩
   cases hcells with
   |ccons hc h1c h1 h2 he=>
    cases h2 with
    |ccons hc' h1c' h1' h2' he'=>
     have e1:=h1.zero fun z=>by have:=he z;rw[e] at this;omega
     generalize hyy:V.raw (.map (some w.heap.size))=yy at h1'
     cases h1' with
     |raw u hu=>
      cases hyy
      exact .ccons hc h1c e1 (.ccons hc' h1c' (.fmap hml hmf k1 k2) .cnil (fun _=>rfl)) (fun _=>by simp[z0])
     |_=>cases hyy
 refine hK _ _ (Q4a ?_ ?_ _ _ _ (h X1 w.heap.size rfl _ _ _ _ hi1 hs3 hd3 hj))
 ·rintro a' w' ⟨s,m',cn',es',⟨_,hw⟩,hi',hs',hd',hj'⟩
  exact Code.wp_mono hfin (hw w' m' cn' a' hi' hs' hd' hj')
 ·rintro e a' w' hne ⟨s,m',cn',es',⟨he,_⟩,_⟩
  exact absurd he hne
end
end Go.Ev
namespace Go.Ev
open Go
section
variable {P:Program} {X:Ctx} {T:Nat→Option TI} {bm:Nat} {es:ES} {st s1:St} {o:Oper} {ops:Array Oper} {l:List Oper}
theorem Qxk{Q:Exit→St→Prop}(ks:List Nat)(h:Q8 P X ops l st s1)(hq:Q .normal (s1.keep ks)):WL P X ops l st Q:=by
 have:=h [] Q (Q13q (Le.keep ks s1) (Q8w hq))
 rwa [List.append_nil] at this
theorem Qkj{id:Nat}{Q:Exit→St→Prop}(ks:List Nat)(h:Q8 P X ops ops.toList st s1)(hq:Q .normal (s1.keep ks)):W P X (.region id ops false) st Q:=Qsm (Qxk ks h hq)
theorem Q13o{id:Nat}{Q:Exit→St→Prop}(ks:List Nat)(hm:P.follows .mixedOrders=true)(hB:Region.lexB .any ops=true)(h:Q18 P X ops ops.toList st s1)(hq:Q .normal (s1.keep ks)):W P X (.region id ops true) st Q:=by
 intro w m cn a hi hs hd
 refine Code.wp_mono ?_ (Q100 (Q:=fun e s=>e= .normal∧s=s1) hm hB h ⟨rfl,rfl⟩ w m cn a hi hs hd)
 rintro e a' w' ⟨s,m',cn',⟨rfl,rfl⟩,hi',hs',hd'⟩
 obtain ⟨m2,cn2,h1,h2⟩:=Le.keep ks s w' m' cn' a' hi' hs'
 exact ⟨_,m2,cn2,hq,h1,h2,hd'⟩
theorem Q103{Q:Exit→St→ES→Prop}{c:Operand}{x y:Code}{t:Bool}(hc:val st c= .bool t)(h1:t=true→WJ P X bm x st es Q)(h2:t=false→WJ P X bm y st es Q):
  WJ P X bm (.cond c x y) st es Q:=by
 intro w m cn a hi hs hd hj
 have hR:=Q14 hs c
 rw[hc] at hR
 have he:a.eval c= .bool t:=by
  generalize a.eval c=u at hR
  cases hR
  rfl
 exact wp_cond_split he (fun ht=>h1 ht w m cn a hi hs hd hj) (fun ht=>h2 ht w m cn a hi hs hd hj)
theorem Qxl{Q:Exit→St→ES→Prop}{c:Code}{st':St}(n:Nat)(hn0:X.n0≤n)(hn:n≤st.ob.length)(he:st.trim n=st')(h:WJ P X bm c st' es Q):WJ P X bm c st es Q:=by
 subst he
 intro w m cn a hi hs hd hj
 have h1:=hi.jk (fun id=>decide (n≤id))
 have h2:=h1.trim (n:=n) hn0 Zbj (fun o ho=>by
  rw[←List.map_take] at ho
  obtain ⟨o',_,rfl⟩:=List.mem_map.1 ho
  cases o' with
  |none=>rfl
  |some p=>exact jkL_lim n p.2)
 rw[←List.map_take] at h2
 exact h w _ cn a h2 (R.jk (p:=fun id=>decide (n≤id)) (fun id h=>if_pos Z49) hs) hd hj
theorem Q159{c:Code}{Q Q':Exit→St→Prop}(h:W P X c st Q)(hq: ∀e s,Q e s→Q' e s):W P X c st Q':=by
 intro w m cn a hi hs hd
 refine Code.wp_mono ?_ (h w m cn a hi hs hd)
 rintro e a' w' ⟨s,m',cn',hq',r⟩
 exact ⟨s,m',cn',hq _ _ hq',r⟩
end
end Go.Ev
