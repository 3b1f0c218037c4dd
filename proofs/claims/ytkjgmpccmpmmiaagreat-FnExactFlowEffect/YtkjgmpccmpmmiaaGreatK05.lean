/- Part 6 of what the proofs lean on: what the functions of the program and of the reference compute. Conditions: none. -/
import Derived.Test.YtkjgmpccmpmmiaaGreatK04
import Derived.Test.YtkjgmpccmpmmiaaGreatProg
import Derived.RangeFuncBox
import Derived.RangeFuncLeaves
import Derived.Shelf.Abstract
import Derived.WalkKit
import Derived.OwnWalkIn
import Derived.TacticsInMore
import Derived.LoopNIn
import Derived.LoopIn
set_option linter.all false
set_option linter.unusedVariables false
set_option linter.unusedSimpArgs false
set_option maxHeartbeats 2000000
set_option maxRecDepth 100000
namespace Go.Proofs
open Go Go.Ev
def TT:Nat→Option TI
 |2=>some ⟨.int .i64,1,8,.int .i64 0,false⟩
 |3=>some ⟨.int .i64,1,8,.int .i64 0,false⟩
 |4=>some ⟨.bool,1,1,.bool false,false⟩
 |5=>some ⟨.int .u8,1,1,.int .u8 0,false⟩
 |9=>some ⟨.str,1,16,.str [],false⟩
 |22=>some ⟨.slice 96,1,24,.raw (.slice none 0 0),false⟩
 |23=>some ⟨.slice 154,1,24,.raw (.slice none 0 0),false⟩
 |25=>some ⟨.struct [(0,23),(1,23)],2,48,.agg [.raw (.slice none 0 0),.raw (.slice none 0 0)],false⟩
 |28=>some ⟨.slice 137,1,24,.raw (.slice none 0 0),false⟩
 |30=>some ⟨.struct [(0,28),(1,28)],2,48,.agg [.raw (.slice none 0 0),.raw (.slice none 0 0)],false⟩
 |32=>some ⟨.struct [(0,30),(2,2)],3,56,.agg [.raw (.slice none 0 0),.raw (.slice none 0 0),.int .i64 0],false⟩
 |34=>some ⟨.slice 57,1,24,.raw (.slice none 0 0),false⟩
 |45=>some ⟨.struct [(0,2),(1,2),(2,2),(3,2)],4,32,.agg [.int .i64 0,.int .i64 0,.int .i64 0,.int .i64 0],true⟩
 |49=>some ⟨.slice 5,1,24,.raw (.slice none 0 0),false⟩
 |52=>some ⟨.struct [(0,2),(1,2)],2,16,.agg [.int .i64 0,.int .i64 0],true⟩
 |54=>some ⟨.slice 169,1,24,.raw (.slice none 0 0),false⟩
 |55=>some ⟨.slice 61,1,24,.raw (.slice none 0 0),false⟩
 |57=>some ⟨.struct [(0,9),(1,9),(2,4),(3,4),(4,54),(5,55)],6,88,.agg [.str [],.str [],.bool false,.bool false,.raw (.slice none 0 0),.raw (.slice none 0 0)],false⟩
 |58=>some ⟨.slice 76,1,24,.raw (.slice none 0 0),false⟩
 |59=>some ⟨.slice 188,1,24,.raw (.slice none 0 0),false⟩
 |61=>some ⟨.struct [(0,9),(1,9),(2,4),(3,4),(4,4),(5,2),(6,2),(7,58),(8,59)],9,104,.agg [.str [],.str [],.bool false,.bool false,.bool false,.int .i64 0,.int .i64 0,.raw (.slice none 0 0),.raw (.slice none 0 0)],false⟩
 |62=>some ⟨.slice 4,1,24,.raw (.slice none 0 0),false⟩
 |63=>some ⟨.slice 30,1,24,.raw (.slice none 0 0),false⟩
 |65=>some ⟨.struct [(0,62),(1,63),(2,2),(3,2)],4,64,.agg [.raw (.slice none 0 0),.raw (.slice none 0 0),.int .i64 0,.int .i64 0],false⟩
 |70=>some ⟨.slice 2,1,24,.raw (.slice none 0 0),false⟩
 |72=>some ⟨.struct [(0,70),(1,63),(2,2)],3,56,.agg [.raw (.slice none 0 0),.raw (.slice none 0 0),.int .i64 0],false⟩
 |76=>some ⟨.struct [(0,2),(1,2),(2,9),(3,9),(4,9)],5,64,.agg [.int .i64 0,.int .i64 0,.str [],.str [],.str []],true⟩
 |79=>some ⟨.slice 25,1,24,.raw (.slice none 0 0),false⟩
 |93=>some ⟨.slice 207,1,24,.raw (.slice none 0 0),false⟩
 |94=>some ⟨.slice 212,1,24,.raw (.slice none 0 0),false⟩
 |96=>some ⟨.struct [(0,9),(1,9),(2,4),(3,4),(4,93),(5,94)],6,88,.agg [.str [],.str [],.bool false,.bool false,.raw (.slice none 0 0),.raw (.slice none 0 0)],false⟩
 |102=>some ⟨.ptr 108,1,8,.raw (.pointer none),false⟩
 |106=>some ⟨.ptr 227,1,8,.raw (.pointer none),false⟩
 |108=>some ⟨.struct [(0,106),(1,57),(7,61),(16,2),(17,30),(19,28)],20,280,.agg [.raw (.pointer none),.str [],.str [],.bool false,.bool false,.raw (.slice none 0 0),.raw (.slice none 0 0),.str [],.str [],.bool false,.bool false,.bool false,.int .i64 0,.int .i64 0,.raw (.slice none 0 0),.raw (.slice none 0 0),.int .i64 0,.raw (.slice none 0 0),.raw (.slice none 0 0),.raw (.slice none 0 0)],false⟩
 |117=>some ⟨.ptr 178,1,8,.raw (.pointer none),false⟩
 |134=>some ⟨.slice 9,1,24,.raw (.slice none 0 0),false⟩
 |137=>some ⟨.struct [(0,2),(1,9),(2,2)],3,32,.agg [.int .i64 0,.str [],.int .i64 0],true⟩
 |144=>some ⟨.fn,1,8,.raw .nilFunc,false⟩
 |154=>some ⟨.struct [(0,2),(1,9),(2,2)],3,32,.agg [.int .i64 0,.str [],.int .i64 0],true⟩
 |155=>some ⟨.ptr 157,1,8,.raw (.pointer none),false⟩
 |157=>some ⟨.struct [(0,34),(1,57),(7,61),(16,76),(21,2),(22,30),(24,2)],25,344,.agg [.raw (.slice none 0 0),.str [],.str [],.bool false,.bool false,.raw (.slice none 0 0),.raw (.slice none 0 0),.str [],.str [],.bool false,.bool false,.bool false,.int .i64 0,.int .i64 0,.raw (.slice none 0 0),.raw (.slice none 0 0),.int .i64 0,.int .i64 0,.str [],.str [],.str [],.int .i64 0,.raw (.slice none 0 0),.raw (.slice none 0 0),.int .i64 0],false⟩
 |169=>some ⟨.struct [(0,9),(1,9),(2,4)],3,40,.agg [.str [],.str [],.bool false],true⟩
 |176=>some ⟨.int .u64,1,8,.int .u64 0,false⟩
 |178=>some ⟨.struct [(0,49),(1,3),(2,176),(3,2)],4,48,.agg [.raw (.slice none 0 0),.int .i64 0,.int .u64 0,.int .i64 0],false⟩
 |179=>some ⟨.fn,1,8,.raw .nilFunc,false⟩
 |180=>some ⟨.fn,1,8,.raw .nilFunc,false⟩
 |188=>some ⟨.struct [(0,2),(1,2),(2,2),(3,9)],4,40,.agg [.int .i64 0,.int .i64 0,.int .i64 0,.str []],true⟩
 |193=>some ⟨.fn,1,8,.raw .nilFunc,false⟩
 |197=>some ⟨.struct [(0,134),(1,9)],2,40,.agg [.raw (.slice none 0 0),.str []],false⟩
 |199=>some ⟨.struct [(0,197),(2,2),(3,2)],4,56,.agg [.raw (.slice none 0 0),.str [],.int .i64 0,.int .i64 0],false⟩
 |207=>some ⟨.struct [(0,9),(1,9),(2,4)],3,40,.agg [.str [],.str [],.bool false],true⟩
 |209=>some ⟨.slice 305,1,24,.raw (.slice none 0 0),false⟩
 |210=>some ⟨.slice 307,1,24,.raw (.slice none 0 0),false⟩
 |212=>some ⟨.struct [(0,9),(1,9),(2,4),(3,4),(4,4),(5,2),(6,2),(7,209),(8,210)],9,104,.agg [.str [],.str [],.bool false,.bool false,.bool false,.int .i64 0,.int .i64 0,.raw (.slice none 0 0),.raw (.slice none 0 0)],false⟩
 |225=>some ⟨.map 9 3,1,8,.raw (.map none),false⟩
 |227=>some ⟨.struct [(0,34),(1,225)],2,32,.agg [.raw (.slice none 0 0),.raw (.map none)],false⟩
 |229=>some ⟨.fn,1,8,.raw .nilFunc,false⟩
 |231=>some ⟨.slice 229,1,24,.raw (.slice none 0 0),false⟩
 |232=>some ⟨.ptr 234,1,8,.raw (.pointer none),false⟩
 |234=>some ⟨.struct [(0,65),(4,62)],5,88,.agg [.raw (.slice none 0 0),.raw (.slice none 0 0),.int .i64 0,.int .i64 0,.raw (.slice none 0 0)],false⟩
 |257=>some ⟨.ptr 259,1,8,.raw (.pointer none),false⟩
 |259=>some ⟨.struct [(0,9),(1,2),(2,4)],3,32,.agg [.str [],.int .i64 0,.bool false],true⟩
 |268=>some ⟨.struct [(0,9),(1,2),(2,2)],3,32,.agg [.str [],.int .i64 0,.int .i64 0],true⟩
 |296=>some ⟨.ptr 298,1,8,.raw (.pointer none),false⟩
 |298=>some ⟨.struct [(0,117),(1,58),(2,70),(3,70),(4,3)],5,88,.agg [.raw (.pointer none),.raw (.slice none 0 0),.raw (.slice none 0 0),.raw (.slice none 0 0),.int .i64 0],false⟩
 |305=>some ⟨.struct [(0,2),(1,2),(2,9),(3,9),(4,9)],5,64,.agg [.int .i64 0,.int .i64 0,.str [],.str [],.str []],true⟩
 |307=>some ⟨.struct [(0,2),(1,2),(2,2),(3,9)],4,40,.agg [.int .i64 0,.int .i64 0,.int .i64 0,.str []],true⟩
 |313=>some ⟨.slice 28,1,24,.raw (.slice none 0 0),false⟩
 |320=>some ⟨.fn,1,8,.raw .nilFunc,false⟩
 |330=>some ⟨.fn,1,8,.raw .nilFunc,false⟩
 |_=>none
theorem tok:TOK Tryz.prog TT:=by
 intro t ti h
 unfold TT at h
 split at h<;>first|(cases h;kernel_rfl)|cases h
theorem hmo:Tryz.prog.follows .mixedOrders=true:=by kernel_rfl
attribute [simp] TT
section
variable {X:Ctx} {ops:Array Oper} {l rest:List Oper} {ls:List Oper} {st s0 s1 s2 s3:St} {o:Oper} {n0:Nat} {Q:Exit→St→Prop}
theorem jh(hX:X.n0=n0)(h:Qgp TT n0 ops l st=some s1):Q8 Tryz.prog X ops l st s1:=Q8.run tok hX h
theorem jr(hX:X.n0=n0:=by assumption)(h:Qgp TT n0 ops l st=some s1:=by simp;rfl):Q8 Tryz.prog X ops l st s1:=Q8.run tok hX h
theorem js(hX:X.n0=n0)(k:Nat)(h1:Qgp TT n0 ops (l.take k) st=some s1)(h2:Q8 Tryz.prog X ops (l.drop k) s1 s2):Q8 Tryz.prog X ops l st s2:=Q8.step k tok hX h1 h2
theorem jt(n:Nat)(hX:X.n0=n0:=by assumption)(h1:Qgp TT n0 ops (l.take n) st=some s1:=by simp;rfl)(k:Q8 Tryz.prog X ops (l.drop n) s1 s2):Q8 Tryz.prog X ops l st s2:=Q8.step n tok hX h1 k
theorem jf(h:st=s1:=by (try simp);rfl):Q8 Tryz.prog X ops [] st s1:=Q8.fin h
theorem jm(j d:Nat)(ks:List Nat){b:Bool}{n:Nat}{l1 l0:List (Nat×V)}{ob1 ob0:List Ob}{x:Option V}(hd:st.tm[d]? =x:=by simp;rfl)(hx:x=some (.bool b):=by rfl)
  (p:b=true→Q8 Tryz.prog X ops (l.take j) ⟨st.tm.set d (.bool true),st.ob⟩ s1) (q:b=false→Q8 Tryz.prog X ops (l.take j) ⟨st.tm.set d (.bool false),st.ob⟩ s0)
  (e1:s1=⟨sp n l1,ob1⟩:=by rfl) (e0:s0=⟨sp n l0,ob0⟩:=by rfl) (k:Q8 Tryz.prog X ops (l.drop j) ⟨sp n (Qjx b (Qfo ks l1) (Qfo ks l0)),Qr4 b ob1 ob0⟩ s2):Q8 Tryz.prog X ops l st s2:=Q8.mrgS j d ks hd hx p q e1 e0 k
theorem jc{fo:Operand}{as':Array Operand}{ts:Array TypeId}{f:FuncId}{first cap args':List V}{obi:List Ob}(ps:List Nat){r:V}{obc:List Ob}
  (ho:o.op= .call {callee:= .value fo,args:=as',argTypes:=ts}:=by rfl) (hg:gd ops st o.guard=some true:=by simp) (hf:val st fo= .clo (.func f) first cap:=by rfl)
  (ha:Q6u (gIn ps) (first++as'.toList.map (val st)++cap)=args':=by simp;rfl) (hi:Qst st.ob ps=obi:=by simp;rfl)
  (c:Ct Tryz.prog f args' obi r obc) (a:Q6 Tryz.prog f) (hn:ps.Nodup:=by simp) (hlt: ∀id∈ps,id<st.ob.length:=by simp) (he:Qvi st o.dst ps r obc=s1:=by simp;rfl) (k:Q8 Tryz.prog X ops rest s1 s2):Q8 Tryz.prog X ops (o::rest) st s2:=
 Q8.call ps ho hg hf ha hi c a hn hlt he k
theorem jF{fo:Operand}{as':Array Operand}{ts:Array TypeId}{f:FuncId}{first cap args':List V}{r:V}
  (ho:o.op= .call {callee:= .value fo,args:=as',argTypes:=ts}:=by rfl) (hg:gd ops st o.guard=some true:=by simp) (hf:val st fo= .clo (.func f) first cap:=by rfl)
  (ha:Q6u (gIn []) (first++as'.toList.map (val st)++cap)=args':=by simp;rfl) (c:Ct Tryz.prog f args' [] r []) (a:Q6 Tryz.prog f) (he:(⟨Q37 o.dst r.fz st.tm,st.ob⟩:St)=s1:=by simp;rfl) (k:Q8 Tryz.prog X ops rest s1 s2):Q8 Tryz.prog X ops (o::rest) st s2:=
 Q8.callF ho hg hf ha c a he k
theorem jB{fo:Operand}{as':Array Operand}{ts:Array TypeId}{f:FuncId}{first cap args':List V}{r:V}
  (ho:o.op= .call {callee:= .value fo,args:=as',argTypes:=ts}:=by rfl) (hg:gd ops st o.guard=some true:=by simp) (hf:val st fo= .clo (.func f) first cap:=by rfl)
  (ha:Qge st.ob (first++as'.toList.map (val st)++cap)=args':=by simp;rfl) (c:Ct Tryz.prog f args' [] r []) (a:Q6 Tryz.prog f) (hsol:r.solid=true:=by simp) (he:(⟨Q37 o.dst (Q3v st.ob r).1 st.tm,(Q3v st.ob r).2⟩:St)=s1:=by simp;rfl) (k:Q8 Tryz.prog X ops rest s1 s2):Q8 Tryz.prog X ops (o::rest) st s2:=
 Q8.callB ho hg hf ha c a hsol he k
theorem jB2{fo:Operand}{as':Array Operand}{ts:Array TypeId}{f:FuncId}{first cap args':List V}{r:V}
  (ho:o.op= .call {callee:= .value fo,args:=as',argTypes:=ts}:=by rfl) (hg:gd ops st o.guard=some true:=by simp) (hf:val st fo= .clo (.func f) first cap:=by rfl)
  (ha:Qx0 st.ob (first++as'.toList.map (val st)++cap)=args':=by simp;rfl) (c:Ct Tryz.prog f args' [] r []) (a:Q6 Tryz.prog f) (hsol:r.solid=true:=by simp) (he:(⟨Q37 o.dst (Q3v st.ob r).1 st.tm,(Q3v st.ob r).2⟩:St)=s1:=by simp;rfl) (k:Q8 Tryz.prog X ops rest s1 s2):Q8 Tryz.prog X ops (o::rest) st s2:=
 Q8.callB2 ho hg hf ha c a hsol he k
theorem jQ(h:Qpa TT 0 ops l st=some s1):Q17 Tryz.prog X ops l st s1:=Q17.run tok h
theorem jS(k:Nat)(h1:Qpa TT 0 ops (l.take k) st=some s1)(h2:Q17 Tryz.prog X ops (l.drop k) s1 s2):Q17 Tryz.prog X ops l st s2:=Q17.step k tok h1 h2
theorem jM(j d:Nat)(ks:List Nat){b:Bool}{n:Nat}{l1 l0:List (Nat×V)}{ob1 ob0:List Ob}{x:Option V}(hd:st.tm[d]? =x:=by simp;rfl)(hx:x=some (.bool b):=by rfl)
  (p:b=true→Q17 Tryz.prog X ops (l.take j) ⟨st.tm.set d (.bool true),st.ob⟩ s1) (q:b=false→Q17 Tryz.prog X ops (l.take j) ⟨st.tm.set d (.bool false),st.ob⟩ s0)
  (e1:s1=⟨sp n l1,ob1⟩:=by rfl) (e0:s0=⟨sp n l0,ob0⟩:=by rfl) (k:Q17 Tryz.prog X ops (l.drop j) ⟨sp n (Qjx b (Qfo ks l1) (Qfo ks l0)),st.ob⟩ s2):Q17 Tryz.prog X ops l st s2:=Q17.mrgS j d ks hd hx p q e1 e0 k
theorem jC{fo:Operand}{as':Array Operand}{ts:Array TypeId}{f:FuncId}{first cap args':List V}{r:V}
  (ho:o.op= .call {callee:= .value fo,args:=as',argTypes:=ts}:=by rfl) (hg:gd ops st o.guard=some true:=by simp) (hf:val st fo= .clo (.func f) first cap:=by rfl)
  (ha:Qge st.ob (first++as'.toList.map (val st)++cap)=args':=by simp;rfl) (c:Ct Tryz.prog f args' [] r []) (a:Q6 Tryz.prog f) (hdet:r.det=true:=by rfl) (k:Q17 Tryz.prog X ops rest ⟨Q37 o.dst r st.tm,st.ob⟩ s1):Q17 Tryz.prog X ops (o::rest) st s1:=
 Q17.call ho hg hf ha c a hdet k
theorem jq{id:Nat}{y:Code}(ks:List Nat)(hk:W Tryz.prog X y (s1.keep ks) Q)(hX:X.n0=n0:=by assumption)(h:Qgp TT n0 ops ops.toList st=some s1:=by simp;rfl):W Tryz.prog X (.seq (.region id ops false) y) st Q:=Q0 ks (Q8.run tok hX h) hk
theorem jD{id:Nat}{y:Code}(ks:List Nat)(h:Q17 Tryz.prog X ops ops.toList st s1)(hk:W Tryz.prog X y (s1.keep ks) Q)(hB:Region.lexB .any ops=true:=by kernel_rfl):W Tryz.prog X (.seq (.region id ops true) y) st Q:=Q149 ks hmo hB h hk
theorem jH{i:Nat}{L B:List Nat}{s s':St}(ho:ops[i]? =some o:=by rfl)(hL: ∀id∈L,id<s.ob.length:=by simp)(p: ∀X:Ctx,X.n0=s.ob.length→Q8 Tryz.prog X ops [o] ⟨s.tm,hid L s.ob⟩ s')(he:(⟨s'.tm,unh s.ob L s'.ob⟩:St)=s1:=by simp;rfl)(k:Qfe Tryz.prog ops L B s1 s2):Qfe Tryz.prog ops L (i::B) s s2:= .cons ho hL p he k
theorem jL{id:Nat}{y:Code}(n:Nat)(A B ks L:List Nat)(hX:X.n0=n0)(hA:Q5j TT n0 ls.toArray L A st=some s1)(hH:Qfe Tryz.prog ls.toArray L B s1 s2)(h2:Q8 Tryz.prog X ls.toArray (ls.drop n) s2 s3)(hk:W Tryz.prog X y (s3.keep ks) Q)
  (hB:Qwj .any ls.toArray n A B=true:=by kernel_rfl):W Tryz.prog X (.seq (.region id ls.toArray true) y) st Q:=Q148 ks L hmo hB tok hX hA hH h2 hk
theorem jN{i:Nat}{L:List Nat}{t:Tr}{s s':St}(ho:ops[i]? =some o:=by rfl)(hL: ∀id∈L,id<s.ob.length:=by simp)(p: ∀X:Ctx,X.n0=s.ob.length→Q8 Tryz.prog X ops [o] ⟨s.tm,hid L s.ob⟩ s')(he:(⟨s'.tm,unh s.ob L s'.ob⟩:St)=s1:=by (try simp);(try rfl))(k:Qb5 Tryz.prog ops L t s1 s2):Qb5 Tryz.prog ops L (.one i t) s s2:= .one ho hL p he k
theorem jK{id:Nat}{y:Code}(n:Nat)(A:List Nat)(t:Tr)(ks L:List Nat)(hX:X.n0=n0)(hA:Q5j TT n0 ls.toArray L A st=some s1)(hH:Qb5 Tryz.prog ls.toArray L t s1 s2)(h2:Q8 Tryz.prog X ls.toArray (ls.drop n) s2 s3)(hk:W Tryz.prog X y (s3.keep ks) Q)
  (hB:Qvr .any ls.toArray n A t=true:=by kernel_rfl):W Tryz.prog X (.seq (.region id ls.toArray true) y) st Q:=Q144 n A t ks L hmo hB tok hX hA hH h2 hk
theorem jd{c:Operand}{x y:Code}{t:Bool}{v:V}(h1:t=true→W Tryz.prog X x st Q)(h2:t=false→W Tryz.prog X y st Q)(hc:val st c=v:=by simp;rfl)(hv:v= .bool t:=by rfl):W Tryz.prog X (.cond c x y) st Q:=Q14a hc hv h1 h2
theorem je{fn:Func}{n0:Nat}{r r':V}{ob' ob'':List Ob}{z:Option (V×List Ob)}(h:Qjp TT fn n0 st=z)(hr:r'=r)(hz:z=some (r',ob''):=by rfl)(ho:ob''=ob':=by rfl):Qom TT fn n0 r ob' .ret st:=Q1z (h.trans hz) (.of_eq hr) ho
theorem je0{fn:Func}{n0:Nat}{r r':V}{ob' ob'':List Ob}{z:Option (V×List Ob)}(hr:r'=r)(h:Qjp TT fn n0 st=z:=by simp;rfl)(hz:z=some (r',ob''):=by rfl)(ho:ob''=ob':=by rfl):Qom TT fn n0 r ob' .ret st:=Q1z (h.trans hz) (.of_eq hr) ho
theorem jn{fn:Func}{n0:Nat}{r r':V}{ob' ob'':List Ob}{z:Option (V×List Ob)}(h:Qjp TT fn n0 st=z)(hr:r'=r)(hz:z=some (r',ob''):=by rfl)(ho:ob''=ob':=by rfl):Qom TT fn n0 r ob' .normal st:=Qvl (h.trans hz) (.of_eq hr) ho
theorem jn0{fn:Func}{n0:Nat}{r r':V}{ob' ob'':List Ob}{z:Option (V×List Ob)}(hr:r'=r)(h:Qjp TT fn n0 st=z:=by simp;rfl)(hz:z=some (r',ob''):=by rfl)(ho:ob''=ob':=by rfl):Qom TT fn n0 r ob' .normal st:=Qvl (h.trans hz) (.of_eq hr) ho
end
end Go.Proofs
namespace Go.Proofs
open Go Go.Ev
theorem jcb {f : FuncId} {fn : Func} (h : Tryz.prog.funcs[f]? = some fn) (h1 : fn.body.isNone = false := by kernel_rfl) (h2 : (fn.name == "runtime.NumGoroutine") = false := by kernel_rfl) : Q6 Tryz.prog f := ⟨fn, h, h1, h2⟩
theorem jbS{f:FuncId}{fn:Func}{c:Code}{args:List V}{ob ob':List Ob}{r:V}(hf:Tryz.prog.funcs[f]? =some fn)(n:Nat)(h: ∀X:Ctx,X.n0=ob.length→W Tryz.prog X c ⟨sp n (Qx1 0 args),ob⟩ (Qom TT fn ob.length r ob'))(hb:fn.body=some c:=by rfl)(hn:fn.ntmps=n:=by kernel_rfl)(hl:Nat.ble args.length n=true:=by kernel_rfl):Ct Tryz.prog f args ob r ob':=Q131 tok hf hb n hn hl h
end Go.Proofs
namespace Go.Proofs
open Go Go.Ev
abbrev Str:=List UInt8
structure Fld where
 name:Str
 type:Str
 static:Bool
 deriving DecidableEq,Inhabited
structure Ins where
 op:Int
 a:Int
 cls:Str
 name:Str
 desc:Str
 deriving DecidableEq,Inhabited
structure Hdl where
 frm:Int
 upto:Int
 at':Int
 cls:Str
 deriving DecidableEq,Inhabited
structure Mth where
 name:Str
 desc:Str
 static:Bool
 abstr:Bool
 final:Bool
 stack:Int
 locals:Int
 code:List Ins
 hdls:List Hdl
 deriving DecidableEq,Inhabited
structure Cls where
 name:Str
 super:Str
 final:Bool
 abstr:Bool
 fields:List Fld
 methods:List Mth
 deriving DecidableEq,Inhabited
def eF(x:Fld):V:= .agg [.str x.name,.str x.type,.bool x.static]
def eI(x:Ins):V:= .agg [.int .i64 x.op,.int .i64 x.a,.str x.cls,.str x.name,.str x.desc]
def eH(x:Hdl):V:= .agg [.int .i64 x.frm,.int .i64 x.upto,.int .i64 x.at',.str x.cls]
def eM(x:Mth):V:= .agg [.str x.name,.str x.desc,.bool x.static,.bool x.abstr,.bool x.final,.int .i64 x.stack,.int .i64 x.locals,.lst false 5 (x.code.map eI),.lst false 4 (x.hdls.map eH)]
def eC(x:Cls):V:= .agg [.str x.name,.str x.super,.bool x.final,.bool x.abstr,.lst false 3 (x.fields.map eF),.lst false 9 (x.methods.map eM)]
def oM(x:Mth):V:= .agg [.str x.name,.str x.desc,.bool x.static,.bool x.abstr,.bool x.final,.int .i64 x.stack,.int .i64 x.locals,.lst true 5 (x.code.map eI),.lst true 4 (x.hdls.map eH)]
def oC(x:Cls):V:= .agg [.str x.name,.str x.super,.bool x.final,.bool x.abstr,.lst true 3 (x.fields.map eF),.lst true 9 (x.methods.map oM)]
@[simp] theorem one_slice:(Value.slice none 0 0).oneCell'=true:=rfl
@[simp] theorem one_ptr:(Value.pointer none).oneCell'=true:=rfl
@[simp] theorem one_map:(Value.map none).oneCell'=true:=rfl
theorem Q63{α:Type}(f:α→V)(h: ∀x,(f x).pure=true)(l:List α):Q2t (l.map f)=true:=by simp[Qdq,h]
@[simp] theorem pureL_eF (l:List Fld):Q2t (l.map eF)=true:=Q63 _ (fun _=>rfl) l
@[simp] theorem pureL_eI (l:List Ins):Q2t (l.map eI)=true:=Q63 _ (fun _=>rfl) l
@[simp] theorem pureL_eH (l:List Hdl):Q2t (l.map eH)=true:=Q63 _ (fun _=>rfl) l
@[simp] theorem pureL_eM (l:List Mth):Q2t (l.map eM)=true:=Q63 _ (fun _=>rfl) l
@[simp] theorem pureL_eC (l:List Cls):Q2t (l.map eC)=true:=Q63 _ (fun _=>rfl) l
@[simp] theorem pureL_oM (l:List Mth):Q2t (l.map oM)=true:=Q63 _ (fun _=>rfl) l
@[simp] theorem pureL_oC (l:List Cls):Q2t (l.map oC)=true:=Q63 _ (fun x=>by simp[oC,V.pure,Q2t]) l
@[simp] theorem take_map_len {α:Type} (f:α→V) (l:List α):(l.map f).take l.length=l.map f:=by rw[List.take_of_length_le];simp
theorem Q9e{α:Type}(f:α→V)(h: ∀x,(f x).fz=f x)(l:List α):fzL (l.map f)=l.map f:=by simp[Qcw,h]
@[simp] theorem fzL_str (l:List Str):fzL (l.map V.str)=l.map V.str:=Q9e _ (fun _=>rfl) l
@[simp] theorem fzL_eF (l:List Fld):fzL (l.map eF)=l.map eF:=Q9e _ (fun _=>rfl) l
@[simp] theorem fzL_eI (l:List Ins):fzL (l.map eI)=l.map eI:=Q9e _ (fun _=>rfl) l
@[simp] theorem fzL_eH (l:List Hdl):fzL (l.map eH)=l.map eH:=Q9e _ (fun _=>rfl) l
@[simp] theorem fzL_eM (l:List Mth):fzL (l.map eM)=l.map eM:=Q9e _ (fun _=>rfl) l
@[simp] theorem fzL_eC (l:List Cls):fzL (l.map eC)=l.map eC:=Q9e _ (fun _=>rfl) l
theorem Q16q(x:Mth):(oM x).fz=eM x:=by simp[oM,eM,V.fz,fzL,fzL_eI,fzL_eH]
@[simp] theorem fzL_oM (l:List Mth):fzL (l.map oM)=l.map eM:=by simp[Qcw,Q16q]
theorem Q16r(x:Cls):(oC x).fz=eC x:=by simp[oC,eC,V.fz,fzL,fzL_eF,fzL_oM]
@[simp] theorem fzL_oC (l:List Cls):fzL (l.map oC)=l.map eC:=by simp[Qcw,Q16r]
@[simp] theorem pureL_str (l:List Str):Q2t (l.map V.str)=true:=Q63 _ (fun _=>rfl) l
theorem Q6w{α:Type}(p:Nat→Bool)(f:α→V)(h: ∀x,(f x).pure=true)(l:List α):jkL p (l.map f)=l.map f:=Qah p _ (Q63 f h l)
@[simp] theorem jkL_str (p:Nat→Bool) (l:List Str):jkL p (l.map V.str)=l.map V.str:=Q6w p _ (fun _=>rfl) l
@[simp] theorem jkL_eF (p:Nat→Bool) (l:List Fld):jkL p (l.map eF)=l.map eF:=Q6w p _ (fun _=>rfl) l
@[simp] theorem jkL_eI (p:Nat→Bool) (l:List Ins):jkL p (l.map eI)=l.map eI:=Q6w p _ (fun _=>rfl) l
@[simp] theorem jkL_eH (p:Nat→Bool) (l:List Hdl):jkL p (l.map eH)=l.map eH:=Q6w p _ (fun _=>rfl) l
@[simp] theorem jkL_eM (p:Nat→Bool) (l:List Mth):jkL p (l.map eM)=l.map eM:=Q6w p _ (fun _=>rfl) l
@[simp] theorem jkL_eC (p:Nat→Bool) (l:List Cls):jkL p (l.map eC)=l.map eC:=Q6w p _ (fun _=>rfl) l
@[simp] theorem jkL_oM (p:Nat→Bool) (l:List Mth):jkL p (l.map oM)=l.map oM:=Q6w p _ (fun _=>rfl) l
@[simp] theorem jkL_oC (p:Nat→Bool) (l:List Cls):jkL p (l.map oC)=l.map oC:=Q6w p _ (fun x=>by simp[oC,V.pure,Q2t]) l
@[simp] theorem nc_inj (a b:Nat):((a:Int)=(b:Int))↔a=b:=Int.ofNat_inj
@[simp] theorem nc_inj1 (a b:Nat):((a:Int)=(b:Int)+1)↔a=b+1:=by omega
@[simp] theorem nc_inj2 (a b:Nat):((a:Int)+1=(b:Int))↔a+1=b:=by omega
@[simp] theorem nc_lt1 (a b:Nat):((a:Int)+1<(b:Int))↔a+1<b:=by omega
@[simp] theorem nc_le1 (a b:Nat):((a:Int)+1≤(b:Int))↔a+1≤b:=by omega
@[simp] theorem nc_1lt (a b:Nat):((a:Int)<(b:Int)+1)↔a<b+1:=by omega
@[simp] theorem nc_1le (a b:Nat):((a:Int)≤(b:Int)+1)↔a≤b+1:=by omega
@[simp] theorem nc_pos1 (a:Nat):(0≤(a:Int)+1)↔True:=iff_true_intro Za
@[simp] theorem nc_ltk (a b k:Nat):((a:Int)+(no_index (OfNat.ofNat k):Int)<(b:Int))↔a+OfNat.ofNat k<b:=by show (a:Int)+(k:Int)<b↔a+k<b;omega
@[simp] theorem nc_lek (a b k:Nat):((a:Int)+(no_index (OfNat.ofNat k):Int)≤(b:Int))↔a+OfNat.ofNat k≤b:=by show (a:Int)+(k:Int)≤b↔a+k≤b;omega
@[simp] theorem nc_posk (a k:Nat):(0≤(a:Int)+(no_index (OfNat.ofNat k):Int))↔True:=iff_true_intro (by show 0≤(a:Int)+(k:Int);omega)
@[simp] theorem lit_lt (k n:Nat):((no_index (OfNat.ofNat k):Int)<(n:Int))↔OfNat.ofNat k<n:=by show (k:Int)<n↔k<n;omega
@[simp] theorem lit_le (k n:Nat):((no_index (OfNat.ofNat k):Int)≤(n:Int))↔OfNat.ofNat k≤n:=by show (k:Int)≤n↔k≤n;omega
@[simp] theorem lit_gt (k n:Nat):((n:Int)<(no_index (OfNat.ofNat k):Int))↔n<OfNat.ofNat k:=by show (n:Int)<k↔n<k;omega
@[simp] theorem lit_ge (k n:Nat):((n:Int)≤(no_index (OfNat.ofNat k):Int))↔n≤OfNat.ofNat k:=by show (n:Int)≤k↔n≤k;omega
@[simp] theorem lit_eq (k n:Nat):((n:Int)=(no_index (OfNat.ofNat k):Int))↔n=OfNat.ofNat k:=by show (n:Int)=k↔n=k;omega
@[simp high] theorem int_beq (x y:Int):(x==y)=decide (x=y):=by by_cases h:x=y<;>simp[h]
@[simp high] theorem int_bne (x y:Int):(x !=y)= !decide (x=y):=by by_cases h:x=y<;>simp[h]
@[simp high] theorem str_beq (x y:List UInt8):(x==y)=decide (x=y):=by by_cases h:x=y<;>simp[h]
@[simp high] theorem u8_of (c:UInt8):UInt8.ofNat c.toNat=c:=by simp
attribute [simp] Qc Qb Q140 Q12k Q12l
attribute [simp] Qrc Qem Qp0 Qrk Qoy Qji
@[simp] theorem take_app1 {α:Type} (f:α→V) (l:List α) (x:V):(l.map f++[x]).take (l.length+1)=l.map f++[x]:=List.take_of_length_le Z3
attribute [simp] Q5j rdB hid unh
attribute [simp high] Qda
attribute [simp] Qi5 V.borD Qx0 Qjx Q14y Qif Q15u lkA ins Qfo jkA Qx1 memN Qr4 St.nilC St.nilS St.mrg2 opY Q3i Qi3 oM oC St.absorb Qpa Qax V.det Qwr eC eF eM eI eH V.cells Qgp Qzv gd opB opX Quu opA val Q37 opEq Qyl Qza Qyg Qcp Qcq Qus Qq5 Qut Qq4 Qq6 sl3 bnd rd TI.isAgg Qlc eqF bld Qxq Qgn
 Qjp Qxf resV Qbt Qqj Qxr Q65 V.lim Qvz Q33 V.cellOK V.pure Q2t V.free Q9f Qek St.mrg Qvi Q3v Qjl Q6u V.mapId wb Qde Qjz Qst gIn Qge V.bor seen Qlb fzL V.fz V.solid Q3z St.keep Qcv St.trim jkL V.jk jkO St.upd updL updO
end Go.Proofs
namespace Go.Proofs
open Go Go.Ev
def Q4w(c:UInt8)(first:Bool):Bool:=
 decide (97≤c.toNat∧c.toNat≤122∨65≤c.toNat∧c.toNat≤90∨c.toNat=36∨(first=false∧48≤c.toNat∧c.toNat≤57))
def Q8a(first:Bool):Str→Bool
 |[]=>true
 |c::l=>Q4w c first&&Q8a false l
def Q2u(t:Str):Bool:=decide (1≤t.length∧t.length≤20)&&Q8a true t
def Q2y:Nat→Bool→Str→Nat
 |n+1,first,c::l=>if Q4w c first then Q2y n false l+1 else 0
 |_,_,_=>0
def Q28(t:Str)(p n:Nat):Bool:=match t[p]? with|some c=>decide (c.toNat=n)|none=>false
theorem Q3a{t:Str}{p n:Nat}(h:p<t.length):Q28 t p n=decide ((t[p].toNat:Int)=(n:Int)):=by
 simp only[Q28,List.getElem?_eq_getElem h]
 simp only[decide_eq_decide]
 omega
theorem Q6o{t:Str}{p n:Nat}(h:t.length≤p):Q28 t p n=false:=by
 simp[Q28,List.getElem?_eq_none h]
theorem Q4b{t:Str}{p n:Nat}(h:Q28 t p n=true):p<t.length:=by
 rcases Nat.lt_or_ge p t.length with h'|h'
 ·exact h'
 ·rw[Q6o h'] at h;cases h
def nmP(t:Str)(fro:Nat):Nat×Bool:=
 let i:=fro+Q2y 20 true (t.drop fro)
 if Q28 t i 59&& !decide (i=fro) then (i+1,true) else (i,false)
def Q62(t:Str)(p:Nat):Nat×Bool:=
 if Q28 t p 73 then (p+1,true) else if Q28 t p 76 then nmP t (p+1) else (p,false)
def tyP(t:Str)(p:Nat):Nat×Bool:=
 if Q28 t p 91 then Q62 t (p+1) else Q62 t p
def Q1k(t:Str):Bool:=decide (t.length≤20000)&&(tyP t 0).2&&decide ((tyP t 0).1=t.length)
theorem Qye{c:UInt8}{n:Nat}(h:n<256):(c.toNat=n)↔c=UInt8.ofNat n:=by
 rw[←UInt8.toNat_inj];simp;omega
theorem Q11z{t:Str}{i:Nat}(h:i<t.length):t[i]? =some t[i]:=List.getElem?_eq_getElem h
theorem Qex{t:Str}{i fro:Nat}(hi:i<t.length)(hn:i-fro<20)(hf:fro≤i):
  Q2y (20-(i-fro)) (decide (i=fro)) (t.drop i)=if Q4w t[i] (decide (i=fro)) then Q2y (20-(i+1-fro)) (decide (i+1=fro)) (t.drop (i+1))+1 else 0:=by
 rw[List.drop_eq_getElem_cons hi,show 20-(i-fro)=(20-(i+1-fro))+1 from by omega,show decide (i+1=fro)=false from by simp;omega]
 rfl
theorem Qr1: ∀(n:Nat) (f:Bool) (l:Str),Q2y n f l≤l.length∧Q2y n f l≤n
 |0,_,_=>by simp[Q2y]
 |n+1,_,[]=>by simp[Q2y]
 |n+1,f,c::l=>by
  have:=Qr1 n false l
  simp only[Q2y]
  split<;>simp<;>omega
theorem Q11m{t:Str}{p:Nat}(h:p≤t.length):p≤(nmP t p).1∧(nmP t p).1≤t.length∧((nmP t p).2=true→p<(nmP t p).1)∧(nmP t p).1≤p+21:=by
 have:=Qr1 20 true (t.drop p)
 rw[List.length_drop] at this
 simp only[nmP]
 split
 ·rename_i h'
  simp only[Bool.and_eq_true] at h'
  have:=Q4b h'.1
  simp;omega
 ·simp;omega
theorem Qum{t:Str}{p:Nat}(h:p≤t.length):p≤(Q62 t p).1∧(Q62 t p).1≤t.length∧((Q62 t p).2=true→p<(Q62 t p).1)∧(Q62 t p).1≤p+22:=by
 simp only[Q62]
 split
 ·rename_i h';have:=Q4b h';simp;omega
 ·split
  ·rename_i h';have:=Q4b h';have:=Q11m (t:=t) (p:=p+1) Za;omega
  ·simp;omega
theorem Qmv{t:Str}{p:Nat}(h:p≤t.length):p≤(tyP t p).1∧(tyP t p).1≤t.length∧((tyP t p).2=true→p<(tyP t p).1)∧(tyP t p).1≤p+23:=by
 simp only[tyP]
 split
 ·rename_i h'
  have h1:=Q4b h'
  have h2:=Qum (t:=t) (p:=p+1) Za
  exact ⟨by omega,by omega,fun h=>by have:=h2.2.2.1 h;omega,by omega⟩
 ·have h2:=Qum (t:=t) (p:=p) h
  exact ⟨h2.1,h2.2.1,h2.2.2.1,by omega⟩
def seg(t:Str)(p e:Nat):Str:=(t.take e).drop p
def Q3s(t:Str):Nat→Nat→List Str→Except Nat (List Str×Nat)
 |0,p,ps=>if Q28 t p 41 then .ok (ps,p) else .error p
 |n+1,p,ps=>if Q28 t p 41 then .ok (ps,p) else if (tyP t p).2 then Q3s t n (tyP t p).1 (ps++[seg t p (tyP t p).1]) else .error (tyP t p).1
structure DO where
 params:List Str
 res:Str
 place:Int
 code:Int
 deriving DecidableEq,Inhabited
def eDO(x:DO):V:= .agg [.lst true 1 (x.params.map V.str),.str x.res,.int .i64 x.place,.int .i64 x.code]
attribute [simp] eDO
def Q55(p:Nat):DO:=⟨[],[],p,3⟩
def Q1t(t:Str)(ps:List Str)(p:Nat):DO:=
 if Q28 t (p+1) 86 then (if p+2<t.length then Q55 (p+2) else ⟨ps,[86],0,0⟩)
 else if (tyP t (p+1)).2 then (if (tyP t (p+1)).1<t.length then Q55 (tyP t (p+1)).1 else ⟨ps,seg t (p+1) (tyP t (p+1)).1,0,0⟩)
 else Q55 (tyP t (p+1)).1
def Q1g(t:Str):DO:=
 if Q28 t 0 40 then (match Q3s t 8 1 [] with| .error p=>Q55 p| .ok (ps,p)=>Q1t t ps p) else Q55 0
def Qg(t:Str):DO:=if 20000<t.length then ⟨[],[],0,2⟩ else Q1g t
theorem Qdz{t:Str}{p:Nat}(h0:Q28 t 0 40=true)(h:Q3s t 8 1 []= .error p):Q1g t=Q55 p:=by simp[Q1g,h0,h]
theorem Qwt{t:Str}{p:Nat}{ps:List Str}(h0:Q28 t 0 40=true)(h:Q3s t 8 1 []= .ok (ps,p)):Q1g t=Q1t t ps p:=by simp[Q1g,h0,h]
theorem Qk1{t:Str}: ∀{n p:Nat} {ps qs:List Str} {q:Nat},Q3s t n p ps= .ok (qs,q)→qs.length≤ps.length+n∧Q28 t q 41=true
 |0,p,ps,qs,q,h=>by
  simp only[Q3s] at h
  split at h
  ·rename_i h';cases h;exact ⟨by omega,h'⟩
  ·cases h
 |n+1,p,ps,qs,q,h=>by
  simp only[Q3s] at h
  split at h
  ·rename_i h';cases h;exact ⟨by omega,h'⟩
  ·split at h
   ·have:=Qk1 h
    simp at this
    exact ⟨by omega,this.2⟩
   ·cases h
theorem Qak(t:Str):(Qg t).params.length≤8:=by
 unfold Qg
 split
 ·simp
 ·unfold Q1g
  split
  ·split
   ·simp[Q55]
   ·rename_i ps p h
    have:=Qk1 h
    unfold Q1t
    split
    ·split<;>simp[Q55];simpa using this.1
    ·split
     ·split<;>simp[Q55];simpa using this.1
     ·simp[Q55]
  ·simp[Q55]
theorem Qdg{t:Str}: ∀{n p:Nat} {ps qs:List Str} {q:Nat},Q3s t n p ps= .ok (qs,q)→(∀s∈ps,s.length≤t.length)→ ∀s∈qs,s.length≤t.length
 |0,p,ps,qs,q,h,hs=>by
  simp only[Q3s] at h
  split at h
  ·cases h;exact hs
  ·cases h
 |n+1,p,ps,qs,q,h,hs=>by
  simp only[Q3s] at h
  split at h
  ·cases h;exact hs
  ·split at h
   ·refine Qdg h fun s hm=> ?_
    rcases List.mem_append.1 hm with hm|hm
    ·exact hs s hm
    ·simp at hm;subst hm;simp[seg];omega
   ·cases h
theorem Q9h(t:Str):(Qg t).res.length≤t.length∧ ∀s∈(Qg t).params,s.length≤t.length:=by
 unfold Qg
 split
 ·simp
 ·unfold Q1g
  split
  ·rename_i h0
   have hlt:=Q4b h0
   split
   ·simp[Q55]
   ·rename_i ps p h
    have hp:=Qdg h Z3
    unfold Q1t
    split
    ·split
     ·simp[Q55]
     ·exact ⟨by simp;omega,hp⟩
    ·split
     ·split
      ·simp[Q55]
      ·exact ⟨by simp[seg];omega,hp⟩
     ·simp[Q55]
  ·simp[Q55]
theorem Q3b(r:Str)(p c:Int):Wk (.agg [.raw (.slice none 0 0),.str r,.int .i64 p,.int .i64 c]) (eDO ⟨[],r,p,c⟩):=
 Wk.agg (.cons (Wk.nilSlice _ _) (.cons (Wk.refl _) (.cons (Wk.refl _) (.cons (Wk.refl _) .nil))))
end Go.Proofs
namespace Go.Proofs
open Go Go.Ev
def Q8k(c:UInt8):Str→List Str
 |[]=>[[]]
 |x::t=>if x=c then []::Q8k c t else (match Q8k c t with|h::r=>(x::h)::r|[]=>[[x]])
theorem Qtd{c:UInt8}: ∀{l:Str},(∀x∈l,x≠c)→Q8k c l=[l]
 |[],_=>rfl
 |x::l,h=>by
  have h2:Q8k c l=[l]:=Qtd (fun y hy=>h y (List.mem_cons_of_mem _ hy))
  simp only[Q8k,if_neg (h x Z3),h2]
theorem Qqn{c:UInt8}: ∀{l:Str} {k:Nat} (hk:k<l.length),(∀x∈l.take k,x≠c)→l[k]=c→Q8k c l=l.take k::Q8k c (l.drop (k+1))
 |[],k,hk,_,_=>by simp at hk
 |x::l,0,_,_,h=>by simp only[List.getElem_cons_zero] at h;simp[Q8k,h]
 |x::l,k+1,hk,hn,h=>by
  have:=Qqn (c:=c) (l:=l) (k:=k) (by simpa using hk) (fun y hy=>hn y (by rw[List.take_succ_cons];exact List.mem_cons_of_mem _ hy)) (by simpa using h)
  simp only[Q8k,if_neg (hn x Z3),this,List.take_succ_cons,List.drop_succ_cons]
def Qvy:List Str:=[[],[99,111,110,115,116,32,110],[110,117,108,108],[108,111,97,100,32,105],[115,116,111,114,101,32,105],[112,111,112],[100,117,112],[115,119,97,112],[97,100,100],[115,117,98],[109,117,108],[100,105,118],[114,101,109],[97,110,100],[111,114],[120,111,114],[115,104,108],[115,104,114],[117,115,104,114],[103,111,116,111,32,116],[105,102,101,113,32,116],[105,102,108,116,32,116],[105,102,115,97,109,101,32,116],[105,102,108,101,115,115,32,116],[105,102,110,117,108,108,32,116],[105,102,105,115,32,116],[114,101,116,117,114,110],[105,114,101,116,117,114,110],[97,114,101,116,117,114,110],[116,104,114,111,119],[100,117,112,50],[110,101,119,32,99],[103,101,116,102,105,101,108,100,32,102],[112,117,116,102,105,101,108,100,32,102],[103,101,116,115,116,97,116,105,99,32,102],[112,117,116,115,116,97,116,105,99,32,102],[99,97,108,108,32,109],[99,97,108,108,115,116,97,116,105,99,32,109],[99,97,108,108,115,112,101,99,105,97,108,32,109],[99,97,115,116,32,99],[105,115,111,102,32,99],[110,101,119,108,105,115,116,32,121],[103,101,116],[112,117,116],[115,105,122,101]]
def Qty:List Str:=[[110],[],[105],[105],[],[],[],[],[],[],[],[],[],[],[],[],[],[],[116],[116],[116],[116],[116],[116],[116],[],[],[],[],[],[99],[102],[102],[102],[102],[109],[109],[109],[99],[99],[121],[],[],[]]
def Q8l(op:Int):Str:=if op<1∨44<op then [33] else Qty.getD (op-1).toNat []
def Qv6(w:List Str):Str:=if w.length=2 then w.getD 1 [] else []
theorem Qxw: ∀i:Fin 45,i.val≠0→Qv6 (Q8k 32 (Qvy.getD i.val []))=Qty.getD (i.val-1) []:=by decide
theorem Q100: ∀i:Fin 45,(Qvy[i.val]'(i.isLt)).length≤20:=by decide
def Q3e(x:Ins):Bool:=decide (x.cls=[]∧x.name=[]∧x.desc=[])
def Q9d(n:Int):Bool:=decide (-2147483648≤n∧n≤2147483647)
def Qm:Str:=[60,105,110,105,116,62]
def Q1o(x:Ins):Bool:=
 let f:=Q8l x.op
 if f=[] then decide (x.a=0)&&Q3e x
 else if f=[110] then Q9d x.a&&Q3e x
 else if f=[105] then decide (0≤x.a∧x.a<16)&&Q3e x
 else if f=[116] then decide (0≤x.a∧x.a<60)&&Q3e x
 else if f=[99] then decide (x.a=0)&&Q2u x.cls&&decide (x.name=[]∧x.desc=[])
 else if f=[121] then decide (x.a=0∧x.cls=[]∧x.name=[])&&Q1k x.desc&& !Q28 x.desc 0 91
 else if f=[102] then decide (x.a=0)&&Q2u x.cls&&Q2u x.name&&Q1k x.desc
 else if f=[109] then decide (x.a=0)&&Q2u x.cls&&(Q2u x.name||decide (x.name=Qm))&&decide ((Qg x.desc).code=0)
 else false
def Q67(many:Int)(x:Hdl):Bool:=decide (0≤x.frm∧x.frm<x.upto∧x.upto≤many∧0≤x.at'∧x.at'<many)&&Q2u x.cls
def Q83(many:Int)(x:Ins):Bool:=Q1o x&& !(decide (Q8l x.op=[116])&&decide (x.a≥many))
def Qgu(x:Mth):Nat:=(Qg x.desc).params.length+if x.static then 0 else 1
def Q4g(x:Mth):Bool:=(Q2u x.name||decide (x.name=Qm))&&decide ((Qg x.desc).code=0)&&decide (0≤x.stack∧x.stack≤16∧0≤x.locals∧x.locals≤16)
def Q3d(x:Mth):Bool:=
 if Q4g x then
  if x.abstr then decide (x.stack=0∧x.locals=0∧x.code.length=0∧x.hdls.length=0)&& !x.static&& !x.final&& !decide (x.name=Qm)
  else if x.code.length<1∨60<x.code.length∨x.locals<Qgu x∨6<x.hdls.length then false
  else x.code.all (Q83 x.code.length)&&(x.hdls.all (Q67 x.code.length)&&(!decide (x.name=Qm)||(!x.static&& !x.final&&decide ((Qg x.desc).res=[86]))))
 else false
theorem Qct{x:Mth}(h:Q4g x=false):Q3d x=false:=by simp[Q3d,h]
theorem Q9b{x:Mth}(h:Q4g x=true)(h2:x.abstr=true):Q3d x=(decide (x.stack=0∧x.locals=0∧x.code.length=0∧x.hdls.length=0)&& !x.static&& !x.final&& !decide (x.name=Qm)):=by simp only[Q3d,h,h2,if_true]
theorem Qlk{x:Mth}(h2:x.abstr=false)(h3:x.code.length<1∨60<x.code.length∨x.locals<Qgu x∨6<x.hdls.length):Q3d x=false:=by
 simp only[Q3d,h2,Bool.false_eq_true,if_false,if_pos h3,ite_self]
theorem Qow{x:Mth}(h:Q4g x=true)(h2:x.abstr=false)(h3: ¬(x.code.length<1∨60<x.code.length∨x.locals<Qgu x∨6<x.hdls.length)):
  Q3d x=(x.code.all (Q83 x.code.length)&&(x.hdls.all (Q67 x.code.length)&&(!decide (x.name=Qm)||(!x.static&& !x.final&&decide ((Qg x.desc).res=[86]))))):=by
 simp only[Q3d,h,h2,Bool.false_eq_true,if_true,if_false,if_neg h3]
theorem Q5b{α:Type}{p:α→Bool}{l:List α}{i:Nat}(h:i<l.length):(l.drop i).all p=(p l[i]&&(l.drop (i+1)).all p):=by
 rw[List.drop_eq_getElem_cons h];rfl
theorem Q2n{t:Str}(h:Q1k t=true):0<t.length∧t.length≤23:=by
 simp only[Q1k,Bool.and_eq_true,decide_eq_true_eq] at h
 have h1:=Qmv (t:=t) (p:=0) (Nat.zero_le _)
 have h2:=h1.2.2.1 h.1.2
 omega
def Qae(x:Cls):Bool:=Q2u x.name&&Q2u x.super&& !decide (x.name=x.super)&& !(x.final&&x.abstr)&&decide (x.fields.length≤8∧x.methods.length≤10)
def Qcx(pre:List Fld):List Fld→Bool
 |[]=>true
 |f::l=>Q2u f.name&&Q1k f.type&&pre.all (fun g=> !decide (g.name=f.name))&&Qcx (pre++[f]) l
def Qcs(abstr:Bool)(pre:List Mth):List Mth→Bool
 |[]=>true
 |f::l=>Q3d f&& !(f.abstr&& !abstr)&&pre.all (fun g=> !(decide (g.name=f.name)&&decide (g.desc=f.desc)))&&Qcs abstr (pre++[f]) l
def Q49(x:Cls):Bool:=Qae x&&(Qcx [] x.fields&&Qcs x.abstr [] x.methods)
end Go.Proofs
namespace Go.Proofs
open Go Go.Ev
theorem Q15b:Q14v Tryz.prog 335:=⟨_,Tryz.func335,by kernel_rfl,by kernel_rfl,by kernel_rfl,by kernel_rfl⟩
def Qdv:Str:=[48,49,50,51,52,53,54,55,56,57,97,98,99,100,101,102,103,104,105,106,107,108,109,110,111,112,113,114,115,116,117,118,119,120,121,122,65,66,67,68,69,70,71,72,73,74,75,76,77,78,79,80,81,82,83,84,85,86,87,88,89,90,36]
theorem Qux: ∀n:Fin 256,(decide (10≤ixL (UInt8.ofNat n.val) Qdv)=Q4w (UInt8.ofNat n.val) true)∧(decide (0≤ixL (UInt8.ofNat n.val) Qdv)=Q4w (UInt8.ofNat n.val) false):=by decide+kernel
theorem Qr0(c:UInt8):(decide (10≤ixL c Qdv)=Q4w c true)∧(decide (0≤ixL c Qdv)=Q4w c false):=by
 have:=Qux ⟨c.toNat,c.toNat_lt⟩
 simpa using this
end Go.Proofs
namespace Go.Proofs
open Go Go.Ev
abbrev rdr (t:Str) (p:Nat) (b:Bool):Ob:=some (3,[.agg [.str t,.int .i64 p,.bool b]])
def hit(t:Str)(p:Nat)(b:Bool)(n:Nat):Bool:= !b&&Q28 t p n
def adv(h:Bool)(p:Nat):Nat:=bif h then p+1 else p
@[simp] theorem adv_true {p:Nat}:adv true p=p+1:=rfl
@[simp] theorem adv_false {p:Nat}:adv false p=p:=rfl
theorem Qy8{t:Str}{p n:Nat}:p≤adv (Q28 t p n) p∧(p≤t.length→adv (Q28 t p n) p≤t.length):=by
 cases h:Q28 t p n
 ·exact ⟨Nat.le_refl _,fun h=>h⟩
 ·have:=Q4b h;simp;omega
@[simp] theorem hit_true {t:Str} {p n:Nat}:hit t p true n=false:=rfl
@[simp] theorem hit_false {t:Str} {p n:Nat}:hit t p false n=Q28 t p n:=rfl
theorem Qzx(t:Str):(Q1k t&& !Q28 t 0 91)=(decide (t=[73])||(Q1k t&&Q28 t 0 76)):=by
 by_cases h:Q1k t=true
 ·have hl:=(Q2n h).1
  cases t with
  |nil=>simp at hl
  |cons c l=>
   simp only[Q1k,tyP,Q62,Bool.and_eq_true,decide_eq_true_eq] at h
   by_cases h91:Q28 (c::l) 0 91=true
   ·have:Q28 (c::l) 0 76=false:=by simp only[Q28,List.getElem?_cons_zero] at h91⊢;simp at h91⊢;omega
    have h2:c≠73:=by intro e;subst e;simp[Q28] at h91
    simp[h91,this,h2]
   ·have h91:Q28 (c::l) 0 91=false:=by simpa using h91
    simp only[h91,Bool.false_eq_true,if_false] at h
    by_cases h73:Q28 (c::l) 0 73=true
    ·simp only[h73,if_true] at h
     have hc:c=73:=by simp only[Q28,List.getElem?_cons_zero] at h73;simp at h73;exact (Qye (by decide)).1 h73
     have hl2:l=[]:=by have:=h.2;simp at this;exact this
     subst hc;subst hl2
     simp[Q28]
     decide
    ·have h73:Q28 (c::l) 0 73=false:=by simpa using h73
     simp only[h73,Bool.false_eq_true,if_false] at h
     have hc:c≠73:=by intro e;subst e;simp[Q28] at h73
     by_cases h76:Q28 (c::l) 0 76=true
     ·simp[h91,h76,hc]
     ·simp[h76] at h
 ·have h2:t≠[73]:=by intro e;subst e;exact h (by decide)
  simp[h,h2]
end Go.Proofs
namespace Go.Proofs
open Go Go.Ev
def Q8d{α:Type}(f:α→V)(d:V)(l:List α)(i:Nat):List V:=(l.take i).map f++List.replicate (l.length-i) d
theorem Q3r{α:Type}{f:α→V}{d:V}{l:List α}{i:Nat}:(Q8d f d l i).length=l.length:=by
 simp[Q8d];omega
theorem Qa3{α:Type}{f:α→V}{d:V}{l:List α}:Q8d f d l 0=List.replicate l.length d:=by simp[Q8d]
theorem Qa4{α:Type}{f:α→V}{d:V}{l:List α}:Q8d f d l l.length=l.map f:=by simp[Q8d]
theorem Q10d{α:Type}{f:α→V}{d:V}{l:List α}{i:Nat}(h:i<l.length):(Q8d f d l i)[i]? =some d:=by
 simp only[Q8d]
 rw[List.getElem?_append_right (by simp;omega)]
 simp[List.getElem?_replicate]
 omega
theorem Qaj{α:Type}{f:α→V}{d:V}{l:List α}{i:Nat}{h':i<(Q8d f d l i).length}(h:i<l.length):(Q8d f d l i)[i]'h'=d:=by
 have:=Q10d (f:=f) (d:=d) h
 rw[List.getElem?_eq_getElem h'] at this
 exact Option.some.inj this
theorem Q72{α:Type}{f:α→V}{d:V}{l:List α}{i:Nat}(h:i<l.length):(Q8d f d l i).set i (f l[i])=Q8d f d l (i+1):=by
 simp only[Q8d]
 rw[List.set_append_right _ _ (by simp;omega)]
 have e1:l.length-i=(l.length-(i+1))+1:=by omega
 have e2:i-((l.take i).map f).length=0:=by simp;omega
 rw[e1,List.replicate_succ,e2,List.set_cons_zero,List.take_succ_eq_append_getElem h,List.map_append,List.append_assoc]
 rfl
theorem Qot{α:Type}{f:α→V}{d:V}(hf: ∀x,(f x).pure=true)(hd:d.pure=true){l:List α}{i:Nat}:Q2t (Q8d f d l i)=true:=by
 simp only[Q8d,Qem,Qdq,Bool.and_eq_true,List.all_eq_true,List.mem_map,List.mem_replicate]
 intro x hx
 rcases List.mem_append.1 hx with hx|hx
 ·obtain ⟨y,_,rfl⟩:=List.mem_map.1 hx;exact hf y
 ·rw[(List.mem_replicate.1 hx).2];exact hd
theorem Q3q{α:Type}{f:α→Nat}{l:List α}{y:α}(h:y∈l):f y≤(l.map f).sum:=by
 induction l with
 |nil=>simp at h
 |cons x l ih=>
  simp only[List.map_cons,List.sum_cons]
  rcases List.mem_cons.1 h with rfl|h
  ·omega
  ·have:=ih h;omega
def sub(z:Int)(n:Nat):Int:=if z-n<0 then-1 else z-n
def Q89(x:Fld):Nat:=x.name.length+x.type.length
def bigF(x:Fld):Prop:=x.name.length<4611686018427387904∧x.type.length<4611686018427387904
def Q5x(x:Ins):Nat:=x.cls.length+x.name.length+x.desc.length
def bigI(x:Ins):Prop:=x.cls.length<4611686018427387904∧x.name.length<4611686018427387904∧x.desc.length<4611686018427387904
def Qff(x:Hdl):Nat:=x.cls.length
def bigH(x:Hdl):Prop:=x.cls.length<4611686018427387904
def Q3t(x:Mth):Nat:=x.name.length+x.desc.length+(x.code.length+(x.code.map Q5x).sum)+(x.hdls.length+(x.hdls.map Qff).sum)
def Qsk(x:Mth):Prop:=x.name.length<4611686018427387904∧x.desc.length<4611686018427387904∧x.code.length<4611686018427387904∧(∀y∈x.code,bigI y)∧x.hdls.length<4611686018427387904∧(∀y∈x.hdls,bigH y)
def Q1n(x:Cls):Nat:=x.name.length+x.super.length+(x.fields.length+(x.fields.map Q89).sum)+(x.methods.length+(x.methods.map Q3t).sum)
def Qq1(x:Cls):Prop:=x.name.length<4611686018427387904∧x.super.length<4611686018427387904∧x.fields.length<4611686018427387904∧(∀y∈x.fields,bigF y)∧x.methods.length<4611686018427387904∧(∀y∈x.methods,Qsk y)
end Go.Proofs
namespace Go.Proofs
open Go Go.Ev
def fix{α:Type}(p:α→Bool):List α→Int
 |[]=> -1
 |x::l=>if p x then 0 else if fix p l<0 then-1 else fix p l+1
theorem Q6y{α:Type}{p:α→Bool}: ∀{l:List α},(∀x∈l,p x=false)→fix p l= -1
 |[],_=>rfl
 |x::l,h=>by
  have:=Q6y (l:=l) (fun y hy=>h y (by simp[hy]))
  simp[fix,h x Z3,this]
theorem Q77{α:Type}{p:α→Bool}: ∀{l:List α} {i:Nat} (h:i<l.length),(∀x∈l.take i,p x=false)→p l[i]=true→fix p l=i
 |[],_,h,_,_=>by simp at h
 |x::l,0,_,_,hp=>by simp at hp;simp[fix,hp]
 |x::l,i+1,h,hn,hp=>by
  have:=Q77 (l:=l) (i:=i) (by simpa using h) (fun y hy=>hn y (by rw[List.take_succ_cons];simp[hy])) (by simpa using hp)
  have hx:=hn x (by rw[List.take_succ_cons];simp)
  simp[fix,hx,this]
  try omega
theorem Qrp{α:Type}{p:α→Bool}: ∀{l:List α},-1≤fix p l∧fix p l<l.length
 |[]=>by simp[fix]
 |x::l=>by
  have:=Qrp (p:=p) (l:=l)
  simp only[fix]
  split
  ·simp;try omega
  ·split<;>simp<;>omega
theorem Qz2{α:Type}{p:α→Bool}: ∀{l:List α},0≤fix p l↔l.any p=true
 |[]=>by simp[fix]
 |x::l=>by
  have h1:=Qrp (p:=p) (l:=l)
  have h2:=Qz2 (p:=p) (l:=l)
  simp only[fix,List.any_cons]
  by_cases hx:p x=true
  ·simp[hx]
  ·rw[if_neg hx,show p x=false from by simpa using hx,Bool.false_or,←h2]
   split<;>omega
theorem Qk0{α:Type}{p:α→Bool}{l:List α}:decide (0≤fix p l)=l.any p:=by
 rw[Bool.eq_iff_iff,decide_eq_true_eq,Qz2]
theorem Qu3{α:Type}{p:α→Bool}{l:List α}{i:Nat}(h:i<l.length)(hp:p l[i]=true):decide (fix p l=i)=(l.take i).all (fun x=> !p x):=by
 by_cases hn: ∀x∈l.take i,p x=false
 ·rw[Q77 h hn hp]
  simp
  intro x hx;exact hn x (by simpa using hx)
 ·have h2:(l.take i).all (fun x=> !p x)=false:=by
   rw[List.all_eq_false]
   refine Classical.byContradiction fun hc=>hn fun x hx=> ?_
   cases hpx:p x
   ·rfl
   ·exact absurd ⟨x,hx,by simp[hpx]⟩ hc
  rw[h2]
  simp only[decide_eq_false_iff_not]
  intro e
  apply hn
  clear h2 hn
  induction l generalizing i with
  |nil=>simp
  |cons y l ih=>
   cases i with
   |zero=>simp
   |succ i=>
    have h1:=Qrp (p:=p) (l:=l)
    simp only[fix] at e
    split at e
    ·omega
    ·rename_i hy
     split at e
     ·omega
     ·intro x hx
      rw[List.take_succ_cons] at hx
      rcases List.mem_cons.1 hx with rfl|hx
      ·simpa using hy
      ·exact ih (i:=i) (by simpa using h) (by simpa using hp) Za x hx
theorem Q97{α:Type}{p:α→Bool}{l:List α}{i:Nat}(h:i<l.length)(hn: ∀x∈l.take i,p x=false)(hp:p l[i]=false): ∀x∈l.take (i+1),p x=false:=by
 intro x hx
 rw[List.take_succ_eq_append_getElem h] at hx
 rcases List.mem_append.1 hx with hx|hx
 ·exact hn x hx
 ·simp at hx;rw[hx];exact hp
def Q5v(t:Str):Int:=if (Qg t).code=0 then (Qg t).params.length else-1
theorem Qit(t:Str): -1≤Q5v t∧Q5v t≤8:=by
 have:=Qak t
 unfold Q5v;split<;>omega
end Go.Proofs
namespace Go.Proofs
open Go Go.Ev
def Qu6(x:Mth):Bool:= !(decide (x.code.length<1∨60<x.code.length∨6<x.hdls.length))&&(x.code.all (Q83 x.code.length)&&x.hdls.all (Q67 x.code.length))
theorem Qrq{t:Str}(h:(Qg t).code=0):Q1g t=Qg t:=by
 unfold Qg at h⊢
 split
 ·rename_i h1;rw[if_pos h1] at h;simp at h
 ·rfl
theorem Qn8{x:Mth}(h:Q4g x=true):(Qg x.desc).code=0:=by
 simp only[Q4g,Bool.and_eq_true,decide_eq_true_eq] at h;exact h.1.2
theorem Qgw{x:Mth}(h:Q4g x=true)(h2:x.abstr=false):
  Q3d x=(Qu6 x&&decide ((Q5v x.desc+if x.static=true then 0 else 1)≤x.locals)&&(!decide (x.name=Qm)||(!x.static&& !x.final&&decide ((Q1g x.desc).res=[86])))):=by
 have hc:=Qn8 h
 rw[Qrq hc]
 have hs:((Qgu x:Nat):Int)=Q5v x.desc+if x.static=true then 0 else 1:=by
  unfold Qgu Q5v;rw[if_pos hc];split<;>simp
 by_cases h3:x.code.length<1∨60<x.code.length∨x.locals<Qgu x∨6<x.hdls.length
 ·rw[Qlk h2 h3]
  rw[←hs]
  by_cases h4:x.locals<Qgu x
  ·rw[decide_eq_false (show¬((Qgu x:Nat):Int)≤x.locals by omega)];simp
  ·have:x.code.length<1∨60<x.code.length∨6<x.hdls.length:=by omega
   unfold Qu6
   rw[decide_eq_true this];simp
 ·rw[Qow h h2 h3,←hs,decide_eq_true (show ((Qgu x:Nat):Int)≤x.locals by omega)]
  unfold Qu6
  rw[decide_eq_false (show¬(x.code.length<1∨60<x.code.length∨6<x.hdls.length) by omega)]
  simp[Bool.and_assoc]
end Go.Proofs
namespace Go.Proofs
open Go Go.Ev
def Q44:List Str:=[[79,98,106,101,99,116],[69,114,114,111,114],[78,117,108,108,69,114,114,111,114],[82,97,110,103,101,69,114,114,111,114],[67,97,115,116,69,114,114,111,114],[77,97,116,104,69,114,114,111,114],[70,117,108,108,69,114,114,111,114],[68,101,101,112,69,114,114,111,114]]
theorem Qi4:Q44.length=8:=rfl
def Q7x(n:Str):List Str→Nat→Int
 |[],_=> -1
 |c::cs,i=>if c=n then i else Q7x n cs (i+1)
def Q1v(n:Str):Int:=Q7x n Q44 0
def Qk(n:Str):List Cls→Nat→Int
 |[],_=> -1
 |c::cs,i=>if c.name=n then i else Qk n cs (i+1)
end Go.Proofs
namespace Go.Proofs
open Go Go.Ev
def Q1r(l:List Cls):Nat:=l.length+(l.map Q1n).sum
theorem Q4v{l:List Cls}{i:Nat}(h:i<l.length):Q1n l[i]≤Q1r l:=by
 have:=Q3q (f:=Q1n) (List.getElem_mem h)
 unfold Q1r;omega
def isKnown(l:List Cls)(n:Str):Bool:=decide (0≤Q1v n)||decide (0≤Qk n l 0)
def Qjs(t:Str):Str:=if Q28 t 0 73 then [] else seg t 1 (t.length-1)
def Q1c(t:Str):Str:=if Q1k t then (if Q28 t 0 91 then Qjs (t.drop 1) else Qjs t) else []
def Q88(l:List Cls)(t:Str):Bool:=decide (Q1c t=[])||isKnown l (Q1c t)
def Qp4(l:List Cls)(t:Str):Bool:=(Qg t).params.all (Q88 l)&&Q88 l (Qg t).res
def Qy3(l:List Cls)(c:Cls):Bool:=c.fields.all (fun f=>Q88 l f.type)&&c.methods.all (fun m=>Qp4 l m.desc)
def Q1a(n d:Str):List Mth→Nat→Int
 |[],_=> -1
 |m::ms,i=>if m.name=n∧m.desc=d then i else Q1a n d ms (i+1)
def Qz:Str:=[79,98,106,101,99,116]
def Q1i:Str:=[69,114,114,111,114]
def Q98(l:List Cls)(n:Str):Str:=
 if Q1v n=0 then [] else if Q1v n=1 then Qz else if 1<Q1v n then Q1i
 else if Qk n l 0<0 then [] else (atL l (Qk n l 0).toNat).super
theorem Qgk{t:Str}(h:Q1k t=true):(Q28 t 0 91=true→1<t.length)∧(Q28 t 0 91=true→Q28 t 1 73=false→3<t.length)∧(Q28 t 0 91=false→Q28 t 0 73=false→2<t.length):=by
 simp only[Q1k,Bool.and_eq_true,decide_eq_true_eq] at h
 obtain ⟨⟨h0,h1⟩,h2⟩:=h
 have key: ∀p,p≤t.length→(Q62 t p).2=true→p<(Q62 t p).1∧(Q28 t p 73=false→p+2<(Q62 t p).1):=by
  intro p hp hk
  refine ⟨(Qum hp).2.2.1 hk,fun h3=> ?_⟩
  simp only[Q62,h3,Bool.false_eq_true,if_false] at hk⊢
  split at hk
  ·rename_i h4
   rw[if_pos h4]
   simp only[nmP] at hk⊢
   split at hk
   ·rename_i h5
    rw[if_pos h5]
    simp at h5
    simp
    omega
   ·cases hk
  ·cases hk
 by_cases hb:Q28 t 0 91=true
 ·have hlt:=Q4b hb
  simp only[tyP,hb,if_true] at h1 h2
  obtain ⟨k1,k2⟩:=key (0+1) Za h1
  refine ⟨fun _=>by omega,fun _ h=>by have:=k2 h;omega,fun h=>by rw[hb] at h;cases h⟩
 ·simp only[Bool.not_eq_true] at hb
  simp only[tyP,hb,Bool.false_eq_true,if_false] at h1 h2
  obtain ⟨k1,k2⟩:=key 0 Za h1
  refine ⟨fun h=>(by rw[hb] at h;cases h),fun h=>(by rw[hb] at h;cases h),fun _ h=>by have:=k2 h;omega⟩
theorem Qtw{t:Str}{p n:Nat}:Q28 (t.drop 1) p n=Q28 t (p+1) n:=by simp[Q28,List.getElem?_drop,Nat.add_comm]
theorem Q5u{n:Str}: ∀{l:List Cls} {k:Nat},(Qk n l k= -1∧ ∀c∈l,c.name≠n)∨ ∃i,∃h:i<l.length,Qk n l k=((k+i:Nat):Int)∧l[i].name=n∧ ∀j (hj:j<i),l[j].name≠n
 |[],_=> .inl ⟨rfl,by simp⟩
 |c::l,k=>by
  by_cases hc:c.name=n
  ·exact .inr ⟨0,by simp,by simp[Qk,hc],by simpa using hc,fun j hj=>absurd hj Za⟩
  ·rcases @Q5u n l (k+1) with ⟨h1,h2⟩|⟨i,hi,h1,h2,h3⟩
   ·refine .inl ⟨by simp[Qk,hc,h1],fun x hx=> ?_⟩
    rcases List.mem_cons.1 hx with rfl|hx
    ·exact hc
    ·exact h2 x hx
   ·refine .inr ⟨i+1,by simpa using hi,by simp[Qk,hc,h1];omega,by simpa using h2,fun j hj=> ?_⟩
    cases j with
    |zero=>simpa using hc
    |succ j=>simpa using h3 j Za
theorem Qh2{n:Str}{l:List Cls}(h:0≤Qk n l 0):(Qk n l 0).toNat<l.length:=by
 rcases @Q5u n l 0 with ⟨h1,_⟩|⟨i,hi,h1,_⟩
 ·omega
 ·omega
theorem Qh3{n:Str}{l:List Cls}: -1≤Qk n l 0∧Qk n l 0<l.length:=by
 rcases @Q5u n l 0 with ⟨h1,_⟩|⟨i,hi,h1,_⟩<;>omega
theorem Q9c{n d:Str}: ∀{l:List Mth} {k:Nat},(Q1a n d l k= -1∧ ∀c∈l,¬(c.name=n∧c.desc=d))∨ ∃i,∃h:i<l.length,Q1a n d l k=((k+i:Nat):Int)∧(l[i].name=n∧l[i].desc=d)∧ ∀j (hj:j<i),¬(l[j].name=n∧l[j].desc=d)
 |[],_=> .inl ⟨rfl,by simp⟩
 |c::l,k=>by
  by_cases hc:c.name=n∧c.desc=d
  ·exact .inr ⟨0,by simp,by simp[Q1a,hc],by simpa using hc,fun j hj=>absurd hj Za⟩
  ·rcases @Q9c n d l (k+1) with ⟨h1,h2⟩|⟨i,hi,h1,h2,h3⟩
   ·refine .inl ⟨by simp only[Q1a,if_neg hc,h1],fun x hx=> ?_⟩
    rcases List.mem_cons.1 hx with rfl|hx
    ·exact hc
    ·exact h2 x hx
   ·refine .inr ⟨i+1,by simpa using hi,by simp only[Q1a,if_neg hc,h1];omega,by simpa using h2,fun j hj=> ?_⟩
    cases j with
    |zero=>simpa using hc
    |succ j=>simpa using h3 j Za
end Go.Proofs
namespace Go.Proofs
open Go Go.Ev
def nxt(l:List Cls)(k:Int):Int:=if k<0 then-1 else Qk (atL l k.toNat).super l 0
def ups(l:List Cls):Nat→Int→List Nat
 |0,_=>[]
 |f+1,k=>if k<0 then [] else k.toNat::ups l f (nxt l k)
def Ql1(l:List Cls):Nat→Int→Prop
 |0,k=>k<0
 |f+1,k=>k<0∨Ql1 l f (nxt l k)
def Qqz(l:List Cls)(n d:Str):Nat→Int→Bool
 |0,_=>false
 |f+1,k=>if k<0 then false else if 0≤Q1a n d (atL l k.toNat).methods 0 then (atL (atL l k.toNat).methods (Q1a n d (atL l k.toNat).methods 0).toNat).abstr else Qqz l n d f (nxt l k)
def Q8m(l:List Cls)(c:Cls)(i:Nat)(m:Mth):Bool:=
 decide (m.name=Qm)||
  (!(decide (0≤Q1a m.name m.desc c.methods 0)&&(m.final|| !(m.static==(atL c.methods (Q1a m.name m.desc c.methods 0).toNat).static)))&&
  !(m.abstr&& !c.abstr&&Qqz l m.name m.desc (l.length+1) i))
def Que(l:List Cls)(i:Nat):Bool:=(ups l l.length (nxt l i)).all fun u=>(atL l u).methods.all (Q8m l (atL l i) i)
theorem Qbg{l:List Cls}{k:Nat}:nxt l k=Qk (atL l k).super l 0:=by simp[nxt,show¬((k:Int)<0) from by omega]
theorem Qay{l:List Cls}{k:Int}: -1≤nxt l k∧nxt l k<l.length:=by
 unfold nxt
 split
 ·omega
 ·exact Qh3
theorem Qeg{l:List Cls}{f k:Nat}:ups l (f+1) k=k::ups l f (nxt l k):=by simp[ups,show¬((k:Int)<0) from by omega]
theorem Qw8{l:List Cls}{n d:Str}{f k:Nat}:Qqz l n d (f+1) k=if 0≤Q1a n d (atL l k).methods 0 then (atL (atL l k).methods (Q1a n d (atL l k).methods 0).toNat).abstr else Qqz l n d f (nxt l k):=by simp[Qqz,show¬((k:Int)<0) from by omega]
theorem Qmu{l:List Cls}{f k:Nat}(h:Ql1 l f k): ∃g,f=g+1∧Ql1 l g (nxt l k):=by
 cases f with
 |zero=>exact absurd h (by simp[Ql1])
 |succ g=>exact ⟨g,rfl,h.resolve_left Za⟩
theorem Qep{n d:Str}{l:List Mth}(h:0≤Q1a n d l 0):(Q1a n d l 0).toNat<l.length:=by
 rcases @Q9c n d l 0 with ⟨h1,_⟩|⟨i,hi,h1,_⟩<;>omega
theorem Qwc{l:List Mth}{j:Nat}(h:j<l.length):0≤Q1a l[j].name l[j].desc l 0:=by
 rcases @Q9c l[j].name l[j].desc l 0 with ⟨_,h2⟩|⟨i,hi,h1,_⟩
 ·exact absurd ⟨rfl,rfl⟩ (h2 _ (List.getElem_mem h))
 ·omega
end Go.Proofs
namespace Go.Proofs
open Go Go.Ev
def plc(es:List (Str×Int)):Nat→List Cls→List (Str×Int)
 |_,[]=>es
 |i,c::cs=>plc (if (Q3i es c.name).isSome then es else es++[(c.name,(i:Int))]) (i+1) cs
def Qdc(l:List Cls):List (Str×Int):=plc [] 0 l
@[simp] def wv (l:List Cls):V:= .fp [.lst false 6 (l.map eC),.fmap (Qdc l)]
theorem Qv1(es:List (Str×Int))(k:Str)(v:Int)(n:Str):Q3i (es++[(k,v)]) n=match Q3i es n with|some x=>some x|none=>if k=n then some v else none:=by
 induction es with
 |nil=>simp[Q3i]
 |cons e es ih=>
  simp only[List.cons_append,Q3i]
  split
  ·simp
  ·exact ih
theorem Qtr(n:Str): ∀(cs:List Cls) (es:List (Str×Int)) (i:Nat),Q3i (plc es i cs) n=match Q3i es n with|some x=>some x|none=>if Qk n cs i<0 then none else some (Qk n cs i)
 |[],es,i=>by simp only[plc,Qk];cases Q3i es n<;>simp
 |c::cs,es,i=>by
  simp only[plc]
  rw[Qtr n cs _ (i+1)]
  by_cases hs:(Q3i es c.name).isSome=true
  ·rw[if_pos hs]
   cases hn:Q3i es n with
   |some x=>rfl
   |none=>
    have:c.name≠n:=fun e=>by rw[e,hn] at hs;cases hs
    simp only[Qk,if_neg this]
  ·rw[if_neg hs,Qv1]
   cases hn:Q3i es n with
   |some x=>rfl
   |none=>
    by_cases hc:c.name=n
    ·simp only[if_pos hc,Qk]
     rw[if_neg Za]
    ·simp only[if_neg hc,Qk]
theorem Qlm(l:List Cls)(n:Str):Q3i (Qdc l) n=if Qk n l 0<0 then none else some (Qk n l 0):=Qtr n l [] 0
def Qqt(l:List Cls)(n:Str):Int:=if 0≤Qk n l 0 then Qk n l 0 else 0
@[simp] theorem look_some (l:List Cls) (n:Str):(Q3i (Qdc l) n).isSome=decide (0≤Qk n l 0):=by
 rw[Qlm];split<;>simp<;>omega
@[simp] theorem look_get (l:List Cls) (n:Str):(Q3i (Qdc l) n).getD 0=Qqt l n:=by
 rw[Qlm];unfold Qqt;split<;>(split<;>first|rfl|omega)
def zC:Cls:=⟨[],[],false,false,[],[]⟩
def Q1u(l:List Cls)(n:Str):Cls:=if 0≤Qk n l 0 then atL l (Qk n l 0).toNat else zC
theorem Q53{l:List Cls}{n:Str}(h:0≤Qk n l 0): ∃i,∃h:i<l.length,Qk n l 0=i∧Qqt l n=i∧Q1u l n=l[i]∧l[i].name=n:=by
 rcases @Q5u n l 0 with ⟨h1,_⟩|⟨i,hi,h1,h2,_⟩
 ·omega
 ·refine ⟨i,hi,by simpa using h1,?_,?_,h2⟩
  ·unfold Qqt;rw[if_pos h];simpa using h1
  ·unfold Q1u;rw[if_pos h,h1];simp[Qb hi]
theorem Q6q{l:List Cls}{n:Str}(h: ¬0≤Qk n l 0):Q1u l n=zC:=by unfold Q1u;rw[if_neg h]
theorem Q14h:Wk (.agg [.str [],.str [],.bool false,.bool false,.raw (.slice none 0 0),.raw (.slice none 0 0)]) (eC zC):=
 Wk.agg (.cons (Wk.refl _) (.cons (Wk.refl _) (.cons (Wk.refl _) (.cons (Wk.refl _) (.cons (Wk.nilSlice _ _) (.cons (Wk.nilSlice _ _) .nil))))))
theorem Q114:Q1n zC=0:=rfl
theorem Qf6{l:List Cls}{n:Str}:Q1n (Q1u l n)≤Q1r l:=by
 by_cases h:0≤Qk n l 0
 ·obtain ⟨i,hi,_,_,e,_⟩:=Q53 h
  rw[e];exact Q4v hi
 ·rw[Q6q h,Q114];omega
def bIn(n:Str):Bool:=decide (0≤Q1v n)
theorem Qz9(n:Str):Q44.any (fun x=>decide (n=x))=bIn n:=by
 have key: ∀(l:List Str) (i:Nat),0≤Q7x n l i↔l.any (fun x=>decide (n=x))=true:=by
  intro l
  induction l with
  |nil=>intro i;simp[Q7x]
  |cons x l ih=>
   intro i
   simp only[Q7x,List.any_cons]
   by_cases h:x=n
   ·subst h;simp
   ·rw[if_neg h,ih,decide_eq_false (fun e=>h e.symm),Bool.false_or]
 rw[Bool.eq_iff_iff,←key Q44 0,bIn,decide_eq_true_eq]
 rfl
theorem Ql6{t:Str}(h:Q1k t=true)(h1:t≠[73])(h2:t≠[91,73]):
  2<t.length∧(Q28 t 0 91=true→3<t.length)∧Q1c t=if Q28 t 0 91=true then seg t 2 (t.length-1) else seg t 1 (t.length-1):=by
 have hlong:=Qgk h
 have hl:=Q2n h
 have h':=h
 simp only[Q1k,Bool.and_eq_true,decide_eq_true_eq] at h'
 obtain ⟨⟨_,k1⟩,k2⟩:=h'
 by_cases h91:Q28 t 0 91=true
 ·have h73:Q28 t 1 73=false:=by
   cases h3:Q28 t 1 73 with
   |false=>rfl
   |true=>
    simp only[tyP,h91,if_true,Q62,h3] at k2
    exfalso
    match t,k2 with
    |[a,b],_=>
     simp only[Q28,List.getElem?_cons_zero,List.getElem?_cons_succ] at h91 h3
     simp at h91 h3
     apply h2
     rw[(Qye (n:=91) (by decide)).1 h91,(Qye (n:=73) (by decide)).1 h3]
     rfl
  have hl3:=hlong.2.1 h91 h73
  refine ⟨by omega,fun _=>hl3,?_⟩
  rw[Q1c,if_pos h,if_pos h91,if_pos h91,Qjs,if_neg (by rw[Qtw];simp[h73])]
  simp only[seg,List.length_drop]
  rw[List.take_drop,List.drop_drop]
  congr 2
  omega
 ·have h91:Q28 t 0 91=false:=by simpa using h91
  have h73:Q28 t 0 73=false:=by
   cases h3:Q28 t 0 73 with
   |false=>rfl
   |true=>
    simp only[tyP,h91,Q62,h3] at k2
    exfalso
    match t,k2 with
    |[a],_=>
     simp only[Q28,List.getElem?_cons_zero] at h3
     simp at h3
     apply h1
     rw[(Qye (n:=73) (by decide)).1 h3]
     rfl
  have hl3:=hlong.2.2 h91 h73
  refine ⟨hl3,by simp[h91],?_⟩
  rw[Q1c,if_pos h,if_neg (by simp[h91]),if_neg (by simp[h91]),Qjs,if_neg (by simp[h73])]
theorem Ql4{t:Str}(h:Q1k t=true→(t=[73]∨t=[91,73])):Q1c t=[]:=by
 by_cases hr:Q1k t=true
 ·rcases h hr with rfl|rfl<;>decide
 ·rw[Q1c,if_neg hr]
def Q2m(l:List Cls)(n:Str):Str:=
 if 0≤Qk n l 0 then (Q1u l n).super else if bIn n=false∨n=Qz then [] else if n=Q1i then Qz else Q1i
def Q8r(l:List Cls)(c:Cls):Int:=
 if isKnown l c.super then (if (decide (0≤Qk c.super l 0)&&(Q1u l c.super).final)||(Q44.drop 2).any (fun x=>decide (c.super=x)) then 14 else 0) else 8
theorem Q10t(l:List Cls)(t:Str):(decide (Q1c t=[])||isKnown l (Q1c t))=Q88 l t:=rfl
theorem Qi6{α:Type}(p:α→Bool)(l:List α):(l.any fun x=> !p x)= !l.all p:=by
 induction l with
 |nil=>rfl
 |cons x l ih=>simp only[List.any_cons,List.all_cons,ih,Bool.not_and]
theorem Qn{n d:Str}(l:List Mth):fix (fun m=>decide (m.name=n)&&decide (m.desc=d)) l=Q1a n d l 0:=by
 have key: ∀(l:List Mth) (i:Nat),Q1a n d l i=if fix (fun m=>decide (m.name=n)&&decide (m.desc=d)) l<0 then-1 else fix (fun m=>decide (m.name=n)&&decide (m.desc=d)) l+i:=by
  intro l
  induction l with
  |nil=>intro i;simp[Q1a,fix]
  |cons c l ih=>
   intro i
   simp only[Q1a,fix]
   by_cases hc:c.name=n∧c.desc=d
   ·simp[hc]
   ·rw[if_neg hc,ih]
    have:(decide (c.name=n)&&decide (c.desc=d))=false:=by
     rw[Bool.eq_false_iff];intro h;apply hc;simpa using h
    simp only[this,Bool.false_eq_true,if_false]
    split
    ·simp
    ·rw[if_neg Za];omega
 rw[key]
 have:=Qrp (p:=fun m:Mth=>decide (m.name=n)&&decide (m.desc=d)) (l:=l)
 split<;>omega
end Go.Proofs
namespace Go.Proofs
open Go Go.Ev
theorem Qxh: ∀(n:Nat) (f:Nat→Nat),(∀s,s≤n→f s<n)→ ∃a b,a<b∧b≤n∧f a=f b
 |0,f,h=>absurd (h 0 (Nat.le_refl _)) Za
 |n+1,f,h=>by
  by_cases hc: ∃a,a≤n∧f a=f (n+1)
  ·obtain ⟨a,h1,h2⟩:=hc
   exact ⟨a,n+1,by omega,Nat.le_refl _,h2⟩
  ·obtain ⟨a,b,h1,h2,h3⟩:=Qxh n (fun s=>if f (n+1)<f s then f s-1 else f s) (fun s hs=>by
    have h1:=h s Za
    have h2:=h (n+1) (Nat.le_refl _)
    have h3:f s≠f (n+1):=fun e=>hc ⟨s,hs,e⟩
    split<;>omega)
   refine ⟨a,b,h1,by omega,?_⟩
   have k1:f a≠f (n+1):=fun e=>hc ⟨a,by omega,e⟩
   have k2:f b≠f (n+1):=fun e=>hc ⟨b,by omega,e⟩
   split at h3<;>split at h3<;>omega
def itr(l:List Cls):Nat→Int→Int
 |0,k=>k
 |s+1,k=>itr l s (nxt l k)
theorem Q13i{l:List Cls}{k:Int}(h:k<0):nxt l k= -1:=by simp[nxt,h]
theorem Qes(l:List Cls): ∀(a b:Nat) (k:Int),itr l (a+b) k=itr l b (itr l a k)
 |0,b,k=>by simp[itr]
 |a+1,b,k=>by rw[show a+1+b=(a+b)+1 from by omega];simp only[itr];exact Qes l a b _
theorem Qre{l:List Cls}: ∀(s:Nat) {k:Int},k<l.length→itr l s k<l.length
 |0,k,h=>h
 |s+1,k,h=>Qre s (Qay).2
theorem Qp7{l:List Cls}: ∀(f:Nat) {k:Int},itr l f k<0→Ql1 l f k
 |0,k,h=>h
 |f+1,k,h=> .inr (Qp7 f h)
theorem Qqb{l:List Cls}: ∀(s:Nat) {k:Int},k<0→itr l s k<0
 |0,k,h=>h
 |s+1,k,h=>Qqb s (by rw[Q13i h];omega)
def Qpc(l:List Cls)(i:Nat):Nat→Int→Bool
 |0,_=>false
 |f+1,k=>if k<0 then false else if k=i then true else Qpc l i f (nxt l k)
def cyc(l:List Cls)(i:Nat):Bool:=Qpc l i (l.length+1) (nxt l i)
theorem Qvb{l:List Cls}{i:Nat}: ∀(s f:Nat) {k:Int},s<f→itr l s k=i→Qpc l i f k=true
 |0,f,k,h,e=>by
  cases f with
  |zero=>omega
  |succ f=>simp only[itr] at e;subst e;simp[Qpc,show¬((i:Int)<0) from by omega]
 |s+1,f,k,h,e=>by
  cases f with
  |zero=>omega
  |succ f=>
   simp only[Qpc]
   have h0: ¬k<0:=fun hk=>by have:=Qqb (l:=l) (s+1) hk;omega
   rw[if_neg h0]
   split
   ·rfl
   ·exact Qvb s f Za e
theorem Qwu{l:List Cls}{i:Nat}: ∀(f:Nat) {k:Int},Qpc l i f k=true→ ∃s,s<f∧itr l s k=i
 |0,k,h=>by simp[Qpc] at h
 |f+1,k,h=>by
  simp only[Qpc] at h
  split at h
  ·cases h
  ·split at h
   ·rename_i e;exact ⟨0,by omega,e⟩
   ·obtain ⟨s,h1,h2⟩:=Qwu f h
    exact ⟨s+1,by omega,h2⟩
theorem Qad{l:List Cls}(h: ∀i,i<l.length→cyc l i=false){j:Nat}(hj:j<l.length):Ql1 l (l.length+1) j:=by
 apply Qp7
 rcases Int.lt_or_le (itr l (l.length+1) j) 0 with h0|h0
 ·exact h0
 have hpos: ∀s,s≤l.length+1→0≤itr l s j:=fun s hs=>by
  rcases Int.lt_or_le (itr l s j) 0 with h1|h1
  ·have:=Qqb (l:=l) (l.length+1-s) h1
   rw[←Qes,show s+(l.length+1-s)=l.length+1 from by omega] at this
   omega
  ·exact h1
 obtain ⟨a,b,h1,h2,h3⟩:=Qxh l.length (fun s=>(itr l s j).toNat) (fun s hs=>by
  have:=hpos s Za
  have:=Qre (l:=l) s (k:=j) Za
  omega)
 have ha:=hpos a Za
 have hb:=hpos b Za
 have hlt:=Qre (l:=l) a (k:=j) Za
 have hcy:=h (itr l a j).toNat Za
 have e:itr l (b-a-1) (nxt l (itr l a j))=((itr l a j).toNat:Int):=by
  show itr l (b-a-1+1) (itr l a j)=_
  rw[←Qes,show a+(b-a-1+1)=b from by omega]
  omega
 have:=Qvb (l:=l) (i:=(itr l a j).toNat) (b-a-1) (l.length+1) Za e
 rw[cyc,show (((itr l a j).toNat:Nat):Int)=itr l a j from by omega] at hcy
 rw[this] at hcy
 cases hcy
def Q10(code:Nat→Int):Nat→Nat→Option (Nat×Int)
 |0,_=>none
 |n+1,i=>if code i=0 then Q10 code n (i+1) else some (i,code i)
theorem Q3n{code:Nat→Int}: ∀{n i:Nat},Q10 code n i=none→ ∀j,i≤j→j<i+n→code j=0
 |0,i,_,j,h1,h2=>by omega
 |n+1,i,h,j,h1,h2=>by
  simp only[Q10] at h
  split at h
  ·rename_i h0
   by_cases hj:j=i
   ·subst hj;exact h0
   ·exact Q3n h j Za Za
  ·cases h
theorem Qh1{c1 c2:Nat→Int}: ∀{n i:Nat},(∀j,i≤j→j<i+n→c1 j=c2 j)→Q10 c1 n i=Q10 c2 n i
 |0,_,_=>rfl
 |n+1,i,h=>by
  simp only[Q10,h i (Nat.le_refl _) Za,Qh1 (n:=n) (i:=i+1) (fun j h1 h2=>h j Za Za)]
def Q64(l:List Cls)(i:Nat):Int:=if Q49 (atL l i) then (if 0≤Q1v (atL l i).name∨Qk (atL l i).name l 0<i then 7 else 0) else 1
def Q9x(l:List Cls)(i:Nat):Int:=if isKnown l (atL l i).super then (if 1<Q1v (atL l i).super∨(0≤Qk (atL l i).super l 0∧(atL l (Qk (atL l i).super l 0).toNat).final=true) then 14 else 0) else 8
def Qds(l:List Cls)(i:Nat):Int:=if Qy3 l (atL l i) then 0 else 6
def Qb7(l:List Cls)(i:Nat):Int:=if cyc l i then 9 else 0
def Qdr(l:List Cls)(i:Nat):Int:=if Que l i then 0 else 14
def Q5o(l:List Cls):Int×Int:=
 match Q10 (Q64 l) l.length 0 with
 |some (i,c)=>(i,c)
 |none=>match Q10 (Q9x l) l.length 0 with
  |some (i,c)=>(i,c)
  |none=>match Q10 (Qds l) l.length 0 with
   |some (i,c)=>(i,c)
   |none=>match Q10 (Qb7 l) l.length 0 with
    |some (i,c)=>(i,c)
    |none=>match Q10 (Qdr l) l.length 0 with
     |some (i,c)=>(i,c)
     |none=>(0,0)
def Q5r(l:List Cls):Int×Int:=if 400<l.length then (0,2) else if 10<l.length then (10,1) else Q5o l
def Qx(l:List Cls):Bool:=decide ((Q5r l).2=0)
theorem Q4f{l:List Cls}{i:Nat}(hi:i<l.length)(h:Q64 l i=0):Qk l[i].name l 0=i:=by
 simp only[Q64,Qb hi] at h
 split at h
 ·split at h
  ·omega
  ·rename_i hn
   rcases @Q5u l[i].name l 0 with ⟨_,h2⟩|⟨j,hj,h1,_,h3⟩
   ·exact absurd rfl (h2 _ (List.getElem_mem hi))
   ·rcases Nat.lt_or_ge i j with h4|h4
    ·exact absurd rfl (h3 i h4)
    ·omega
 ·omega
end Go.Proofs
namespace Go.Proofs
open Go Go.Ev
theorem Q8v(t:Str):(Q1g t).res.length≤t.length∧ ∀s∈(Q1g t).params,s.length≤t.length:=by
 unfold Q1g
 split
 ·rename_i h0
  have hlt:=Q4b h0
  split
  ·simp[Q55]
  ·rename_i ps p h
   have hp:=Qdg h Z3
   unfold Q1t
   split
   ·split
    ·simp[Q55]
    ·exact ⟨by simp;omega,hp⟩
   ·split
    ·split
     ·simp[Q55]
     ·exact ⟨by simp[seg];omega,hp⟩
    ·simp[Q55]
 ·simp[Q55]
theorem Qrr(t:Str):(Q1g t).params.length≤8:=by
 unfold Q1g
 split
 ·split
  ·simp[Q55]
  ·rename_i ps p h
   have:=Qk1 h
   unfold Q1t
   split
   ·split<;>simp[Q55];simpa using this.1
   ·split
    ·split<;>simp[Q55];simpa using this.1
    ·simp[Q55]
 ·simp[Q55]
def Qey(l:List Cls)(t:Str):Bool:=Q88 l (Q1g t).res&&(Q1g t).params.all (Q88 l)
def Qs6(l:List Cls)(c:Cls):Bool:=c.fields.all (fun f=>Q88 l f.type)&&c.methods.all (fun m=>Qey l m.desc)
end Go.Proofs
namespace Go.Proofs
open Go Go.Ev
def allN(l:List Cls):List Str:=Q44++l.map (·.name)
theorem Q108{l:List Cls}{n:Str}(h:isKnown l n=true):n∈allN l:=by
 simp only[isKnown,Bool.or_eq_true] at h
 rcases h with h|h
 ·have:=Qz9 n
  unfold bIn at this
  rw[h,List.any_eq_true] at this
  obtain ⟨x,hx,e⟩:=this
  have:n=x:=by simpa using e
  subst this
  exact List.mem_append_left _ hx
 ·obtain ⟨i,hi,_,_,_,e⟩:=Q53 (l:=l) (n:=n) (by simpa using h)
  rw[←e]
  exact List.mem_append_right _ (List.mem_map_of_mem (List.getElem_mem hi))
def out(o:List Str)(n:Str):Bool:=o.any fun x=>decide (n=x)
theorem Q99{o:List Str}{n:Str}:out o n=true↔n∈o:=by simp[out]
def cMu(l:List Cls)(o:List Str):Nat:=(allN l).countP (fun n=> !out o n)
theorem Qu5{α:Type}{p q:α→Bool}: ∀{l:List α},(∀x∈l,q x=true→p x=true)→ ∀{y:α},y∈l→p y=true→q y=false→l.countP q<l.countP p
 |[],_,y,hy,_,_=>by cases hy
 |x::l,h,y,hy,hp,hq=>by
  have hle:l.countP q≤l.countP p:=List.countP_mono_left (fun x hx hqx=>h x (by simp[hx]) hqx)
  rcases List.mem_cons.1 hy with rfl|hy
  ·rw[List.countP_cons,List.countP_cons,hp,hq];simp;omega
  ·have:=Qu5 (l:=l) (fun x hx=>h x (by simp[hx])) hy hp hq
   rw[List.countP_cons,List.countP_cons]
   have h2:=h x Z3
   cases hqx:q x
   ·cases p x<;>simp<;>omega
   ·rw[h2 hqx];simp;omega
theorem Qfc{l:List Cls}{o:List Str}{n:Str}(h:isKnown l n=true)(h2:out o n=false):cMu l (o++[n])<cMu l o:=by
 refine Qu5 (fun x _ hx=> ?_) (Q108 h) (by simp[h2]) ?_
 ·simp only[out,List.any_append,Bool.not_or,Bool.and_eq_true] at hx⊢;exact hx.1
 ·simp[out]
theorem Q12f(l:List Cls)(o:List Str):cMu l o≤8+l.length:=by
 have:=List.countP_le_length (p:=fun n=> !out o n) (l:=allN l)
 simp only[allN,List.length_append,List.length_map,Qi4] at this
 exact this
def chn(l:List Cls)(o:List Str)(n:Str):List Str:=
 if h:isKnown l n=true∧out o n=false then chn l (o++[n]) (Q2m l n) else o
 termination_by cMu l o
 decreasing_by exact Qfc h.1 h.2
def Qu(l:List Cls)(n:Str):List Str:=chn l [] n
theorem Qa7{l:List Cls}{o:List Str}{n:Str}(h1:isKnown l n=true)(h2:out o n=false):chn l o n=chn l (o++[n]) (Q2m l n):=by
 rw[chn,dif_pos ⟨h1,h2⟩]
theorem Q4o{l:List Cls}{o:List Str}{n:Str}(h: ¬(isKnown l n=true∧out o n=false)):chn l o n=o:=by
 rw[chn,dif_neg h]
theorem Qz6(l:List Cls): ∀(k:Nat) (o:List Str) (n:Str),cMu l o≤k→(chn l o n).length≤o.length+k
 |0,o,n,h=>by
  rw[Q4o];omega
  rintro ⟨h1,h2⟩
  have:=Qfc h1 h2;omega
 |k+1,o,n,h=>by
  by_cases hc:isKnown l n=true∧out o n=false
  ·rw[Qa7 hc.1 hc.2]
   have:=Qz6 l k (o++[n]) (Q2m l n) (by have:=Qfc hc.1 hc.2;omega)
   simp at this;omega
  ·rw[Q4o hc];omega
theorem Q8x(l:List Cls)(n:Str):(Qu l n).length≤8+l.length:=by
 have:=Qz6 l _ [] n (Q12f l [])
 simpa[Qu] using this
theorem Qz5(l:List Cls): ∀(k:Nat) (o:List Str) (n:Str),cMu l o≤k→ ∃ys,chn l o n=o++ys
 |0,o,n,h=>by
  refine ⟨[],?_⟩
  rw[Q4o,List.append_nil]
  rintro ⟨h1,h2⟩
  have:=Qfc h1 h2;omega
 |k+1,o,n,h=>by
  by_cases hc:isKnown l n=true∧out o n=false
  ·rw[Qa7 hc.1 hc.2]
   obtain ⟨ys,e⟩:=Qz5 l k (o++[n]) (Q2m l n) (by have:=Qfc hc.1 hc.2;omega)
   exact ⟨n::ys,by rw[e];simp⟩
  ·exact ⟨[],by rw[Q4o hc,List.append_nil]⟩
theorem Qkk{l:List Cls}{n:Str}(h:isKnown l n=true): ∃ys,Qu l n=n::ys:=by
 rw[Qu,Qa7 h rfl]
 obtain ⟨ys,e⟩:=Qz5 l _ ([]++[n]) (Q2m l n) (Nat.le_refl _)
 exact ⟨ys,by rw[e];rfl⟩
end Go.Proofs
namespace Go.Proofs
open Go Go.Ev
def Qva(l:List Cls)(n:Str):Bool:=decide (Q2m l (atL (Qu l n) ((Qu l n).length-1))=n)
def zM:Mth:=⟨[],[],false,false,false,0,0,[],[]⟩
theorem Qyb:Wk (.agg [.str [],.str [],.bool false,.bool false,.bool false,.int .i64 0,.int .i64 0,.raw (.slice none 0 0),.raw (.slice none 0 0)]) (eM zM):=
 Wk.agg (.cons (Wk.refl _) (.cons (Wk.refl _) (.cons (Wk.refl _) (.cons (Wk.refl _) (.cons (Wk.refl _) (.cons (Wk.refl _) (.cons (Wk.refl _) (.cons (Wk.nilSlice _ _) (.cons (Wk.nilSlice _ _) .nil)))))))))
def mUp(l:List Cls)(n d:Str):List Str→Option Mth
 |[]=>none
 |s::ss=>if 0≤Q1a n d (Q1u l s).methods 0 then some (atL (Q1u l s).methods (Q1a n d (Q1u l s).methods 0).toNat) else mUp l n d ss
theorem Qox{n d:Str}{l:List Mth}(h:0≤Q1a n d l 0): ∃j,j<l.length∧Q1a n d l 0=(j:Nat):=by
 have:=Qep h
 exact ⟨(Q1a n d l 0).toNat,this,by omega⟩
def okI(l:List Cls)(c:Cls)(m:Mth):Bool:=
 !((!decide (m.name=Qm)&&decide (0≤Q1a m.name m.desc c.methods 0))&&(m.final|| !decide (m.static=(atL c.methods (Q1a m.name m.desc c.methods 0).toNat).static)))&&
 !((m.abstr&& !c.abstr)&&((mUp l m.name m.desc (Qu l c.name)).getD zM).abstr)
def accI(l:List Cls)(c:Cls):Bool:=((Qu l c.name).drop 1).all fun u=>(Q1u l u).methods.all (okI l c)
theorem Q46{l:List Cls}{n:Str}(h:Q1r l≤1099511627776):(Q1u l n).methods.length≤1099511627776:=by
 have:=Qf6 (l:=l) (n:=n)
 simp only[Q1n] at this
 omega
end Go.Proofs
namespace Go.Proofs
open Go Go.Ev
theorem Q11g{l:List Cls}{c:Cls}{m:Mth}
  (h1: ¬m.name=Qm→0≤Q1a m.name m.desc c.methods 0→m.final=false∧m.static=(atL c.methods (Q1a m.name m.desc c.methods 0).toNat).static)
  (h2:m.abstr=true→c.abstr=false→((mUp l m.name m.desc (Qu l c.name)).getD zM).abstr=false):okI l c m=true:=by
 unfold okI
 rw[Bool.and_eq_true]
 constructor
 ·by_cases a:m.name=Qm
  ·simp[a]
  ·by_cases b:0≤Q1a m.name m.desc c.methods 0
   ·obtain ⟨e1,e2⟩:=h1 a b
    rw[decide_eq_false a,e1,decide_eq_true e2];simp
   ·rw[decide_eq_false (p:=0≤_) b];simp
 ·cases a:m.abstr
  ·rfl
  ·cases b:c.abstr
   ·rw[h2 a b];rfl
   ·rfl
end Go.Proofs
namespace Go.Proofs
open Go Go.Ev
def pI1(l:List Cls)(c:Cls)(k:Int):Int:=if Q49 c=true then (if (bIn c.name|| !decide (Qqt l c.name=k))=true then 7 else 0) else 1
def pI3(l:List Cls)(c:Cls):Int:=if Qs6 l c=true then 0 else 6
def pI4(l:List Cls)(c:Cls):Int:=if Qva l c.name=true then 9 else 0
def pI5(l:List Cls)(c:Cls):Int:=if accI l c=true then 0 else 14
def Qe6(l:List Cls)(p k:Nat):Int:=match p with
 |0=>pI1 l (atL l k) k
 |1=>Q8r l (atL l k)
 |2=>pI3 l (atL l k)
 |3=>pI4 l (atL l k)
 |_=>pI5 l (atL l k)
def Q9p(l:List Cls)(p:Nat):Nat→Int×Int
 |0=>(0,0)
 |n+1=>match Q10 (Qe6 l p) l.length 0 with
  |some (i,c)=>(i,c)
  |none=>Q9p l (p+1) n
def Qs7(l:List Cls):Int×Int:=if 10<l.length then (10,1) else Q9p l 0 5
theorem Q13v{l:List Cls}{p n k:Nat}{c:Int}(h:Q10 (Qe6 l p) l.length 0=some (k,c)):Q9p l p (n+1)=((k:Int),c):=by simp[Q9p,h]
theorem Q12d{l:List Cls}{p n:Nat}(h:Q10 (Qe6 l p) l.length 0=none):Q9p l p (n+1)=Q9p l (p+1) n:=by simp[Q9p,h]
theorem Q13r{code:Nat→Int}{n k:Nat}(h:k<n):Q10 code (n-k) k=if code k=0 then Q10 code (n-(k+1)) (k+1) else some (k,code k):=by
 rw[show n-k=(n-(k+1))+1 from by omega];rfl
theorem Q66{l:List Cls}{k:Nat}(h:k<l.length):isKnown l l[k].name=true:=by
 unfold isKnown
 rcases @Q5u l[k].name l 0 with ⟨_,h2⟩|⟨i,hi,h1,_⟩
 ·exact absurd rfl (h2 _ (List.getElem_mem h))
 ·rw[decide_eq_true (p:=0≤Qk l[k].name l 0) Za];simp
end Go.Proofs
namespace Go.Proofs
open Go Go.Ev
theorem Q16g{l:List Cls}{k:Nat}(hk:k<l.length):pI1 l (atL l k) k=Q64 l k:=by
 simp only[pI1,Q64,Qb hk]
 split
 ·have hb:bIn l[k].name=decide (0≤Q1v l[k].name):=rfl
  rcases @Q5u l[k].name l 0 with ⟨_,h2⟩|⟨i,hi,h1,_,h3⟩
  ·exact absurd rfl (h2 _ (List.getElem_mem hk))
  ·have hp:Qqt l l[k].name=i:=by unfold Qqt;rw[if_pos Za];simpa using h1
   have hle:i≤k:=by
    rcases Nat.lt_or_ge k i with h|h
    ·exact absurd rfl (h3 k h)
    ·exact h
   rw[hb,hp]
   by_cases hbi:0≤Q1v l[k].name
   ·rw[if_pos (by simp[hbi]),if_pos (.inl hbi)]
   ·by_cases hik:i=k
    ·rw[if_neg (by simp[hbi,hik]),if_neg Za]
    ·rw[if_pos (by simp;right;omega),if_pos Za]
 ·rfl
theorem Qrd(n:Str): ∀(l:List Str) (i:Nat),Q7x n l i= -1∨(i:Int)≤Q7x n l i
 |[],i=> .inl rfl
 |x::l,i=>by
  simp only[Q7x]
  split
  ·right;omega
  ·rcases Qrd n l (i+1) with h|h
   ·exact .inl h
   ·right;omega
theorem Q14o(n:Str): ∀(l:List Str) (i:Nat),(i:Int)≤Q7x n l i↔l.any (fun x=>decide (n=x))=true
 |[],i=>by simp only[Q7x,List.any_nil];constructor<;>intro h<;>first|omega|cases h
 |x::l,i=>by
  simp only[Q7x,List.any_cons]
  by_cases h:x=n
  ·subst h;simp
  ·rw[if_neg h,decide_eq_false (fun e=>h e.symm),Bool.false_or,←Q14o n l (i+1)]
   rcases Qrd n l (i+1) with h4|h4<;>omega
theorem Q13z(n:Str):(Q44.drop 2).any (fun x=>decide (n=x))=decide (1<Q1v n):=by
 have hd:Qz∉Q44.drop 2∧Q1i∉Q44.drop 2:=by decide
 have hno: ∀s,s∉Q44.drop 2→s=n→ ¬(Q44.drop 2).any (fun x=>decide (n=x))=true:=by
  intro s hs e h
  rw[List.any_eq_true] at h
  obtain ⟨x,hx,e2⟩:=h
  have:n=x:=by simpa using e2
  subst this;subst e;exact hs hx
 rw[Bool.eq_iff_iff,decide_eq_true_eq]
 have e:Q1v n=if Qz=n then 0 else if Q1i=n then 1 else Q7x n (Q44.drop 2) 2:=rfl
 rw[e]
 split
 ·rename_i h;constructor
  ·intro h2;exact absurd h2 (hno _ hd.1 h)
  ·intro h2;omega
 ·split
  ·rename_i h;constructor
   ·intro h2;exact absurd h2 (hno _ hd.2 h)
   ·intro h2;omega
  ·rw[←Q14o n (Q44.drop 2) 2]
   constructor<;>intro h<;>omega
theorem Q16f{l:List Cls}{k:Nat}:Q8r l (atL l k)=Q9x l k:=by
 simp only[Q8r,Q9x]
 split
 ·rw[Q13z]
  by_cases h1:1<Q1v (atL l k).super
  ·rw[if_pos (by simp[h1]),if_pos (.inl h1)]
  ·by_cases h2:0≤Qk (atL l k).super l 0
   ·have e:Q1u l (atL l k).super=atL l (Qk (atL l k).super l 0).toNat:=by unfold Q1u;rw[if_pos h2]
    rw[e]
    by_cases h3:(atL l (Qk (atL l k).super l 0).toNat).final=true
    ·rw[if_pos (by simp[h2,h3]),if_pos (.inr ⟨h2,h3⟩)]
    ·rw[if_neg (by simp[h1,h3]),if_neg (by simp[h1,h3])]
   ·rw[if_neg (by simp[h1,h2]),if_neg Za]
 ·rfl
end Go.Proofs
namespace Go.Proofs
open Go Go.Ev
theorem Qn4{ab:Bool}: ∀{l pre:List Mth},Qcs ab pre l=true→ ∀m∈l,Q3d m=true∧(m.abstr&& !ab)=false
 |[],_,_,m,hm=>by cases hm
 |x::l,pre,h,m,hm=>by
  simp only[Qcs,Bool.and_eq_true] at h
  rcases List.mem_cons.1 hm with rfl|hm
  ·exact ⟨h.1.1.1,by have:=h.1.1.2;revert this;cases m.abstr<;>cases ab<;>simp⟩
  ·exact Qn4 h.2 m hm
theorem Qgq{l:List Cls}{k:Nat}(hk:k<l.length)(h:Q64 l k=0):Q49 l[k]=true:=by
 simp only[Q64,Qb hk] at h
 split at h
 ·assumption
 ·omega
theorem Qjm{x:Cls}(h:Q49 x=true): ∀m∈x.methods,Q3d m=true:=by
 simp only[Q49,Bool.and_eq_true] at h
 exact fun m hm=>(Qn4 h.2.2 m hm).1
theorem Qjn{m:Mth}(h:Q3d m=true):Q4g m=true:=by
 cases hh:Q4g m
 ·rw[Qct hh] at h;cases h
 ·rfl
theorem Q16e{l:List Cls}{k:Nat}(hk:k<l.length)(h:Q64 l k=0):pI3 l (atL l k)=Qds l k:=by
 have hr:=Qgq hk h
 simp only[pI3,Qds,Qb hk]
 have:Qs6 l l[k]=Qy3 l l[k]:=by
  unfold Qs6 Qy3
  congr 1
  rw[Bool.eq_iff_iff,List.all_eq_true,List.all_eq_true]
  constructor<;>intro h2 m hm<;>have h3:=h2 m hm<;>have hc:=Qrq (Qn8 (Qjn (Qjm hr m hm)))
  ·unfold Qey at h3;unfold Qp4;rw[hc] at h3;rw[Bool.and_comm];exact h3
  ·unfold Qey;unfold Qp4 at h3;rw[hc];rw[Bool.and_comm];exact h3
 rw[this]
theorem Qbi{l:List Cls}{k:Nat}(hk:k<l.length)(h:Q64 l k=0): ¬0≤Q1v l[k].name:=by
 simp only[Q64,Qb hk] at h
 split at h
 ·split at h
  ·omega
  ·rename_i h2;intro h3;exact h2 (.inl h3)
 ·omega
theorem Q5t{l:List Cls}{n:Str}(h:0≤Qk n l 0): ∃i,∃hi:i<l.length,Qk n l 0=i∧l[i].name=n∧Q2m l n=l[i].super:=by
 obtain ⟨i,hi,h1,_,h3,h4⟩:=Q53 h
 exact ⟨i,hi,h1,h4,by unfold Q2m;rw[if_pos h,h3]⟩
theorem Q7n{l:List Cls}{n:Str}(h1: ∀k,k<l.length→Q64 l k=0)(hb:0≤Q1v n):Qk n l 0<0∧Q2m l n=(if n=Qz then [] else if n=Q1i then Qz else Q1i):=by
 have hf: ¬0≤Qk n l 0:=by
  intro h
  obtain ⟨i,hi,_,h4,_⟩:=Q5t h
  have:=Qbi hi (h1 i hi)
  rw[h4] at this
  exact this hb
 refine ⟨by omega,?_⟩
 unfold Q2m
 have hbi:bIn n=true:=by simp[bIn,hb]
 rw[if_neg hf]
 by_cases h2:n=Qz
 ·rw[if_pos (.inr h2),if_pos h2]
 ·rw[if_neg (by simp[hbi,h2]),if_neg h2]
end Go.Proofs
namespace Go.Proofs
open Go Go.Ev
theorem Q3h:Q1v Qz=0∧Q1v Q1i=1∧Q1v []= -1:=by decide
theorem Qud{n:Str}(h0:0≤Q1v n)(h1: ¬1<Q1v n):n=Qz∨n=Q1i:=by
 have e:Q1v n=if Qz=n then 0 else if Q1i=n then 1 else Q7x n (Q44.drop 2) 2:=rfl
 rw[e] at h0 h1
 by_cases h2:Qz=n
 ·exact .inl h2.symm
 ·rw[if_neg h2] at h0 h1
  by_cases h3:Q1i=n
  ·exact .inr h3.symm
  ·rw[if_neg h3] at h0 h1
   rcases Qrd n (Q44.drop 2) 2 with h4|h4<;>omega
def P12(l:List Cls):Prop:= ∀k,k<l.length→Q64 l k=0∧Q9x l k=0
theorem Q4m{l:List Cls}(h:P12 l):isKnown l []=false:=by
 unfold isKnown
 rw[decide_eq_false (by rw[Q3h.2.2];omega),Bool.false_or,decide_eq_false]
 intro hf
 obtain ⟨i,hi,_,h4,_⟩:=Q5t hf
 have hr:=Qgq hi (h i hi).1
 simp only[Q49,Qae,Bool.and_eq_true] at hr
 have:=hr.1.1.1.1.1
 rw[h4] at this
 cases this
theorem Qmw{l:List Cls}(h:P12 l):Q2m l Qz=[]:=by
 rw[(Q7n (fun k hk=>(h k hk).1) (n:=Qz) (by rw[Q3h.1];omega)).2,if_pos rfl]
theorem Qmx{l:List Cls}(h:P12 l):Q2m l Q1i=Qz:=by
 rw[(Q7n (fun k hk=>(h k hk).1) (n:=Q1i) (by rw[Q3h.2.1];omega)).2,if_neg (by decide),if_pos rfl]
theorem Q54{l:List Cls}{n:Str}(h:0≤Q1v n):isKnown l n=true:=by unfold isKnown;rw[decide_eq_true h];rfl
theorem Qvf{l:List Cls}(h:P12 l){o:List Str}(ho:out o Qz=false):chn l o Qz=o++[Qz]:=by
 rw[Qa7 (Q54 (by rw[Q3h.1];omega)) ho,Qmw h,Q4o]
 rw[Q4m h];simp
theorem Q13u{l:List Cls}(h:P12 l){o:List Str}(ho:out o Qz=false)(he:out o Q1i=false):chn l o Q1i=o++[Q1i,Qz]:=by
 rw[Qa7 (Q54 (by rw[Q3h.2.1];omega)) he,Qmx h,Qvf h]
 ·simp
 ·rw[Bool.eq_false_iff]
  intro hc
  rw[Q99,List.mem_append] at hc
  rcases hc with hc|hc
  ·rw[Q99.2 hc] at ho;cases ho
  ·revert hc;decide
theorem Q7m{l:List Cls}(h:P12 l){k:Nat}(hk:k<l.length):Q2m l l[k].name=l[k].super∧
  ((nxt l k<0∧(l[k].super=Qz∨l[k].super=Q1i))∨ ∃j,∃hj:j<l.length,nxt l k=j∧l[j].name=l[k].super):=by
 have hu:=Q4f hk (h k hk).1
 have h2:=(h k hk).2
 constructor
 ·obtain ⟨i,hi,e1,_,e3⟩:=Q5t (l:=l) (n:=l[k].name) Za
  have:i=k:=by omega
  subst this
  exact e3
 ·simp only[Q9x,Qb hk] at h2
  rw[Qbg,Qb hk]
  by_cases hf:0≤Qk l[k].super l 0
  ·obtain ⟨j,hj,e1,e2,_⟩:=Q5t hf
   exact .inr ⟨j,hj,e1,e2⟩
  ·split at h2
   ·rename_i hkn
    split at h2
    ·omega
    ·rename_i hn
     simp only[isKnown,Bool.or_eq_true,decide_eq_true_eq] at hkn
     refine .inl ⟨by omega,Qud Za (fun hc=>hn (.inl hc))⟩
   ·omega
theorem Qwb{l:List Cls}(h:P12 l){i j:Nat}(hi:i<l.length)(hj:j<l.length)(e:l[i].name=l[j].name):i=j:=by
 have h1:=Q4f hi (h i hi).1
 have h2:=Q4f hj (h j hj).1
 rw[e] at h1
 omega
theorem Qov{l:List Cls}(h:P12 l){i:Nat}(hi:i<l.length):l[i].name≠Qz∧l[i].name≠Q1i:=by
 have:=Qbi hi (h i hi).1
 constructor<;>intro e<;>rw[e] at this
 ·rw[Q3h.1] at this;omega
 ·rw[Q3h.2.1] at this;omega
end Go.Proofs
namespace Go.Proofs
open Go Go.Ev
theorem Q16l{p:Nat→Prop}: ∀(n:Nat),p n→ ∃m,m≤n∧p m∧ ∀j,j<m→ ¬p j:=by
 intro n
 induction n using Nat.strongRecOn with
 |_ n ih=>
  intro h
  by_cases hc: ∃j,j<n∧p j
  ·obtain ⟨j,hj,hp⟩:=hc
   obtain ⟨m,h1,h2,h3⟩:=ih j hj hp
   exact ⟨m,by omega,h2,h3⟩
  ·exact ⟨n,Nat.le_refl _,h,fun j hj hp=>hc ⟨j,hj,hp⟩⟩
theorem per{l:List Cls}{k:Nat}(hk:k<l.length)(h: ∃t,0<t∧itr l t k=k):
  ∃p,0<p∧p≤l.length∧itr l p k=k∧(∀t,t≤p→0≤itr l t k∧itr l t k<l.length)∧ ∀a b,a<b→b<p→itr l a k≠itr l b k:=by
 obtain ⟨t,ht⟩:=h
 obtain ⟨p,_,⟨hp0,hp⟩,hmin⟩:=Q16l (p:=fun t=>0<t∧itr l t k=k) t ht
 have hpos: ∀t,t≤p→0≤itr l t k∧itr l t k<l.length:=fun t ht=>by
  refine ⟨?_,Qre t Za⟩
  rcases Int.lt_or_le (itr l t k) 0 with h1|h1
  ·have:=Qqb (l:=l) (p-t) h1
   rw[←Qes,show t+(p-t)=p from by omega,hp] at this
   omega
  ·exact h1
 have hdis: ∀a b,a<b→b<p→itr l a k≠itr l b k:=fun a b h1 h2 e=>by
  refine hmin (a+(p-b)) Za ⟨by omega,?_⟩
  rw[Qes,e,←Qes,show b+(p-b)=p from by omega,hp]
 refine ⟨p,hp0,?_,hp,hpos,hdis⟩
 rcases Nat.lt_or_ge l.length p with h1|h1
 ·exfalso
  obtain ⟨a,b,g1,g2,g3⟩:=Qxh l.length (fun s=>(itr l s k).toNat) (fun s hs=>by
   have:=hpos s Za;omega)
  have ha:=hpos a Za
  have hb:=hpos b Za
  exact hdis a b g1 Za Za
 ·exact h1
theorem Qv9{l:List Cls}{k:Nat}(hk:k<l.length):cyc l k=true↔ ∃t,0<t∧itr l t k=k:=by
 constructor
 ·intro h
  obtain ⟨s,_,hs⟩:=Qwu _ h
  exact ⟨s+1,by omega,hs⟩
 ·intro h
  obtain ⟨p,h0,h1,h2,_⟩:=per hk h
  obtain ⟨q,rfl⟩: ∃q,p=q+1:=⟨p-1,by omega⟩
  exact Qvb q _ Za h2
def Q8z(l:List Cls)(k:Int):Str:=(atL l k.toNat).name
theorem Q2c{l:List Cls}{k:Nat}(hk:k<l.length):Q8z l k=l[k].name:=by simp[Q8z,Qb hk]
theorem Ql9{l:List Cls}(h:P12 l){k:Int}(h0:0≤k)(h1:k<l.length)(h2:0≤nxt l k):Q2m l (Q8z l k)=Q8z l (nxt l k):=by
 obtain ⟨i,rfl⟩: ∃i:Nat,k=i:=⟨k.toNat,by omega⟩
 have hi:i<l.length:=by omega
 obtain ⟨e1,e2⟩:=Q7m h hi
 rw[Q2c hi,e1]
 rcases e2 with ⟨e2,_⟩|⟨j,hj,e2,e3⟩
 ·omega
 ·rw[e2,Q2c hj,e3]
theorem Qw7{l:List Cls}(h:P12 l){a b:Int}(ha0:0≤a)(ha:a<l.length)(hb0:0≤b)(hb:b<l.length)(e:Q8z l a=Q8z l b):a=b:=by
 obtain ⟨i,rfl⟩: ∃i:Nat,a=i:=⟨a.toNat,by omega⟩
 obtain ⟨j,rfl⟩: ∃j:Nat,b=j:=⟨b.toNat,by omega⟩
 rw[Q2c Za,Q2c Za] at e
 have:=Qwb h Za Za e
 omega
end Go.Proofs
namespace Go.Proofs
open Go Go.Ev
theorem Qgz(l:List Cls)(t:Nat)(k:Int):itr l (t+1) k=nxt l (itr l t k):=by
 rw[Qes];rfl
def Qb4(l:List Cls)(k:Int)(s:Nat):List Str:=(List.range s).map fun t=>Q8z l (itr l t k)
theorem Qwy{l:List Cls}{k:Int}{s:Nat}:Qb4 l k (s+1)=Qb4 l k s++[Q8z l (itr l s k)]:=by
 simp[Qb4,List.range_succ]
theorem Qra{l:List Cls}{k:Int}(h0:0≤k)(h1:k<l.length):isKnown l (Q8z l k)=true:=by
 obtain ⟨i,rfl⟩: ∃i:Nat,k=i:=⟨k.toNat,by omega⟩
 rw[Q2c Za];exact Q66 _
theorem Qz4{l:List Cls}(h:P12 l){k:Int}{p:Nat}(hpos: ∀t,t≤p→0≤itr l t k∧itr l t k<l.length)(hdis: ∀a b,a<b→b<p→itr l a k≠itr l b k):
  ∀t,t≤p→chn l [] (Q8z l k)=chn l (Qb4 l k t) (Q8z l (itr l t k))
 |0,_=>by simp[Qb4,itr]
 |t+1,ht=>by
  have h1:=hpos t Za
  have h2:=hpos (t+1) ht
  rw[Qz4 h hpos hdis t Za,Qa7 (Qra h1.1 h1.2) ?_,←Qwy,Ql9 h h1.1 h1.2 (by rw[←Qgz];exact h2.1),←Qgz]
  rw[Bool.eq_false_iff]
  intro hc
  rw[Q99,Qb4,List.mem_map] at hc
  obtain ⟨a,ha,e⟩:=hc
  have ha:a<t:=by simpa using ha
  have h3:=hpos a Za
  exact hdis a t ha Za (Qw7 h h3.1 h3.2 h1.1 h1.2 e)
theorem Q15c{l:List Cls}(h:P12 l){k:Nat}(hk:k<l.length)(hc:cyc l k=true):Qva l l[k].name=true:=by
 obtain ⟨p,h0,h1,h2,hpos,hdis⟩:=per hk ((Qv9 hk).1 hc)
 have hr:=Qz4 h hpos hdis p (Nat.le_refl _)
 rw[h2,Q2c hk] at hr
 have hst:Qu l l[k].name=Qb4 l k p:=by
  rw[Qu,hr,Q4o]
  rintro ⟨_,e⟩
  rw[Bool.eq_false_iff] at e
  refine e (Q99.2 ?_)
  rw[Qb4,List.mem_map]
  exact ⟨0,by simpa using h0,by simp[itr,Q2c hk]⟩
 unfold Qva
 rw[hst]
 have hl:(Qb4 l k p).length=p:=by simp[Qb4]
 have hlast:atL (Qb4 l k p) (p-1)=Q8z l (itr l (p-1) k):=by
  rw[Qb (by rw[hl];omega)]
  simp[Qb4]
 have h3:=hpos (p-1) Za
 have h4:nxt l (itr l (p-1) k)=k:=by rw[←Qgz,show p-1+1=p from by omega,h2]
 rw[hl,hlast,Ql9 h h3.1 h3.2 (by rw[h4];omega),h4,Q2c hk]
 simp
def Rch(l:List Cls)(k:Int)(x:Str):Prop:=(∃t,0≤itr l t k∧itr l t k<l.length∧x=Q8z l (itr l t k))∨x=Qz∨x=Q1i
theorem Q15q{l:List Cls}(h:P12 l){k:Int}{x:Str}(hx:Rch l k x):Rch l k (Q2m l x)∨Q2m l x=[]:=by
 rcases hx with ⟨t,h0,h1,rfl⟩|rfl|rfl
 ·obtain ⟨i,hi⟩: ∃i:Nat,itr l t k=i:=⟨(itr l t k).toNat,by omega⟩
  have hil:i<l.length:=by omega
  obtain ⟨e1,e2⟩:=Q7m h hil
  rw[hi,Q2c hil,e1]
  rcases e2 with ⟨_,e2⟩|⟨j,hj,e2,e3⟩
  ·rcases e2 with e2|e2
   ·exact .inl (.inr (.inl e2))
   ·exact .inl (.inr (.inr e2))
  ·refine .inl (.inl ⟨t+1,?_⟩)
   rw[Qgz,hi,e2,Q2c hj]
   exact ⟨by omega,by omega,e3.symm⟩
 ·exact .inr (Qmw h)
 ·rw[Qmx h];exact .inl (.inr (.inl rfl))
theorem Qz7{l:List Cls}(h:P12 l){k:Int}: ∀(f:Nat) (o:List Str) (n:Str),cMu l o≤f→(∀x∈o,Rch l k x)→(Rch l k n∨n=[])→ ∀x∈chn l o n,Rch l k x
 |f,o,n,hf,ho,hn=>by
  by_cases hc:isKnown l n=true∧out o n=false
  ·have hlt:=Qfc hc.1 hc.2
   have hR:Rch l k n:=by
    rcases hn with hn|rfl
    ·exact hn
    ·rw[Q4m h] at hc;cases hc.1
   rw[Qa7 hc.1 hc.2]
   cases f with
   |zero=>omega
   |succ f=>
    refine Qz7 h f _ _ Za (fun x hx=> ?_) (Q15q h hR)
    rcases List.mem_append.1 hx with hx|hx
    ·exact ho x hx
    ·simp at hx;subst hx;exact hR
  ·rw[Q4o hc];exact ho
theorem Q12a{l:List Cls}(h:P12 l){k:Nat}(hk:k<l.length)(hc:Qva l l[k].name=true):cyc l k=true:=by
 rw[Qv9 hk]
 obtain ⟨ys,hy⟩:=Qkk (Q66 hk)
 have hlen:(Qu l l[k].name).length-1<(Qu l l[k].name).length:=by rw[hy];simp
 unfold Qva at hc
 rw[Qb hlen,decide_eq_true_eq] at hc
 have hm:Rch l k (Qu l l[k].name)[(Qu l l[k].name).length-1]:=
  Qz7 h _ [] l[k].name (Nat.le_refl _) (fun x hx=>by cases hx) (.inl (.inl ⟨0,by simp[itr],by simp[itr];omega,by simp[itr,Q2c hk]⟩)) _ (List.getElem_mem hlen)
 have hno:=Qov h hk
 rcases hm with ⟨t,h0,h1,e⟩|e|e
 ·rw[e] at hc
  obtain ⟨i,hi⟩: ∃i:Nat,itr l t k=i:=⟨(itr l t k).toNat,by omega⟩
  have hil:i<l.length:=by omega
  obtain ⟨e1,e2⟩:=Q7m h hil
  rw[hi,Q2c hil,e1] at hc
  rcases e2 with ⟨_,e2⟩|⟨j,hj,e2,e3⟩
  ·rw[hc] at e2
   rcases e2 with e2|e2
   ·exact absurd e2 hno.1
   ·exact absurd e2 hno.2
  ·refine ⟨t+1,by omega,?_⟩
   rw[hc] at e3
   rw[Qgz,hi,e2,Qwb h hj hk e3]
 ·rw[e,Qmw h] at hc
  have:=Q66 hk
  rw[←hc,Q4m h] at this;cases this
 ·rw[e,Qmx h] at hc
  exact absurd hc.symm hno.1
theorem Q15d{l:List Cls}(h:P12 l){k:Nat}(hk:k<l.length):Qva l l[k].name=cyc l k:=by
 rw[Bool.eq_iff_iff];exact ⟨Q12a h hk,Q15c h hk⟩
theorem Q16d{l:List Cls}(h:P12 l){k:Nat}(hk:k<l.length):pI4 l (atL l k)=Qb7 l k:=by
 simp only[pI4,Qb7,Qb hk,Q15d h hk]
end Go.Proofs
namespace Go.Proofs
open Go Go.Ev
theorem Qcl{l:List Cls}{f:Nat}{k:Int}(h:k<0):ups l f k=[]:=by cases f<;>simp[ups,h]
theorem Qq3{l:List Cls}{f:Nat}{k:Int}(h:0≤k):ups l (f+1) k=k.toNat::ups l f (nxt l k):=by simp[ups,show¬k<0 from by omega]
def Tail(tl:List Str):Prop:=tl=[Qz]∨tl=[Q1i,Qz]
theorem Q13j{l:List Cls}(h:P12 l){k:Int}(h0:0≤k)(h1:k<l.length):Q8z l k≠Qz∧Q8z l k≠Q1i:=by
 obtain ⟨i,rfl⟩: ∃i:Nat,k=i:=⟨k.toNat,by omega⟩
 rw[Q2c Za];exact Qov h Za
theorem Qww{l:List Cls}(h:P12 l)(hcy: ∀i,i<l.length→cyc l i=false): ∀(f:Nat) (k:Int) (o:List Str),Ql1 l f k→0≤k→k<l.length→
  (∀t,0≤itr l t k→Q8z l (itr l t k)∉o)→Qz∉o→Q1i∉o→ ∃tl,Tail tl∧chn l o (Q8z l k)=o++(ups l f k).map (fun u:Nat=>Q8z l (u:Int))++tl
 |0,k,o,he,h0,_,_,_,_=>by
  have he:k<0:=he
  omega
 |f+1,k,o,he,h0,h1,hn,ho,hr=>by
  have hno:=Q13j h h0 h1
  obtain ⟨i,hi⟩: ∃i:Nat,k=i:=⟨k.toNat,by omega⟩
  subst hi
  have hil:i<l.length:=by omega
  have hout:out o (Q8z l (i:Int))=false:=by
   rw[Bool.eq_false_iff];intro hc;exact hn 0 (by simp[itr]) (Q99.1 hc)
  obtain ⟨e1,e2⟩:=Q7m h hil
  have ho':Qz∉o++[Q8z l (i:Int)]:=by
   intro hc;rcases List.mem_append.1 hc with hc|hc
   ·exact ho hc
   ·exact hno.1 (List.mem_singleton.1 hc).symm
  have hr':Q1i∉o++[Q8z l (i:Int)]:=by
   intro hc;rcases List.mem_append.1 hc with hc|hc
   ·exact hr hc
   ·exact hno.2 (List.mem_singleton.1 hc).symm
  rw[Qa7 (Qra h0 h1) hout,Q2c hil,e1,Qq3 h0]
  rw[Q2c hil] at ho' hr'
  rcases e2 with ⟨e2,e3⟩|⟨j,hj,e2,e3⟩
  ·rw[Qcl e2]
   rcases e3 with e3|e3
   ·exact ⟨[Qz],.inl rfl,by rw[e3,Qvf h (by rw[Bool.eq_false_iff];exact fun hc=>ho' (Q99.1 hc))];simp[Q2c hil]⟩
   ·exact ⟨[Q1i,Qz],.inr rfl,by rw[e3,Q13u h (by rw[Bool.eq_false_iff];exact fun hc=>ho' (Q99.1 hc)) (by rw[Bool.eq_false_iff];exact fun hc=>hr' (Q99.1 hc))];simp[Q2c hil]⟩
  ·have he2:Ql1 l f (nxt l i):=by
    rcases he with he|he
    ·omega
    ·exact he
   obtain ⟨tl,ht,hc⟩:=Qww h hcy f (nxt l i) (o++[l[i].name]) he2 Za Za (fun t ht hc=>by
    have ht':0≤itr l (t+1) i:=ht
    rcases List.mem_append.1 hc with hc|hc
    ·exact hn (t+1) ht' hc
    ·have hc:=List.mem_singleton.1 hc
     have hx:=Qw7 h ht' (Qre (t+1) Za) h0 h1 (by rw[Q2c hil];exact hc)
     have:=(Qv9 hil).2 ⟨t+1,by omega,hx⟩
     rw[hcy i hil] at this;cases this) ho' hr'
   refine ⟨tl,ht,?_⟩
   rw[e2] at hc
   rw[Q2c hj,e3] at hc
   rw[hc,e2]
   simp[Q2c hil]
end Go.Proofs
namespace Go.Proofs
open Go Go.Ev
theorem Qe7{l:List Cls}(h:P12 l){u:Nat}(hu:u<l.length):Q1u l (Q8z l (u:Int))=l[u]:=by
 rw[Q2c hu]
 have:=Q4f hu (h u hu).1
 unfold Q1u
 rw[if_pos Za,this]
 simp[Qb hu]
theorem Qbp{l:List Cls}(h:P12 l){n:Str}(hn:n=Qz∨n=Q1i):Q1u l n=zC:=by
 have hb:0≤Q1v n:=by rcases hn with rfl|rfl<;>decide
 exact Q6q (by have:=(Q7n (l:=l) (fun k hk=>(h k hk).1) hb).1;omega)
theorem Q10s{l:List Cls}: ∀{f:Nat} {k:Int},k<l.length→ ∀u∈ups l f k,u<l.length
 |0,k,_,u,hu=>by cases hu
 |f+1,k,hk,u,hu=>by
  simp only[ups] at hu
  split at hu
  ·cases hu
  ·rcases List.mem_cons.1 hu with rfl|hu
   ·omega
   ·exact Q10s (Qay).2 u hu
theorem Qwf{l:List Cls}(h:P12 l){n d:Str}{tl:List Str}(ht:Tail tl):mUp l n d tl=none:=by
 have h1: ¬0≤Q1a n d zC.methods 0:=by simp[zC,Q1a]
 rcases ht with rfl|rfl
 ·simp only[mUp];rw[Qbp h (.inl rfl),if_neg h1]
 ·simp only[mUp];rw[Qbp h (.inr rfl),if_neg h1,Qbp h (.inl rfl),if_neg h1]
theorem Qw9{l:List Cls}(h:P12 l){n d:Str}{tl:List Str}(ht:Tail tl): ∀{f:Nat} {k:Int},k<l.length→
  ((mUp l n d ((ups l f k).map (fun u:Nat=>Q8z l (u:Int))++tl)).getD zM).abstr=Qqz l n d f k
 |0,k,_=>by simp only[ups,List.map_nil,List.nil_append,Qwf h ht,Qqz];rfl
 |f+1,k,hk=>by
  rcases Int.lt_or_le k 0 with h0|h0
  ·rw[Qcl h0,List.map_nil,List.nil_append,Qwf h ht];simp[Qqz,h0,zM]
  ·rw[Qq3 h0,List.map_cons,List.cons_append]
   obtain ⟨i,hi⟩: ∃i:Nat,k=i:=⟨k.toNat,by omega⟩
   subst hi
   have hil:i<l.length:=by omega
   rw[Qw8]
   simp only[mUp,Int.toNat_natCast,Qe7 h hil,Qb hil]
   split
   ·rfl
   ·exact Qw9 h ht (Qay).2
theorem Qvk{m:Mth}(h:Q3d m=true)(ha:m.abstr=true):m.name≠Qm:=by
 rw[Q9b (Qjn h) ha] at h
 simp only[Bool.and_eq_true,Bool.not_eq_true',decide_eq_false_iff_not] at h
 exact h.2
theorem Q15i{l:List Cls}(h:P12 l)(hcy: ∀i,i<l.length→cyc l i=false){i:Nat}(hi:i<l.length):accI l l[i]=Que l i:=by
 have hE:=Qad hcy hi
 obtain ⟨tl,ht,hc⟩:=Qww h hcy (l.length+1) i [] hE Za Za (fun _ _ hx=>by cases hx) (fun hx=>by cases hx) (fun hx=>by cases hx)
 rw[Q2c hi,List.nil_append] at hc
 have hch:Qu l l[i].name=(ups l (l.length+1) i).map (fun u:Nat=>Q8z l (u:Int))++tl:=hc
 have hok: ∀m,Q3d m=true→okI l l[i] m=Q8m l l[i] i m:=by
  intro m hm
  unfold okI Q8m
  rw[hch,Qw9 h ht Za]
  by_cases hin:m.name=Qm
  ·rw[decide_eq_true hin]
   have:m.abstr=false:=by
    cases ha:m.abstr
    ·rfl
    ·exact absurd hin (Qvk hm ha)
   simp[this]
  ·rw[decide_eq_false hin]
   simp only[Bool.not_false,Bool.true_and,Bool.false_or]
   congr 3
   try (cases m.static<;>cases (atL l[i].methods (Q1a m.name m.desc l[i].methods 0).toNat).static<;>rfl)
 unfold accI Que
 rw[hch,Qeg,List.map_cons,List.cons_append,List.drop_one,List.tail_cons,List.all_append]
 have htl:tl.all (fun u=>(Q1u l u).methods.all (okI l l[i]))=true:=by
  rcases ht with rfl|rfl
  ·simp[Qbp h (.inl rfl),zC]
  ·simp[Qbp h (.inl rfl),Qbp h (.inr rfl),zC]
 rw[htl,Bool.and_true,List.all_map]
 have hlt:=fun u hu=>Q10s (l:=l) (f:=l.length) (k:=nxt l i) (Qay).2 u hu
 rw[Bool.eq_iff_iff,List.all_eq_true,List.all_eq_true]
 have key: ∀u∈ups l l.length (nxt l i),((fun u=>(Q1u l u).methods.all (okI l l[i]))∘fun u:Nat=>Q8z l (u:Int)) u=(atL l u).methods.all (Q8m l (atL l i) i):=by
  intro u hu
  have hul:=hlt u hu
  show (Q1u l (Q8z l (u:Int))).methods.all (okI l l[i])=_
  rw[Qe7 h hul,Qb hul,Qb hi,Bool.eq_iff_iff,List.all_eq_true,List.all_eq_true]
  have hr:=Qjm (Qgq hul (h u hul).1)
  constructor<;>intro hx m hm
  ·rw[←hok m (hr m hm)];exact hx m hm
  ·rw[hok m (hr m hm)];exact hx m hm
 constructor<;>intro hx u hu
 ·rw[←key u hu];exact hx u hu
 ·rw[key u hu];exact hx u hu
theorem Q16c{l:List Cls}(h:P12 l)(hcy: ∀i,i<l.length→cyc l i=false){i:Nat}(hi:i<l.length):pI5 l (atL l i)=Qdr l i:=by
 simp only[pI5,Qdr,Qb hi,Q15i h hcy hi]
theorem Qwp{c1 c2:Nat→Int}{n:Nat}(h: ∀j,j<n→c1 j=c2 j):Q10 c1 n 0=Q10 c2 n 0:=Qh1 fun j _ h2=>h j Za
theorem Qy5(l:List Cls):Q9p l 0 5=Q5o l:=by
 unfold Q5o
 simp only[Q9p]
 rw[Qwp (c1:=Qe6 l 0) (c2:=Q64 l) (fun j hj=>Q16g hj),Qwp (c1:=Qe6 l (0+1)) (c2:=Q9x l) (fun j hj=>Q16f)]
 cases h1:Q10 (Q64 l) l.length 0 with
 |some p=>rfl
 |none=>
  cases h2:Q10 (Q9x l) l.length 0 with
  |some p=>rfl
  |none=>
   have hp1: ∀k,k<l.length→Q64 l k=0:=fun k hk=>Q3n h1 k Za Za
   have hp:P12 l:=fun k hk=>⟨hp1 k hk,Q3n h2 k Za Za⟩
   simp only
   rw[Qwp (c1:=Qe6 l (0+1+1)) (c2:=Qds l) (fun j hj=>Q16e hj (hp1 j hj)),Qwp (c1:=Qe6 l (0+1+1+1)) (c2:=Qb7 l) (fun j hj=>Q16d hp hj)]
   cases h3:Q10 (Qds l) l.length 0 with
   |some p=>rfl
   |none=>
    cases h4:Q10 (Qb7 l) l.length 0 with
    |some p=>rfl
    |none=>
     have hcy: ∀i,i<l.length→cyc l i=false:=fun i hi=>by
      have:=Q3n h4 i Za Za
      simp only[Qb7] at this
      cases hc:cyc l i
      ·rfl
      ·rw[hc] at this;simp at this
     simp only
     rw[Qwp (c1:=Qe6 l (0+1+1+1+1)) (c2:=Qdr l) (fun j hj=>Q16c hp hcy hj)]
     all_goals (cases Q10 (Qdr l) l.length 0<;>rfl)
theorem Q13w(l:List Cls):Qs7 l=if 10<l.length then (10,1) else Q5o l:=by
 unfold Qs7;rw[Qy5]
theorem Qsr(l:List Cls):(if 400<l.length then ((0:Int),(2:Int)) else Qs7 l)=Q5r l:=by
 unfold Q5r;rw[Q13w]
end Go.Proofs
namespace Go.Proofs
open Go Go.Ev
theorem Qtf(l:List Cls):(decide (l.length≤10)&&decide ((Qs7 l).2=0))=Qx l:=by
 unfold Qx
 rw[←Qsr]
 by_cases h:10<l.length
 ·have hc:Qs7 l=(10,1):=by unfold Qs7;rw[if_pos h]
  rw[hc,decide_eq_false Za,Bool.false_and]
  split<;>rfl
 ·rw[if_neg Za,decide_eq_true Za,Bool.true_and]
theorem Qa1{l:List Cls}(h:Qx l=true):l.length≤10:=by
 rw[←Qtf,Bool.and_eq_true,decide_eq_true_eq] at h;exact h.1
theorem Qbm{l:List Cls}(h:Qx l=true):(∀k,k<l.length→Q64 l k=0)∧(∀k,k<l.length→Q9x l k=0)∧(∀k,k<l.length→Qds l k=0)∧(∀k,k<l.length→Qb7 l k=0)∧ ∀k,k<l.length→Qdr l k=0:=by
 have hlen:=Qa1 h
 simp only[Qx,Q5r,if_neg (show¬400<l.length from by omega),if_neg (show¬10<l.length from by omega),decide_eq_true_eq] at h
 have bad: ∀(c:Nat→Int) (n i k:Nat) (v:Int),Q10 c n i=some (k,v)→v≠0:=by
  intro c n
  induction n with
  |zero=>intro i k v h;simp[Q10] at h
  |succ n ih=>
   intro i k v h
   simp only[Q10] at h
   split at h
   ·exact ih _ _ _ h
   ·cases h;assumption
 unfold Q5o at h
 cases h1:Q10 (Q64 l) l.length 0 with
 |some p=>rw[h1] at h;exact absurd h (bad _ _ _ p.1 p.2 h1)
 |none=>
  rw[h1] at h
  cases h2:Q10 (Q9x l) l.length 0 with
  |some p=>rw[h2] at h;exact absurd h (bad _ _ _ p.1 p.2 h2)
  |none=>
   rw[h2] at h
   cases h3:Q10 (Qds l) l.length 0 with
   |some p=>rw[h3] at h;exact absurd h (bad _ _ _ p.1 p.2 h3)
   |none=>
    rw[h3] at h
    cases h4:Q10 (Qb7 l) l.length 0 with
    |some p=>rw[h4] at h;exact absurd h (bad _ _ _ p.1 p.2 h4)
    |none=>
     rw[h4] at h
     cases h5:Q10 (Qdr l) l.length 0 with
     |some p=>rw[h5] at h;exact absurd h (bad _ _ _ p.1 p.2 h5)
     |none=>
      exact ⟨fun k hk=>Q3n h1 k Za Za,fun k hk=>Q3n h2 k Za Za,fun k hk=>Q3n h3 k Za Za,fun k hk=>Q3n h4 k Za Za,fun k hk=>Q3n h5 k Za Za⟩
theorem Q1s{l:List Cls}(h:Qx l=true):P12 l:=fun k hk=>⟨(Qbm h).1 k hk,(Qbm h).2.1 k hk⟩
theorem Qij{l:List Cls}(h:Qx l=true): ∀i,i<l.length→cyc l i=false:=fun i hi=>by
 have:=(Qbm h).2.2.2.1 i hi
 simp only[Qb7] at this
 cases hc:cyc l i
 ·rfl
 ·rw[hc] at this;simp at this
theorem Qzo{l:List Cls}(h:P12 l)(n:Str):Q2m l n=Q98 l n:=by
 unfold Q98
 by_cases hb:0≤Q1v n
 ·obtain ⟨hf,e⟩:=Q7n (fun k hk=>(h k hk).1) hb
  rw[e]
  rcases Int.lt_or_le 1 (Q1v n) with h1|h1
  ·have n1:n≠Qz:=fun e=>by rw[e,Q3h.1] at h1;omega
   have n2:n≠Q1i:=fun e=>by rw[e,Q3h.2.1] at h1;omega
   rw[if_neg n1,if_neg n2,if_neg Za,if_neg Za,if_pos h1]
  ·rcases Qud hb Za with rfl|rfl
   ·rw[if_pos rfl,if_pos Q3h.1]
   ·rw[if_neg (by decide),if_pos rfl,if_neg (by rw[Q3h.2.1];omega),if_pos Q3h.2.1]
 ·rw[if_neg Za,if_neg Za,if_neg Za]
  unfold Q2m
  by_cases hf:0≤Qk n l 0
  ·rw[if_pos hf,if_neg Za]
   obtain ⟨i,hi,h1,_,h3,_⟩:=Q53 hf
   rw[h3,h1];simp[Qb hi]
  ·rw[if_neg hf,if_pos (.inl (by simp[bIn];omega)),if_pos Za]
theorem Qp1{l:List Cls}(h:P12 l){n:Str}(hk:isKnown l n=true):Q2m l n=[]∨isKnown l (Q2m l n)=true:=by
 simp only[isKnown,Bool.or_eq_true,decide_eq_true_eq] at hk
 by_cases hb:0≤Q1v n
 ·rw[(Q7n (fun k hk=>(h k hk).1) hb).2]
  split
  ·exact .inl rfl
  ·split
   ·exact .inr (Q54 (by rw[Q3h.1];omega))
   ·exact .inr (Q54 (by rw[Q3h.2.1];omega))
 ·obtain ⟨i,hi,e1,e2,e3⟩:=Q5t (l:=l) (n:=n) Za
  rw[e3]
  rcases (Q7m h hi).2 with ⟨_,e|e⟩|⟨j,hj,_,e⟩
  ·rw[e];exact .inr (Q54 (by rw[Q3h.1];omega))
  ·rw[e];exact .inr (Q54 (by rw[Q3h.2.1];omega))
  ·rw[←e];exact .inr (Q66 hj)
theorem Qvp{l:List Cls}: ∀{f g:Nat} {k:Int},Ql1 l f k→Ql1 l g k→ups l f k=ups l g k
 |0,g,k,hf,_=>by rw[Qcl hf,Qcl hf]
 |f+1,0,k,_,hg=>by rw[Qcl hg,Qcl hg]
 |f+1,g+1,k,hf,hg=>by
  by_cases hk:k<0
  ·rw[Qcl hk,Qcl hk]
  ·rw[Qq3 Za,Qq3 Za,Qvp (hf.resolve_left hk) (hg.resolve_left hk)]
def rk(l:List Cls)(n:Str):Nat:=if bIn n then (if n=Qz then 0 else if n=Q1i then 1 else 2) else 3+(ups l (l.length+1) (Qk n l 0)).length
theorem Qvv{l:List Cls}(h:P12 l)(hc: ∀i,i<l.length→cyc l i=false){n:Str}(hk:isKnown l n=true)(hs:Q2m l n≠[]):rk l (Q2m l n)<rk l n:=by
 have r0:rk l Qz=0:=by unfold rk;rw[if_pos (by simp[bIn,Q3h.1]),if_pos rfl]
 have r1:rk l Q1i=1:=by unfold rk;rw[if_pos (by simp[bIn,Q3h.2.1]),if_neg (by decide),if_pos rfl]
 by_cases hb:0≤Q1v n
 ·have e:=(Q7n (fun k hk=>(h k hk).1) hb).2
  rw[e] at hs⊢
  have hbn:bIn n=true:=by simp[bIn,hb]
  by_cases h1:n=Qz
  ·rw[if_pos h1] at hs;exact absurd rfl hs
  ·rw[if_neg h1]
   by_cases h2:n=Q1i
   ·rw[if_pos h2,h2,r0,r1];omega
   ·rw[if_neg h2,r1];unfold rk;rw[if_pos hbn,if_neg h1,if_neg h2];omega
 ·have hbn:bIn n=false:=by simp[bIn];omega
  simp only[isKnown,Bool.or_eq_true,decide_eq_true_eq] at hk
  obtain ⟨i,hi,e1,e2,e3⟩:=Q5t (l:=l) (n:=n) Za
  have hrn:rk l n=3+(ups l (l.length+1) (i:Int)).length:=by unfold rk;rw[if_neg (by simp[hbn]),e1]
  have hu:ups l (l.length+1) (i:Int)=i::ups l l.length (nxt l i):=Qeg
  rw[hrn,hu,e3]
  have hE:=Qad hc hi
  obtain ⟨g,hg,hE2⟩:=Qmu hE
  obtain rfl:g=l.length:=by omega
  rcases (Q7m h hi).2 with ⟨_,e|e⟩|⟨j,hj,e4,e⟩
  ·rw[e,r0];omega
  ·rw[e,r1];simp only[List.length_cons];omega
  ·have hjb:=Qbi hj (h j hj).1
   have huq:=Q4f hj (h j hj).1
   rw[←e]
   have:rk l l[j].name=3+(ups l (l.length+1) (j:Int)).length:=by unfold rk;rw[if_neg (by simp[bIn];omega),huq]
   rw[this,e4]
   rw[e4] at hE2
   rw[Qvp (Qad hc hj) hE2]
   simp
theorem Qy4{l:List Cls}(h:P12 l)(hc: ∀i,i<l.length→cyc l i=false): ∀(k:Nat) (n:Str) (o:List Str),rk l n≤k→(∀x∈o,rk l n<rk l x)→chn l o n=o++chn l [] n
 |k,n,o,hk,ho=>by
  by_cases hn:isKnown l n=true
  ·have hout:out o n=false:=by
    rw[Bool.eq_false_iff];intro hc;have:=ho n (Q99.1 hc);omega
   rw[Qa7 hn hout,Qa7 hn (o:=[]) rfl]
   by_cases hs:Q2m l n=[]
   ·rw[hs,Q4o (by rw[Q4m h];simp),Q4o (by rw[Q4m h];simp)];rfl
   ·have hlt:=Qvv h hc hn hs
    cases k with
    |zero=>omega
    |succ k=>
     rw[Qy4 h hc k (Q2m l n) (o++[n]) Za (fun x hx=>by
       rcases List.mem_append.1 hx with hx|hx
       ·have:=ho x hx;omega
       ·rw[List.mem_singleton.1 hx];exact hlt),
      Qy4 h hc k (Q2m l n) ([]++[n]) Za (fun x hx=>by
       rw[List.mem_singleton.1 hx];exact hlt)]
     simp
  ·rw[Q4o (fun hc=>hn hc.1),Q4o (fun hc=>hn hc.1)];simp
theorem Q7t{l:List Cls}(h:Qx l=true){n:Str}(hn:isKnown l n=true):Qu l n=n::Qu l (Q2m l n):=by
 have hp:=Q1s h
 have hc:=Qij h
 unfold Qu
 rw[Qa7 hn rfl]
 by_cases hs:Q2m l n=[]
 ·rw[hs,Q4o (by rw[Q4m hp];simp),Q4o (by rw[Q4m hp];simp)];rfl
 ·rw[Qy4 hp hc _ _ ([]++[n]) (Nat.le_refl _) (fun x hx=>by rw[List.mem_singleton.1 hx];exact Qvv hp hc hn hs)]
  rfl
theorem Qmb{l:List Cls}{n:Str}(hn:isKnown l n=false):Qu l n=[]:=by
 unfold Qu;rw[Q4o];rw[hn];simp
def chS(l:List Cls)(a:Str):List Str:=if isKnown l a=true then Qu l a else if a=[] then [] else [a]
theorem Qny{l:List Cls}{a:Str}(h:isKnown l a=true):chS l a=Qu l a:=if_pos h
theorem Qvg{l:List Cls}(h:Qx l=true):chS l []=[]:=by unfold chS;rw[if_neg (by rw[Q4m (Q1s h)];simp),if_pos rfl]
theorem Q12e{l:List Cls}(h:Qx l=true){a:Str}(ha:a≠[]):chS l a=a::chS l (Q98 l a):=by
 rw[←Qzo (Q1s h)]
 by_cases hk:isKnown l a=true
 ·rw[Qny hk,Q7t h hk]
  rcases Qp1 (Q1s h) hk with e|e
  ·rw[e,Qvg h,Qmb (Q4m (Q1s h))]
  ·rw[Qny e]
 ·have:Q2m l a=[]:=by
   simp only[isKnown,Bool.or_eq_true,decide_eq_true_eq] at hk
   unfold Q2m;rw[if_neg (fun h=>hk (.inr h)),if_pos (.inl (by simp[bIn];omega))]
  rw[this,Qvg h];unfold chS;rw[if_neg hk,if_neg ha]
def subS(l:List Cls)(a b:Str):Bool:=out (chS l a) b
theorem Q110{l:List Cls}(h:Qx l=true)(b:Str):subS l [] b=false:=by unfold subS;rw[Qvg h];rfl
theorem Q135{l:List Cls}(h:Qx l=true){a b:Str}(ha:a≠[]):subS l a b=(decide (b=a)||subS l (Q98 l a) b):=by
 unfold subS;rw[Q12e h ha];rfl
end Go.Proofs
namespace Go.Proofs
open Go Go.Ev
structure Typ where
 k:Int
 c:Str
 at':Int
 deriving DecidableEq,Inhabited
def eT(x:Typ):V:= .agg [.int .i64 x.k,.str x.c,.int .i64 x.at']
def Qla(x:Typ):Nat:=x.c.length
def Qy6(x:Typ):Prop:=x.c.length<4611686018427387904
@[simp] theorem pureL_eT (l:List Typ):Q2t (l.map eT)=true:=Q63 _ (fun _=>rfl) l
@[simp] theorem fzL_eT (l:List Typ):fzL (l.map eT)=l.map eT:=Q9e _ (fun _=>rfl) l
@[simp] theorem jkL_eT (p:Nat→Bool) (l:List Typ):jkL p (l.map eT)=l.map eT:=Q6w p _ (fun _=>rfl) l
attribute [simp] eT
def Q16(l:List Cls)(t:Typ):Bool:=if t.k=3∨t.k=5 then isKnown l t.c&&decide (t.at'=0) else if t.k=6 then isKnown l t.c&&decide (0≤t.at'∧t.at'≤59) else decide (0≤t.k∧t.k≤7)&&(decide (t.c=[])&&decide (t.at'=0))
end Go.Proofs
namespace Go.Proofs
open Go Go.Ev
def zT:Typ:=⟨0,[],0⟩
def objT:Typ:=⟨3,Qz,0⟩
def Q76(t:Typ):Bool:=decide (2≤t.k∧t.k≤5)
def leI(l:List Cls)(a b:Typ):Bool:=
 if a=b∨b.k=0 then true else if a.k=2 then Q76 b
 else if (a.k=3∧b.k=3)∨(a.k=5∧b.k=5) then isKnown l b.c&&out (Qu l a.c) b.c
 else decide (a.k=4∨a.k=5)&&decide (b=objT)
def leT(l:List Cls)(a b:Typ):Bool:=
 if a=b∨b.k=0 then true else if a.k=2 then decide (b.k=3∨b.k=4∨b.k=5)
 else if (a.k=3∧b.k=3)∨(a.k=5∧b.k=5) then subS l a.c b.c
 else decide (a.k=4∨a.k=5)&&decide (b.k=3)&&decide (b.c=Qz)
theorem Qp6{l:List Cls}{a x:Str}: ∀(k:Nat) (o:List Str) (n:Str),cMu l o≤k→(∀y∈o,isKnown l y=true)→x∈chn l o n→isKnown l x=true
 |0,o,n,hk,ho,hx=>by
  rw[Q4o] at hx
  ·exact ho x hx
  ·rintro ⟨h1,h2⟩;have:=Qfc h1 h2;omega
 |k+1,o,n,hk,ho,hx=>by
  by_cases hc:isKnown l n=true∧out o n=false
  ·rw[Qa7 hc.1 hc.2] at hx
   refine Qp6 (a:=a) k (o++[n]) (Q2m l n) (by have:=Qfc hc.1 hc.2;omega) (fun y hy=> ?_) hx
   rcases List.mem_append.1 hy with hy|hy
   ·exact ho y hy
   ·rw[List.mem_singleton.1 hy];exact hc.1
  ·rw[Q4o hc] at hx;exact ho x hx
theorem Q11t{l:List Cls}{a x:Str}(h:x∈Qu l a):isKnown l x=true:=Qp6 (a:=a) _ [] a (Nat.le_refl _) (fun y hy=>by cases hy) h
theorem Q156{l:List Cls}{t:Typ}(h:Q16 l t=true)(hk:t.k=3∨t.k=5):isKnown l t.c=true∧t.at'=0:=by
 unfold Q16 at h;rw[if_pos hk] at h;simpa using h
theorem Q155{l:List Cls}{t:Typ}(h:Q16 l t=true)(h3: ¬(t.k=3∨t.k=5))(h6:t.k≠6):t.c=[]∧t.at'=0∧0≤t.k∧t.k≤7:=by
 unfold Q16 at h;rw[if_neg h3,if_neg h6] at h;simp at h;exact ⟨h.2.1,h.2.2,h.1.1,h.1.2⟩
theorem Qyf{a b:Typ}(h1:a.k=b.k)(h2:a.c=b.c)(h3:a.at'=b.at'):a=b:=by
 cases a;cases b;simp_all
end Go.Proofs
namespace Go.Proofs
open Go Go.Ev
section
variable {l:List Cls}
theorem Qgl{n:Str}(h:P12 l)(hk:isKnown l n=true)(hn:n≠Qz):Q2m l n≠[]:=by
 intro e
 simp only[isKnown,Bool.or_eq_true,decide_eq_true_eq] at hk
 by_cases hb:0≤Q1v n
 ·rw[(Q7n (fun k hk=>(h k hk).1) hb).2,if_neg hn] at e
  split at e<;>cases e
 ·obtain ⟨i,hi,_,_,e3⟩:=Q5t (l:=l) (n:=n) Za
  rw[e3] at e
  rcases (Q7m h hi).2 with ⟨_,e2|e2⟩|⟨j,hj,_,e2⟩
  ·rw[e] at e2;cases e2
  ·rw[e] at e2;cases e2
  ·have:=Q66 (l:=l) hj
   rw[e2,e,Q4m h] at this;cases this
theorem Qnx(hw:Qx l=true){P:Str→Prop}(h0:P Qz)(h1: ∀n,isKnown l n=true→n≠Qz→isKnown l (Q2m l n)=true→P (Q2m l n)→P n): ∀n,isKnown l n=true→P n:=by
 have key: ∀(k:Nat) (n:Str),rk l n≤k→isKnown l n=true→P n:=by
  intro k
  induction k with
  |zero=>
   intro n hk hn
   by_cases ho:n=Qz
   ·rw[ho];exact h0
   ·have:=Qvv (Q1s hw) (Qij hw) hn (Qgl (Q1s hw) hn ho);omega
  |succ k ih=>
   intro n hk hn
   by_cases ho:n=Qz
   ·rw[ho];exact h0
   ·have hs:=Qgl (Q1s hw) hn ho
    have:=Qvv (Q1s hw) (Qij hw) hn hs
    have hks:=(Qp1 (Q1s hw) hn).resolve_left hs
    exact h1 n hn ho hks (ih _ Za hks)
 exact fun n hn=>key _ n (Nat.le_refl _) hn
theorem Qnw(hw:Qx l=true):Qu l Qz=[Qz]:=by
 unfold Qu;rw[Qvf (Q1s hw) rfl];rfl
theorem Qtt:isKnown l Qz=true:=Q54 (by rw[Q3h.1];omega)
set_option maxHeartbeats 4000000 in
set_option maxHeartbeats 4000000 in
end
end Go.Proofs
namespace Go.Proofs
open Go Go.Ev
structure Fnd where
 c:Str
 p:Int
 e:Int
 deriving DecidableEq,Inhabited
def eFd(x:Fnd):V:= .agg [.str x.c,.int .i64 x.p,.int .i64 x.e]
attribute [simp] eFd
def Qjv:Fnd:=⟨[],0,8⟩
def Qh7:Str:=[40,41,86]
def Q12h(n d:Str):Mth:=⟨n,d,false,false,false,0,0,[],[]⟩
theorem Qvo(n d:Str):Wk (.agg [.str n,.str d,.bool false,.bool false,.bool false,.int .i64 0,.int .i64 0,.raw (.slice none 0 0),.raw (.slice none 0 0)]) (eM (Q12h n d)):=
 Wk.agg (.cons (Wk.refl _) (.cons (Wk.refl _) (.cons (Wk.refl _) (.cons (Wk.refl _) (.cons (Wk.refl _) (.cons (Wk.refl _) (.cons (Wk.refl _) (.cons (Wk.nilSlice _ _) (.cons (Wk.nilSlice _ _) .nil)))))))))
def fmL(l:List Cls)(n d:Str):List Str→Fnd×Mth
 |[]=>(Qjv,zM)
 |x::xs=>if 0≤Q1a n d (Q1u l x).methods 0 then (⟨x,Q1a n d (Q1u l x).methods 0,0⟩,atL (Q1u l x).methods (Q1a n d (Q1u l x).methods 0).toNat)
  else if n=Qm then (if bIn x=true∧d=Qh7 then (⟨x,-1,0⟩,Q12h Qm d) else (Qjv,zM)) else fmL l n d xs
def fmU(l:List Cls)(n d:Str)(k:Int):Fnd:=if k<0 then Qjv else (fmL l n d (Qu l (Q8z l k))).1
theorem Qgx{n d:Str}:Q1a n d [] 0= -1:=rfl
theorem Qma{l:List Cls}(h:P12 l){x:Str}(hb:0≤Q1v x):Q1u l x=zC:=Q6q (by have:=(Q7n (fun k hk=>(h k hk).1) hb).1;omega)
theorem Qol{l:List Cls}(h:P12 l){x:Str}(hb:0≤Q1v x):Q2m l x=[]∨0≤Q1v (Q2m l x):=by
 rw[(Q7n (fun k hk=>(h k hk).1) hb).2]
 split
 ·exact .inl rfl
 ·split
  ·exact .inr (by rw[Q3h.1];omega)
  ·exact .inr (by rw[Q3h.2.1];omega)
theorem Qxy{l:List Cls}(hw:Qx l=true){n d:Str}(hn:n≠Qm): ∀x,isKnown l x=true→0≤Q1v x→fmL l n d (Qu l x)=(Qjv,zM):=by
 have one: ∀x (xs:List Str),0≤Q1v x→fmL l n d (x::xs)=fmL l n d xs:=fun x xs hb=>by
  simp only[fmL]
  rw[Qma (Q1s hw) hb,if_neg (by show¬0≤Q1a n d [] 0;rw[Qgx];omega),if_neg hn]
 refine Qnx hw ?_ ?_
 ·intro hb;rw[Qnw hw,one _ _ hb];rfl
 ·intro x hx hxo _ ih hb
  rw[Q7t hw hx,one _ _ hb]
  rcases Qol (Q1s hw) hb with e|e
  ·exact absurd e (Qgl (Q1s hw) hx hxo)
  ·exact ih e
theorem Qlh{l:List Cls}{k:Int}(h0:0≤k)(h1:k<l.length):isKnown l (Q8z l k)=true:=Qra h0 h1
theorem Q121{l:List Cls}(hw:Qx l=true){c n d:Str}(h: ¬(0≤Q1v c∧n=Qm∧d=Qh7)):fmU l n d (Qk c l 0)=(fmL l n d (Qu l c)).1:=by
 unfold fmU
 by_cases hf:Qk c l 0<0
 ·rw[if_pos hf]
  by_cases hb:0≤Q1v c
  ·have hk:=Q54 (l:=l) hb
   by_cases hn:n=Qm
   ·rw[Q7t hw hk]
    simp only[fmL]
    rw[Qma (Q1s hw) hb,if_neg (by show¬0≤Q1a n d [] 0;rw[Qgx];omega),if_pos hn,if_neg (fun e=>h ⟨hb,hn,e.2⟩)]
   ·rw[Qxy hw hn c hk hb]
  ·rw[Qmb (by simp[isKnown];omega)];rfl
 ·rw[if_neg hf]
  obtain ⟨i,hi,e1,e2,_⟩:=Q5t (l:=l) (n:=c) Za
  rw[e1,Q2c hi,e2]
theorem Q122{l:List Cls}(hw:Qx l=true){c n d:Str}(hb:0≤Q1v c)(hn:n=Qm)(hd:d=Qh7):(fmL l n d (Qu l c)).1=⟨c,-1,0⟩:=by
 rw[Q7t hw (Q54 hb)]
 simp only[fmL]
 rw[Qma (Q1s hw) hb,if_neg (by show¬0≤Q1a n d [] 0;rw[Qgx];omega),if_pos hn,if_pos ⟨by simp[bIn,hb],hd⟩]
theorem Qyz{l:List Cls}{n d:Str}{k:Int}(h:k<0):fmU l n d k=Qjv:=if_pos h
theorem Q159{l:List Cls}(hw:Qx l=true){n d:Str}{k:Nat}(hk:k<l.length):
  fmU l n d k=if 0≤Q1a n d l[k].methods 0 then ⟨l[k].name,Q1a n d l[k].methods 0,0⟩ else if n=Qm then Qjv else fmU l n d (nxt l k):=by
 have hp:=Q1s hw
 have hkn:=Qlh (l:=l) (k:=(k:Int)) Za Za
 unfold fmU
 rw[if_neg Za,Q7t hw hkn]
 simp only[fmL]
 rw[Qe7 hp hk,Q2c hk]
 by_cases h1:0≤Q1a n d l[k].methods 0
 ·rw[if_pos h1,if_pos h1]
 ·rw[if_neg h1,if_neg h1]
  by_cases h2:n=Qm
  ·rw[if_pos h2,if_pos h2,if_neg]
   rintro ⟨e,_⟩
   have:=Qbi hk (hp k hk).1
   simp[bIn] at e;omega
  ·rw[if_neg h2,if_neg h2]
   by_cases h3:nxt l k<0
   ·rw[if_pos h3]
    obtain ⟨e1,e2⟩:=Q7m hp hk
    rw[e1]
    rcases e2 with ⟨_,e|e⟩|⟨j,hj,e4,_⟩
    ·rw[e,Qxy hw h2 _ Qtt (by rw[Q3h.1];omega)]
    ·rw[e,Qxy hw h2 _ (Q54 (by rw[Q3h.2.1];omega)) (by rw[Q3h.2.1];omega)]
    ·omega
   ·rw[if_neg h3]
    have:=Ql9 hp (k:=(k:Int)) Za Za Za
    rw[Q2c hk] at this
    rw[this]
def rkU(l:List Cls)(k:Int):Nat:=if k<0 then 0 else rk l (Q8z l k)+1
theorem Qxd{l:List Cls}(hw:Qx l=true){k:Nat}(hk:k<l.length):rkU l (nxt l k)<rkU l k:=by
 unfold rkU
 rw[if_neg (show¬(k:Int)<0 from by omega)]
 by_cases h3:nxt l k<0
 ·rw[if_pos h3];omega
 ·rw[if_neg h3]
  have hkn:=Qlh (l:=l) (k:=(k:Int)) Za Za
  have:=Ql9 (Q1s hw) (k:=(k:Int)) Za Za Za
  have h2:=Qvv (Q1s hw) (Qij hw) hkn (by
   rw[this];intro e
   have h4:=Qlh (l:=l) (k:=nxt l k) Za Qay.2
   rw[e,Q4m (Q1s hw)] at h4;cases h4)
  rw[this] at h2;omega
end Go.Proofs
namespace Go.Proofs
open Go Go.Ev
theorem Q10z{z:Int}{n:Nat}(h:0≤sub z n):(n:Int)≤z∧sub z n=z-n:=by
 unfold sub at h⊢;split at h<;>omega
structure Frm where
 stack:List Typ
 locals:List Typ
 deriving DecidableEq,Inhabited
def eFr(x:Frm):V:= .agg [.lst false 3 (x.stack.map eT),.lst false 3 (x.locals.map eT)]
def oFr(x:Frm):V:= .agg [.lst true 3 (x.stack.map eT),.lst true 3 (x.locals.map eT)]
attribute [simp] eFr oFr
def Qjt(x:Frm):Nat:=(x.stack.length+(x.stack.map Qla).sum)+(x.locals.length+(x.locals.map Qla).sum)
def Qmt(x:Frm):Prop:=x.stack.length<4611686018427387904∧(∀y∈x.stack,Qy6 y)∧x.locals.length<4611686018427387904∧(∀y∈x.locals,Qy6 y)
@[simp] theorem pureL_eFr (l:List Frm):Q2t (l.map eFr)=true:=Q63 _ (fun _=>rfl) l
@[simp] theorem fzL_eFr (l:List Frm):fzL (l.map eFr)=l.map eFr:=Q9e _ (fun _=>rfl) l
@[simp] theorem jkL_eFr (p:Nat→Bool) (l:List Frm):jkL p (l.map eFr)=l.map eFr:=Q6w p _ (fun _=>rfl) l
def Qev(l:List Cls)(f:Frm):Bool:=decide (f.stack.length≤16)&&(decide (f.locals.length≤16)&&(f.stack.all (Q16 l)&&f.locals.all (Q16 l)))
def Q8u(l:List Cls)(f:Frm):Bool:=Qx l&&Qev l f
theorem Q141{α:Type}(p:α→Bool)(l:List α):(l.any fun x=> !p x)= !l.all p:=Qi6 p l
end Go.Proofs
namespace Go.Proofs
open Go Go.Ev
def Quz:Nat→Str→Str
 |0,a=>a
 |k+1,a=>Quz ((k+1)/10) (UInt8.ofNat (48+(k+1)%10)::a)
 termination_by k=>k
 decreasing_by omega
def Q6v(k:Nat):Str:=if k=0 then [109,48] else 109::Quz k []
theorem Q13l{k:Nat}{a:Str}(h:0<k):Quz k a=Quz (k/10) (UInt8.ofNat (48+k%10)::a):=by
 obtain ⟨j,rfl⟩: ∃j,k=j+1:=⟨k-1,by omega⟩
 rw[Quz]
theorem Q105(a:Str):Quz 0 a=a:=by rw[Quz]
def mks{α:Type}(f:Nat→α)(c:Nat)(k:Nat):Nat→List α
 |0=>[]
 |n+1=>f k::mks f c (k+c) n
theorem Q2z{α:Type}{f:Nat→α}{c:Nat}: ∀(n k:Nat),(mks f c k n).length=n
 |0,_=>rfl
 |n+1,k=>by simp[mks,Q2z n]
theorem Qgy{α:Type}{f:Nat→α}{c:Nat}: ∀(n k:Nat),mks f c k (n+1)=mks f c k n++[f (k+c*n)]
 |0,k=>by simp[mks]
 |n+1,k=>by
  rw[mks,Qgy n (k+c),mks,List.cons_append]
  rw[show k+c+c*n=k+c*(n+1) from by rw[Nat.mul_add];omega]
theorem Qxp{Y:List V}{i:Nat}(h:Y.length=i)(x:V)(Z:List V):(Y++x::Z)[i]? =some x:=by subst h;simp
theorem Qxo{Y:List V}{i:Nat}(h:Y.length=i)(x y:V)(Z:List V):(Y++x::Z).set i y=Y++y::Z:=by subst h;simp
def mkT(k:Nat):Typ:=⟨k,Q6v (k+1),((k+2:Nat):Int)⟩
def mkF(k:Nat):Fld:=⟨Q6v k,Q6v (k+1),decide ((k+2)%3=0)⟩
def mkI(k:Nat):Ins:=⟨k,((k+1:Nat):Int),Q6v (k+2),Q6v (k+3),Q6v (k+4)⟩
def mkH(k:Nat):Hdl:=⟨k,((k+1:Nat):Int),((k+2:Nat):Int),Q6v (k+3)⟩
end Go.Proofs
namespace Go.Proofs
open Go Go.Ev
theorem Q129(j:Nat):(IntKind.u8.wrap (IntKind.i64.wrap (48+(j:Int).tmod 10))).toNat=48+j%10:=by
 have e:(j:Int).tmod 10=((j%10:Nat):Int):=by rw[Int.tmod_eq_emod_of_nonneg Za];omega
 rw[e,Q7 Za Za]
 have:IntKind.u8.wrap (48+((j%10:Nat):Int))=48+((j%10:Nat):Int):=by
  unfold IntKind.wrap
  simp[IntKind.signed,IntKind.bits]
  omega
 rw[this];omega
theorem mod3(k:Nat):decide ((k:Int).tmod 3=0)=decide (k%3=0):=by
 have e:(k:Int).tmod 3=((k%3:Nat):Int):=by rw[Int.tmod_eq_emod_of_nonneg Za];omega
 rw[e,Bool.eq_iff_iff];simp;omega
theorem Qip{α:Type}{e:α→V}(h: ∀n x,(e x).lim n=true)(n:Nat)(l:List α):Q65 n (l.map e)=true:=by
 rw[Qwg];simp[h]
@[simp] theorem lim_T (n:Nat) (l:List Typ):Q65 n (l.map eT)=true:=Qip (fun n x=>by simp[eT,V.lim,Q65]) n l
@[simp] theorem lim_F (n:Nat) (l:List Fld):Q65 n (l.map eF)=true:=Qip (fun n x=>by simp[eF,V.lim,Q65]) n l
@[simp] theorem lim_I (n:Nat) (l:List Ins):Q65 n (l.map eI)=true:=Qip (fun n x=>by simp[eI,V.lim,Q65]) n l
@[simp] theorem lim_H (n:Nat) (l:List Hdl):Q65 n (l.map eH)=true:=Qip (fun n x=>by simp[eH,V.lim,Q65]) n l
theorem Qbn{α:Type}{e:α→V}(g:Nat→Option Nat)(h: ∀x,(e x).mapId g=e x)(l:List α):Q6u g (l.map e)=l.map e:=by
 rw[Qby,List.map_map]
 exact List.map_congr_left (fun x _=>h x)
@[simp] theorem mapL_T (g:Nat→Option Nat) (l:List Typ):Q6u g (l.map eT)=l.map eT:=Qbn g (fun _=>rfl) l
@[simp] theorem mapL_F (g:Nat→Option Nat) (l:List Fld):Q6u g (l.map eF)=l.map eF:=Qbn g (fun _=>rfl) l
@[simp] theorem mapL_I (g:Nat→Option Nat) (l:List Ins):Q6u g (l.map eI)=l.map eI:=Qbn g (fun _=>rfl) l
@[simp] theorem mapL_H (g:Nat→Option Nat) (l:List Hdl):Q6u g (l.map eH)=l.map eH:=Qbn g (fun _=>rfl) l
@[simp] theorem mapL_M (g:Nat→Option Nat) (l:List Mth):Q6u g (l.map oM)=l.map oM:=Qbn g (fun _=>rfl) l
@[simp] theorem mapL_C (g:Nat→Option Nat) (l:List Cls):Q6u g (l.map oC)=l.map oC:=Qbn g (fun _=>rfl) l
end Go.Proofs
namespace Go.Proofs
open Go Go.Ev
theorem Q13k{α:Type}{f:Nat→α}{c k n i:Nat}(h:i<n)(h':i<(mks f c k n).length):(mks f c k n)[i]=f (k+c*i):=by
 induction n generalizing k i with
 |zero=>omega
 |succ n ih=>
  cases i with
  |zero=>simp[mks]
  |succ i=>
   simp only[mks,List.getElem_cons_succ]
   rw[ih Za]
   rw[show k+c+c*i=k+c*(i+1) from by rw[Nat.mul_add];omega]
structure FrO where
 f:Frm
 code:Int
 deriving DecidableEq,Inhabited
def eFo(x:FrO):V:= .agg [.lst false 3 (x.f.stack.map eT),.lst false 3 (x.f.locals.map eT),.int .i64 x.code]
def oFo(x:FrO):V:= .agg [.lst true 3 (x.f.stack.map eT),.lst true 3 (x.f.locals.map eT),.int .i64 x.code]
attribute [simp] eFo oFo
def zFo(c:Int):FrO:=⟨⟨[],[]⟩,c⟩
def Q12g(x:FrO):Prop:=x.f.stack.length<4611686018427387904∧x.f.locals.length<4611686018427387904
end Go.Proofs
namespace Go.Proofs
open Go Go.Ev
theorem Qxn{p:Nat→Bool}{x:V}{Y Z:List V}(hY:jkL p Y=Y)(hZ:jkL p Z=Z):jkL p (Y++x::Z)=Y++x.jk p::Z:=by
 rw[Qbj] at hY hZ⊢
 rw[List.map_append,List.map_cons,hY,hZ]
@[simp] theorem lim_M (n:Nat) (l:List Mth):Q65 n (l.map oM)=true:=Qip (fun n x=>by simp[oM,V.lim,Q65]) n l
@[simp] theorem lim_C (n:Nat) (l:List Cls):Q65 n (l.map oC)=true:=Qip (fun n x=>by simp[oC,V.lim,Q65]) n l
theorem Q16m(p:Nat→Bool)(l:List Mth):jkL p (l.map oM)=l.map oM:=Q6w p oM (fun _=>rfl) l
theorem Q16n(p:Nat→Bool)(l:List Cls):jkL p (l.map oC)=l.map oC:=Q6w p oC (fun x=>by simp[oC,V.pure,Q2t]) l
def Qvd(x:Mth):Nat:=7+5*x.code.length+4*x.hdls.length
def Q70:List Mth→Nat
 |[]=>0
 |x::l=>Qvd x+Q70 l
def mkM(k:Nat)(x:Mth):Mth:=⟨Q6v k,Q6v (k+1),decide ((k+2)%3=0),decide ((k+3)%3=0),decide ((k+4)%3=0),((k+5:Nat):Int),((k+6:Nat):Int),mks mkI 5 (k+7) x.code.length,mks mkH 4 (k+7+5*x.code.length) x.hdls.length⟩
def Qiv(k:Nat):List Mth→List Mth
 |[]=>[]
 |x::l=>mkM k x::Qiv (k+Qvd x) l
theorem Qkh: ∀{l:List Mth} {i:Nat} (h:i<l.length),Q70 (l.take (i+1))=Q70 (l.take i)+Qvd l[i]
 |x::l,0,_=>by simp[Q70]
 |x::l,i+1,h=>by
  have:=Qkh (l:=l) (i:=i) (by simpa using h)
  simp only[List.take_succ_cons,Q70,List.getElem_cons_succ]
  omega
theorem Qtp: ∀{l:List Mth} {k i:Nat} (h:i<l.length),Qiv k (l.take (i+1))=Qiv k (l.take i)++[mkM (k+Q70 (l.take i)) l[i]]
 |x::l,k,0,_=>by simp[Q70,Qiv]
 |x::l,k,i+1,h=>by
  have:=Qtp (l:=l) (k:=k+Qvd x) (i:=i) (by simpa using h)
  simp only[List.take_succ_cons,Qiv,Q70,List.getElem_cons_succ,List.cons_append]
  rw[this,Nat.add_assoc]
theorem Q8b: ∀{l:List Mth} {k:Nat},(Qiv k l).length=l.length
 |[],_=>rfl
 |x::l,k=>by simp[Qiv,Q8b]
theorem Qbs{α:Type}{f:Nat→α}{e:α→V}{c k n:Nat}:((mks f c k n).map e).take n=(mks f c k n).map e:=List.take_of_length_le (by simp[Q2z])
theorem Qa0{l:List Mth}{k:Nat}:((Qiv k l).map oM).take l.length=(Qiv k l).map oM:=List.take_of_length_le (by simp[Q8b])
theorem Qkg: ∀(l:List Mth) (i:Nat),Q70 (l.take i)≤Q70 l
 |[],i=>by simp
 |x::l,0=>by simp[Q70]
 |x::l,i+1=>by simp only[List.take_succ_cons,Q70];have:=Qkg l i;omega
theorem Q12b(l:List Mth)(i:Nat)(h:i<l.length):Q70 (l.take i)+Qvd l[i]≤Q70 l:=by
 rw[←Qkh h];exact Qkg l _
def Qve(x:Cls):Nat:=4+3*x.fields.length+Q70 x.methods
def Q6m:List Cls→Nat
 |[]=>0
 |x::l=>Qve x+Q6m l
def mkC(k:Nat)(x:Cls):Cls:=⟨Q6v k,Q6v (k+1),decide ((k+2)%3=0),decide ((k+3)%3=0),mks mkF 3 (k+4) x.fields.length,Qiv (k+4+3*x.fields.length) x.methods⟩
def Qpb(k:Nat):List Cls→List Cls
 |[]=>[]
 |x::l=>mkC k x::Qpb (k+Qve x) l
theorem Qkj: ∀{l:List Cls} {i:Nat} (h:i<l.length),Q6m (l.take (i+1))=Q6m (l.take i)+Qve l[i]
 |x::l,0,_=>by simp[Q6m]
 |x::l,i+1,h=>by
  have:=Qkj (l:=l) (i:=i) (by simpa using h)
  simp only[List.take_succ_cons,Q6m,List.getElem_cons_succ]
  omega
theorem Qtq: ∀{l:List Cls} {k i:Nat} (h:i<l.length),Qpb k (l.take (i+1))=Qpb k (l.take i)++[mkC (k+Q6m (l.take i)) l[i]]
 |x::l,k,0,_=>by simp[Q6m,Qpb]
 |x::l,k,i+1,h=>by
  have:=Qtq (l:=l) (k:=k+Qve x) (i:=i) (by simpa using h)
  simp only[List.take_succ_cons,Qpb,Q6m,List.getElem_cons_succ,List.cons_append]
  rw[this,Nat.add_assoc]
theorem Qwe: ∀{l:List Cls} {k:Nat},(Qpb k l).length=l.length
 |[],_=>rfl
 |x::l,k=>by simp[Qpb,Qwe]
theorem Qki: ∀(l:List Cls) (i:Nat),Q6m (l.take i)≤Q6m l
 |[],i=>by simp
 |x::l,0=>by simp[Q6m]
 |x::l,i+1=>by simp only[List.take_succ_cons,Q6m];have:=Qki l i;omega
theorem Q12c(l:List Cls)(i:Nat)(h:i<l.length):Q6m (l.take i)+Qve l[i]≤Q6m l:=by
 rw[←Qkj h];exact Qki l _
theorem Qu7: ∀l:List Mth,l.length≤Q70 l
 |[]=>by simp
 |x::l=>by have:=Qu7 l;simp only[List.length_cons,Q70,Qvd];omega
theorem Qu8: ∀l:List Cls,l.length≤Q6m l
 |[]=>by simp
 |x::l=>by have:=Qu8 l;simp only[List.length_cons,Q6m,Qve];omega
theorem Qs4: ∀l:List Mth,Q70 l≤7*(l.length+(l.map Q3t).sum)
 |[]=>by simp[Q70]
 |x::l=>by
  have:=Qs4 l
  simp only[List.length_cons,List.map_cons,List.sum_cons,Q70,Qvd,Q3t];omega
theorem Qs5: ∀l:List Cls,Q6m l≤7*(l.length+(l.map Q1n).sum)
 |[]=>by simp[Q6m]
 |x::l=>by
  have:=Qs5 l
  have:=Qs4 x.methods
  simp only[List.length_cons,List.map_cons,List.sum_cons,Q6m,Qve,Q1n];omega
attribute [simp] Go.Ev.seen
theorem Qoo{α:Type}{f:α→V}(h: ∀x,(f x).solid=true): ∀l:List α,Q3z (l.map f)=true
 |[]=>rfl
 |x::l=>by simp[Q3z,h x,Qoo h l]
@[simp] theorem solidL_T (l:List Typ):Q3z (l.map eT)=true:=Qoo (fun _=>rfl) l
@[simp] theorem nn5 {a b c d e:Nat}:(0≤1+(a:Int)+3*(b:Int)+3*(c:Int)+3*(d:Int)+3*(e:Int))=True:=by simp;omega
attribute [simp] Q2z Qbs Q8b Qa0
end Go.Proofs
namespace Go.Proofs
open Go Go.Ev
def Q3c(t:Str):Typ:=
 if Q1k t=true then (if t=[73] then ⟨1,[],0⟩ else if t=[91,73] then ⟨4,[],0⟩ else if Q28 t 0 91=true then ⟨5,Q1c t,0⟩ else ⟨3,Q1c t,0⟩) else zT
theorem Ql5{t:Str}(h:Q1k t=true)(h1:t≠[73])(h2:t≠[91,73]):Q1c t≠[]:=by
 obtain ⟨a,b,e⟩:=Ql6 h h1 h2
 rw[e]
 intro hn
 have hl:([]:Str).length=0:=rfl
 rw[←hn] at hl
 split at hl
 ·rename_i h9
  have:=b h9
  simp[seg] at hl
  omega
 ·simp[seg] at hl
  omega
theorem Qeh{t:Str}(h:Q1c t≠[]):Q1k t=true∧t≠[73]∧t≠[91,73]:=by
 have: ¬(Q1k t=true→(t=[73]∨t=[91,73])):=fun h1=>h (Ql4 h1)
 refine ⟨?_,?_,?_⟩
 ·by_cases h1:Q1k t=true
  ·exact h1
  ·exact absurd (fun h2=>absurd h2 h1) this
 ·exact fun h1=>this (fun _=> .inl h1)
 ·exact fun h1=>this (fun _=> .inr h1)
theorem Qvq{t:Str}(h:Q1c t=[])(h1:t≠[73])(h2:t≠[91,73]):Q3c t=zT:=by
 unfold Q3c
 rw[if_neg (fun e=>Ql5 e h1 h2 h)]
theorem is91{t:Str}(h:0<t.length):(Q28 t 0 91=true)↔(atD t 0).toNat=91:=by rw[Q3a h,Qc h];simp
theorem Q14j{t:Str}:(1≤t.length∧t.take 1=[91])↔Q28 t 0 91=true:=by
 cases t with
 |nil=>simp[Q28]
 |cons a l=>
  rw[Q3a Z3]
  simp[←UInt8.toNat_inj]
theorem Qyj:Q1k [73]=true:=by decide
theorem Qyk:Q1k [91,73]=true:=by decide
def Q4l(l:List Cls)(c m:Int):Bool:=decide (0≤c∧c<l.length)&&decide (0≤m∧m<(atL l c.toNat).methods.length)
theorem Q8q(l:List Cls)(c m:Int):
  (¬0≤c∧True∧Q4l l c m=false)∨(∃i:Nat,c=i∧ ¬i<l.length∧True∧Q4l l i m=false)∨
  (∃i:Nat,c=i∧ ∃h:i<l.length,¬0≤m∧Q4l l i m=false)∨
  (∃i j:Nat,c=i∧m=j∧ ∃h:i<l.length,¬j<l[i].methods.length∧Q4l l i j=false)∨
  (∃i j:Nat,c=i∧m=j∧ ∃h:i<l.length,j<l[i].methods.length∧Q4l l i j=true):=by
 by_cases hc:0≤c
 ·obtain ⟨i,rfl⟩: ∃i:Nat,c=i:=⟨c.toNat,by omega⟩
  by_cases hi:i<l.length
  ·by_cases hm:0≤m
   ·obtain ⟨j,rfl⟩: ∃j:Nat,m=j:=⟨m.toNat,by omega⟩
    by_cases hj:j<l[i].methods.length
    ·exact .inr (.inr (.inr (.inr ⟨i,j,rfl,rfl,hi,hj,by simp[Q4l,hi,Qb hi,hj]⟩)))
    ·exact .inr (.inr (.inr (.inl ⟨i,j,rfl,rfl,hi,hj,by simp[Q4l,hi,Qb hi];omega⟩)))
   ·exact .inr (.inr (.inl ⟨i,rfl,hi,hm,by simp[Q4l,hm]⟩))
  ·exact .inr (.inl ⟨i,rfl,hi,trivial,by simp[Q4l,hi]⟩)
 ·exact .inl ⟨hc,trivial,by simp[Q4l,hc]⟩
def Qwv(l:List Cls)(c m:Int):Cls:=if Q4l l c m=true then atL l c.toNat else zC
def Q52(l:List Cls)(c m:Int):Mth:=if Q4l l c m=true then (atL l c.toNat).methods.getD m.toNat zM else zM
theorem Qii{l:List Cls}(h:Qx l=true){i j:Nat}(hi:i<l.length)(hj:j<l[i].methods.length):Q3d l[i].methods[j]=true:=by
 have:=(Qbm h).1 i hi
 simp only[Q64,Qb hi] at this
 split at this
 ·rename_i h1
  simp only[Q49,Bool.and_eq_true] at h1
  exact (Qn4 h1.2.2 _ (List.getElem_mem hj)).1
 ·cases this
theorem Qlj{m:Mth}(h:Q3d m=true):Q4g m=true:=by
 by_cases h1:Q4g m=true
 ·exact h1
 ·rw[Qct (by simpa using h1)] at h;cases h
theorem Q10a{m:Mth}(h:Q4g m=true):m.desc.length≤20000∧Qg m.desc=Q1g m.desc:=by
 simp only[Q4g,Bool.and_eq_true,decide_eq_true_eq] at h
 have h2:=h.1.2
 by_cases h3:20000<m.desc.length
 ·unfold Qg at h2;rw[if_pos h3] at h2;cases h2
 ·exact ⟨by omega,by unfold Qg;rw[if_neg h3]⟩
theorem Q8t{l:List Cls}{i j:Nat}(hT:Q4l l i j=true)(hi:i<l.length)(hj:j<l[i].methods.length):Q52 l i j=l[i].methods[j]:=by
 unfold Q52;rw[if_pos hT];simp[Qb hi,hj]
theorem Qp5{l:List Cls}{i j:Nat}(hT:Q4l l i j=true)(hi:i<l.length):Qwv l i j=l[i]:=by
 unfold Qwv;rw[if_pos hT];simp[Qb hi]
theorem Q11o{l:List Cls}{i:Nat}(h:i<l.length):l[i].methods.length≤Q1r l:=by
 have:=Q4v h
 simp only[Q1n] at this
 omega
@[simp] theorem nn1 {a:Nat}:(0≤1+(a:Int))=True:=by simp;omega
end Go.Proofs
namespace Go.Proofs
open Go Go.Ev Go.RowKit Go.Shelf
attribute [local go_sem] Oper.semAt_some
def Kp2(x b:Nat)(A B:World):Prop:=B.heap[x]? =A.heap[x]? ∧B.heap[b]? =A.heap[b]?
theorem Kp2.trans{x b:Nat}{A B C:World}(h:Kp2 x b A B)(k:Kp2 x b B C):Kp2 x b A C:=⟨k.1.trans h.1,k.2.trans h.2⟩
theorem Qua{A B:World}{p:Addr}(h:B.heap[p.block]? =A.heap[p.block]?):B.cell? p=A.cell? p:=by simp[World.cell?,h]
set_option maxRecDepth 100000 in
set_option maxHeartbeats 2000000 in
theorem Q12i(F:Fence)(n:Nat)(h7:F.fn 334)(hro:F.round=none)(hn:1≤n)(l Bs bo b off len cap:Nat)(g:Nat→Value)(hreach:len≤1099511627776)(J:Nat→World→Prop)
  (hY: ∀(k:Nat) (W:World),J k W→k<len→YieldAt F (n-1) Tryz.prog l #[.int .i64 ((len:Int)-1-(k:Int)),g (len-1-k)] W fun e W'=>e= .returned (.bool true)∧J (k+1) W'∧Kp2 Bs b W W')
  (W:World) (hBs:W.cell? ⟨Bs,bo,none⟩=some (.slice (some ⟨b,off,none⟩) len cap)) (hc: ∀j,j<len→W.cell? ⟨b,off+j,none⟩=some (g j)) (h0:J 0 W):
  CallsIn F n Tryz.prog 334 #[.func (.yield l) #[] #[],.pointer (some ⟨Bs,bo,none⟩)] W fun e W'=>(∃v,e= .returned v)∧J len W':=by
 refine callsIn_of_wp Tryz.func334 rfl h7 ?_ hro
 simp only[Tryz.ntmps334,List.size_toArray,List.length_cons,List.length_nil,Nat.reduceAdd,Nat.reduceSub,Array.replicate_succ,Array.replicate_zero,List.push_toArray,List.append_toArray,List.nil_append,List.cons_append]
 gi_wp2
 gi_loopw [3] (fun i wr=> ∃k:Nat,k≤len∧i= .int .i64 ((len:Int)-1-(k:Int))∧J k wr∧Kp2 Bs b W wr)
  (fun i _=>(intOf i+1).toNat)
 case atStart=>exact ⟨0,Nat.zero_le _,by simp,h0,⟨rfl,rfl⟩⟩
 case round=>
  obtain ⟨k,hk,rfl,hJs,hnx⟩:=hrel
  have hbx:wr.cell? ⟨Bs,bo,none⟩=some (.slice (some ⟨b,off,none⟩) len cap):=(Qua (p:=⟨Bs,bo,none⟩) hnx.1).trans hBs
  by_cases hlt:k<len
  ·obtain ⟨fn,tmps,assign,body,hy,hR⟩:=hY k wr hJs hlt
   have hcx:wr.cell? ⟨b,off+(len-1-k),none⟩=some (g (len-1-k)):=(Qua (p:=⟨b,off+(len-1-k),none⟩) hnx.2).trans (hc _ Za)
   gi_wp2
   refine hR.mono ?_
   rintro e W3 ⟨rfl,hJ3,hk3⟩
   gi_wp2
   go_roundw
   case rel=>exact ⟨k+1,by omega,by simp;omega,hJ3,hnx.trans hk3⟩
   case measure=>simp[intOf];omega
  ·obtain rfl:k=len:=by omega
   gi_wp2
   go_end0
   exact ⟨⟨_,rfl⟩,hJs⟩
set_option maxRecDepth 100000 in
set_option maxHeartbeats 2000000 in
theorem Q12j(F:Fence)(n:Nat)(h7:F.fn 334)(hro:F.round=none)(l Bs bo cap:Nat)(ad:Option Addr)(J:List Nat→World→Prop)(W:World)(hBs:W.cell? ⟨Bs,bo,none⟩=some (.slice ad 0 cap))(h0:J [] W):
  CallsIn F n Tryz.prog 334 #[.func (.yield l) #[] #[],.pointer (some ⟨Bs,bo,none⟩)] W fun e W'=>(∃v,e= .returned v)∧J [] W':=by
 refine callsIn_of_wp Tryz.func334 rfl h7 ?_ hro
 simp only[Tryz.ntmps334,List.size_toArray,List.length_cons,List.length_nil,Nat.reduceAdd,Nat.reduceSub,Array.replicate_succ,Array.replicate_zero,List.push_toArray,List.append_toArray,List.nil_append,List.cons_append]
 gi_wp2
 gi_loopw [3] (fun i wr=>i= .int .i64 (-1)∧J [] wr) (fun _ _=>0)
 case atStart=>exact ⟨rfl,h0⟩
 case round=>
  obtain ⟨rfl,hJs⟩:=hrel
  gi_wp2
  go_end0
  exact ⟨⟨_,rfl⟩,hJs⟩
theorem Q13x:Qya Tryz.prog 334:=by
 intro l Bs bo b len cap ad gv J W hlen hc hg hY h0
 rcases hg with rfl|⟨off,rfl,hcs⟩
 ·exact (Q12j Fence.wide 1 trivial rfl l Bs bo cap ad (fun _ W=>J 0 W) W hc h0).mono fun e W' ⟨he,hj⟩=>⟨he,hj⟩
 ·exact Q12i Fence.wide 1 trivial rfl (Nat.le_refl _) l Bs bo b off len cap gv hlen J hY W hc hcs h0
set_option maxRecDepth 100000 in
set_option maxHeartbeats 1000000 in
theorem Q13y(ad:Option Addr)(len cap:Nat)(w:World):
  CallsIn Fence.wide 0 Tryz.prog 329 #[.slice ad len cap] w fun e w'=>e= .returned (.func (.func 334) #[] #[.pointer (some ⟨w.heap.size,0,none⟩)])∧w'=w.alloc (.cells #[.slice ad len cap] 134):=by
 refine callsIn_of_wp Tryz.func329 rfl trivial ?_ rfl
 simp only[Tryz.ntmps329,List.size_toArray,List.length_cons,List.length_nil,Nat.reduceAdd,Nat.reduceSub,Array.replicate_succ,Array.replicate_zero,List.push_toArray,List.append_toArray,List.nil_append,List.cons_append]
 gi_wp2
 go_ret
 exact ⟨rfl,rfl⟩
theorem Q15e{X:Ctx}{m:Mp}{cn:Nat→Cnt}{w:World}{xs:List V}{v:Value}{ob:List Ob}(hi:Inv X w ob m cn)(hv:v.oneCell'=true)(h:R w (frz X cn) m (.one (.lst false 1 xs) v) z0):
  R (w.alloc (.cells #[v] 134)) (frz X cn) m (.one (.clo (.func 334) [] [.fp [.lst false 1 xs]]) (.func (.func 334) #[] #[.pointer (some ⟨w.heap.size,0,none⟩)])) z0:=by
 have hsz:w.heap.size≤(w.alloc (.cells #[v] 134)).heap.size:=by simp
 have hf:frz X cn w.heap.size:=⟨.inr hi.le,fun id=>by
  rcases Nat.eq_zero_or_pos (cn id w.heap.size) with h0|h0
  ·exact h0
  ·have:=(hi.new id _ h0).1;omega⟩
 have h2:R (w.alloc (.cells #[v] 134)) (frz X cn) Q19 (.one (.lst false 1 xs) v) z0:=by
  generalize hz:z0=c at h
  cases h with
  |nil=>exact .nil
  |nilz=>exact .nilz
  |frz hl hb hk hn h=>exact .frz (Nat.lt_of_lt_of_le hl hsz) hb hk hn (h.mono hsz (fun b hb hf=>⟨hf,Qa9 hb⟩) (fun b hb=>absurd hb Z3) (.inr (Qa9 hl)) (fun id x hx=>by simp[Q19] at hx))
 have hc:(w.alloc (.cells #[v] 134)).cell? ⟨w.heap.size,0,none⟩=some v:=by
  have:=World.alloc_heap_new w (.cells #[v] 134)
  simp only[World.cell?,this]
  rfl
 exact .clo (c:=z0) (d:=z0) .lnil (.lcons (c:=z0) (d:=z0) (.fp Z3 hf (.ccons (c:=z0) (d:=z0) hc hv h2 .cnil (fun _=>rfl))) .lnil (fun _=>rfl)) (fun _=>rfl)
theorem Q9r:Q6 Tryz.prog 329:=jcb Tryz.func329
theorem Q9k{l:List Str}:Ct Tryz.prog 329 [.lst false 1 (l.map V.str)] [] (.clo (.func 334) [] [.fp [.lst false 1 (l.map V.str)]]) []:=by
 intro w fr m cn us hfr hi hR
 generalize hz:z0=c0 at hR
 cases hR with
 |lcons h1 h2 he=>
  rename_i u us c1 c2
  cases h2
  have e1:c1=z0:=funext fun y=>by have:=he y;rw[←hz] at this;simp[z0] at this⊢;omega
  subst e1
  have key: ∀ad len cap,u= .slice ad len cap→Calls Tryz.prog 329 #[u] w fun e w'=> ∃u m' cn' d,e= .returned u∧Inv ⟨w,fr,fun b=> ∃id,0<cn id b,m,0⟩ w' [] m' cn'∧
    R w' (frz ⟨w,fr,fun b=> ∃id,0<cn id b,m,0⟩ cn') m' (.one (.clo (.func 334) [] [.fp [.lst false 1 (l.map V.str)]]) u) d∧([]:List Ob).length=([]:List Ob).length∧ ∃n,([]:List Ob).length≤n∧ ∀z,d z≤cn' n z:=by
   rintro ad len cap rfl
   refine Calls.mono (callsIn_wide.1 (Q13y ad len cap w)) ?_
   rintro e w' ⟨rfl,rfl⟩
   obtain ⟨i1,_,_⟩:=hi.lay (a:=⟨#[],[]⟩) (tm:=[]) (W:=w.alloc (.cells #[.slice ad len cap] 134)) .lnil Z3 (fun b hb=>Qa9 hb) (nn:=0) Z3
   obtain ⟨i2,_⟩:=hi.back Z3 (fun b hb=>Qa9 hb) rfl rfl rfl (Nat.le_refl _) i1
   exact ⟨_,m,cn,z0,rfl,i2,Q15e hi rfl h1,rfl,0,Nat.zero_le _,fun z=>by simp[z0]⟩
  have hu: ∃ad len cap,u= .slice ad len cap:=by
   clear key
   generalize hy:V.lst false 1 (l.map V.str)=y at h1
   cases h1<;>first|exact ⟨_,_,_,rfl⟩|cases hy
  obtain ⟨ad,len,cap,e⟩:=hu
  exact key ad len cap e
end Go.Proofs
