/- Part 6 of what the proofs lean on: what the functions of the program and of the reference compute. Conditions: none. -/
import Derived.Test.YtkjgmpccmpmmiaaGreatK04
import Derived.Test.YtkjgmpccmpmmiaaGreatProg
set_option linter.all false
set_option linter.unusedVariables false
set_option linter.unusedSimpArgs false
set_option maxHeartbeats 2000000
set_option maxRecDepth 100000
namespace Go.Proofs
open Go Go.Ev
def TT:Nat→Option TI
 |2=>some ⟨.int .i64,1,8,.int .i64 0,false⟩
 |3=>some ⟨.int .i64,1,8,.int .i64 0,false⟩
 |4=>some ⟨.bool,1,1,.bool false,false⟩
 |5=>some ⟨.int .u8,1,1,.int .u8 0,false⟩
 |9=>some ⟨.str,1,16,.str [],false⟩
 |22=>some ⟨.slice 96,1,24,.raw (.slice none 0 0),false⟩
 |23=>some ⟨.slice 154,1,24,.raw (.slice none 0 0),false⟩
 |25=>some ⟨.struct [(0,23),(1,23)],2,48,.agg [.raw (.slice none 0 0),.raw (.slice none 0 0)],false⟩
 |28=>some ⟨.slice 137,1,24,.raw (.slice none 0 0),false⟩
 |30=>some ⟨.struct [(0,28),(1,28)],2,48,.agg [.raw (.slice none 0 0),.raw (.slice none 0 0)],false⟩
 |32=>some ⟨.struct [(0,30),(2,2)],3,56,.agg [.raw (.slice none 0 0),.raw (.slice none 0 0),.int .i64 0],false⟩
 |34=>some ⟨.slice 57,1,24,.raw (.slice none 0 0),false⟩
 |45=>some ⟨.struct [(0,2),(1,2),(2,2),(3,2)],4,32,.agg [.int .i64 0,.int .i64 0,.int .i64 0,.int .i64 0],true⟩
 |49=>some ⟨.slice 5,1,24,.raw (.slice none 0 0),false⟩
 |52=>some ⟨.struct [(0,2),(1,2)],2,16,.agg [.int .i64 0,.int .i64 0],true⟩
 |54=>some ⟨.slice 169,1,24,.raw (.slice none 0 0),false⟩
 |55=>some ⟨.slice 61,1,24,.raw (.slice none 0 0),false⟩
 |57=>some ⟨.struct [(0,9),(1,9),(2,4),(3,4),(4,54),(5,55)],6,88,.agg [.str [],.str [],.bool false,.bool false,.raw (.slice none 0 0),.raw (.slice none 0 0)],false⟩
 |58=>some ⟨.slice 76,1,24,.raw (.slice none 0 0),false⟩
 |59=>some ⟨.slice 188,1,24,.raw (.slice none 0 0),false⟩
 |61=>some ⟨.struct [(0,9),(1,9),(2,4),(3,4),(4,4),(5,2),(6,2),(7,58),(8,59)],9,104,.agg [.str [],.str [],.bool false,.bool false,.bool false,.int .i64 0,.int .i64 0,.raw (.slice none 0 0),.raw (.slice none 0 0)],false⟩
 |62=>some ⟨.slice 4,1,24,.raw (.slice none 0 0),false⟩
 |63=>some ⟨.slice 30,1,24,.raw (.slice none 0 0),false⟩
 |65=>some ⟨.struct [(0,62),(1,63),(2,2),(3,2)],4,64,.agg [.raw (.slice none 0 0),.raw (.slice none 0 0),.int .i64 0,.int .i64 0],false⟩
 |70=>some ⟨.slice 2,1,24,.raw (.slice none 0 0),false⟩
 |72=>some ⟨.struct [(0,70),(1,63),(2,2)],3,56,.agg [.raw (.slice none 0 0),.raw (.slice none 0 0),.int .i64 0],false⟩
 |76=>some ⟨.struct [(0,2),(1,2),(2,9),(3,9),(4,9)],5,64,.agg [.int .i64 0,.int .i64 0,.str [],.str [],.str []],true⟩
 |79=>some ⟨.slice 25,1,24,.raw (.slice none 0 0),false⟩
 |93=>some ⟨.slice 207,1,24,.raw (.slice none 0 0),false⟩
 |94=>some ⟨.slice 212,1,24,.raw (.slice none 0 0),false⟩
 |96=>some ⟨.struct [(0,9),(1,9),(2,4),(3,4),(4,93),(5,94)],6,88,.agg [.str [],.str [],.bool false,.bool false,.raw (.slice none 0 0),.raw (.slice none 0 0)],false⟩
 |102=>some ⟨.ptr 108,1,8,.raw (.pointer none),false⟩
 |106=>some ⟨.ptr 227,1,8,.raw (.pointer none),false⟩
 |108=>some ⟨.struct [(0,106),(1,57),(7,61),(16,2),(17,30),(19,28)],20,280,.agg [.raw (.pointer none),.str [],.str [],.bool false,.bool false,.raw (.slice none 0 0),.raw (.slice none 0 0),.str [],.str [],.bool false,.bool false,.bool false,.int .i64 0,.int .i64 0,.raw (.slice none 0 0),.raw (.slice none 0 0),.int .i64 0,.raw (.slice none 0 0),.raw (.slice none 0 0),.raw (.slice none 0 0)],false⟩
 |117=>some ⟨.ptr 178,1,8,.raw (.pointer none),false⟩
 |134=>some ⟨.slice 9,1,24,.raw (.slice none 0 0),false⟩
 |137=>some ⟨.struct [(0,2),(1,9),(2,2)],3,32,.agg [.int .i64 0,.str [],.int .i64 0],true⟩
 |144=>some ⟨.fn,1,8,.raw .nilFunc,false⟩
 |154=>some ⟨.struct [(0,2),(1,9),(2,2)],3,32,.agg [.int .i64 0,.str [],.int .i64 0],true⟩
 |155=>some ⟨.ptr 157,1,8,.raw (.pointer none),false⟩
 |157=>some ⟨.struct [(0,34),(1,57),(7,61),(16,76),(21,2),(22,30),(24,2)],25,344,.agg [.raw (.slice none 0 0),.str [],.str [],.bool false,.bool false,.raw (.slice none 0 0),.raw (.slice none 0 0),.str [],.str [],.bool false,.bool false,.bool false,.int .i64 0,.int .i64 0,.raw (.slice none 0 0),.raw (.slice none 0 0),.int .i64 0,.int .i64 0,.str [],.str [],.str [],.int .i64 0,.raw (.slice none 0 0),.raw (.slice none 0 0),.int .i64 0],false⟩
 |169=>some ⟨.struct [(0,9),(1,9),(2,4)],3,40,.agg [.str [],.str [],.bool false],true⟩
 |176=>some ⟨.int .u64,1,8,.int .u64 0,false⟩
 |178=>some ⟨.struct [(0,49),(1,3),(2,176),(3,2)],4,48,.agg [.raw (.slice none 0 0),.int .i64 0,.int .u64 0,.int .i64 0],false⟩
 |179=>some ⟨.fn,1,8,.raw .nilFunc,false⟩
 |180=>some ⟨.fn,1,8,.raw .nilFunc,false⟩
 |188=>some ⟨.struct [(0,2),(1,2),(2,2),(3,9)],4,40,.agg [.int .i64 0,.int .i64 0,.int .i64 0,.str []],true⟩
 |193=>some ⟨.fn,1,8,.raw .nilFunc,false⟩
 |197=>some ⟨.struct [(0,134),(1,9)],2,40,.agg [.raw (.slice none 0 0),.str []],false⟩
 |199=>some ⟨.struct [(0,197),(2,2),(3,2)],4,56,.agg [.raw (.slice none 0 0),.str [],.int .i64 0,.int .i64 0],false⟩
 |207=>some ⟨.struct [(0,9),(1,9),(2,4)],3,40,.agg [.str [],.str [],.bool false],true⟩
 |209=>some ⟨.slice 305,1,24,.raw (.slice none 0 0),false⟩
 |210=>some ⟨.slice 307,1,24,.raw (.slice none 0 0),false⟩
 |212=>some ⟨.struct [(0,9),(1,9),(2,4),(3,4),(4,4),(5,2),(6,2),(7,209),(8,210)],9,104,.agg [.str [],.str [],.bool false,.bool false,.bool false,.int .i64 0,.int .i64 0,.raw (.slice none 0 0),.raw (.slice none 0 0)],false⟩
 |225=>some ⟨.map 9 3,1,8,.raw (.map none),false⟩
 |227=>some ⟨.struct [(0,34),(1,225)],2,32,.agg [.raw (.slice none 0 0),.raw (.map none)],false⟩
 |229=>some ⟨.fn,1,8,.raw .nilFunc,false⟩
 |231=>some ⟨.slice 229,1,24,.raw (.slice none 0 0),false⟩
 |232=>some ⟨.ptr 234,1,8,.raw (.pointer none),false⟩
 |234=>some ⟨.struct [(0,65),(4,62)],5,88,.agg [.raw (.slice none 0 0),.raw (.slice none 0 0),.int .i64 0,.int .i64 0,.raw (.slice none 0 0)],false⟩
 |257=>some ⟨.ptr 259,1,8,.raw (.pointer none),false⟩
 |259=>some ⟨.struct [(0,9),(1,2),(2,4)],3,32,.agg [.str [],.int .i64 0,.bool false],true⟩
 |268=>some ⟨.struct [(0,9),(1,2),(2,2)],3,32,.agg [.str [],.int .i64 0,.int .i64 0],true⟩
 |296=>some ⟨.ptr 298,1,8,.raw (.pointer none),false⟩
 |298=>some ⟨.struct [(0,117),(1,58),(2,70),(3,70),(4,3)],5,88,.agg [.raw (.pointer none),.raw (.slice none 0 0),.raw (.slice none 0 0),.raw (.slice none 0 0),.int .i64 0],false⟩
 |305=>some ⟨.struct [(0,2),(1,2),(2,9),(3,9),(4,9)],5,64,.agg [.int .i64 0,.int .i64 0,.str [],.str [],.str []],true⟩
 |307=>some ⟨.struct [(0,2),(1,2),(2,2),(3,9)],4,40,.agg [.int .i64 0,.int .i64 0,.int .i64 0,.str []],true⟩
 |313=>some ⟨.slice 28,1,24,.raw (.slice none 0 0),false⟩
 |320=>some ⟨.fn,1,8,.raw .nilFunc,false⟩
 |330=>some ⟨.fn,1,8,.raw .nilFunc,false⟩
 |_=>none
theorem tok:TOK Tryz.prog TT:=by
 intro t ti h
 unfold TT at h
 split at h<;>first|(cases h;kernel_rfl)|cases h
theorem hmo:Tryz.prog.follows .mixedOrders=true:=by kernel_rfl
attribute [simp] TT
section
variable {X:Ctx} {ops:Array Oper} {l rest:List Oper} {ls:List Oper} {st s0 s1 s2 s3:St} {o:Oper} {n0:Nat} {Q:Exit→St→Prop}
theorem jh(hX:X.n0=n0)(h:Qgc TT n0 ops l st=some s1):Q8 Tryz.prog X ops l st s1:=Q8.run tok hX h
theorem jr(hX:X.n0=n0:=by assumption)(h:Qgc TT n0 ops l st=some s1:=by simp;rfl):Q8 Tryz.prog X ops l st s1:=Q8.run tok hX h
theorem js(hX:X.n0=n0)(k:Nat)(h1:Qgc TT n0 ops (l.take k) st=some s1)(h2:Q8 Tryz.prog X ops (l.drop k) s1 s2):Q8 Tryz.prog X ops l st s2:=Q8.step k tok hX h1 h2
theorem jt(n:Nat)(hX:X.n0=n0:=by assumption)(h1:Qgc TT n0 ops (l.take n) st=some s1:=by simp;rfl)(k:Q8 Tryz.prog X ops (l.drop n) s1 s2):Q8 Tryz.prog X ops l st s2:=Q8.step n tok hX h1 k
theorem jf(h:st=s1:=by (try simp);rfl):Q8 Tryz.prog X ops [] st s1:=Q8.fin h
theorem jm(j d:Nat)(ks:List Nat){b:Bool}{n:Nat}{l1 l0:List (Nat×V)}{ob1 ob0:List Ob}{x:Option V}(hd:st.tm[d]? =x:=by simp;rfl)(hx:x=some (.bool b):=by rfl)
  (p:b=true→Q8 Tryz.prog X ops (l.take j) ⟨st.tm.set d (.bool true),st.ob⟩ s1) (q:b=false→Q8 Tryz.prog X ops (l.take j) ⟨st.tm.set d (.bool false),st.ob⟩ s0)
  (e1:s1=⟨sp n l1,ob1⟩:=by rfl) (e0:s0=⟨sp n l0,ob0⟩:=by rfl) (k:Q8 Tryz.prog X ops (l.drop j) ⟨sp n (Qjl b (Qfa ks l1) (Qfa ks l0)),Qr4 b ob1 ob0⟩ s2):Q8 Tryz.prog X ops l st s2:=Q8.mrgS j d ks hd hx p q e1 e0 k
theorem jc{fo:Operand}{as':Array Operand}{ts:Array TypeId}{f:FuncId}{first cap args':List V}{obi:List Ob}(ps:List Nat){r:V}{obc:List Ob}
  (ho:o.op= .call {callee:= .value fo,args:=as',argTypes:=ts}:=by rfl) (hg:gd ops st o.guard=some true:=by simp) (hf:val st fo= .clo (.func f) first cap:=by rfl)
  (ha:mapL (gIn ps) (first++as'.toList.map (val st)++cap)=args':=by simp;rfl) (hi:Qsv st.ob ps=obi:=by simp;rfl)
  (c:Ct Tryz.prog f args' obi r obc) (a:Q6 Tryz.prog f) (hn:ps.Nodup:=by simp) (hlt: ∀id∈ps,id<st.ob.length:=by simp) (he:Qvw st o.dst ps r obc=s1:=by simp;rfl) (k:Q8 Tryz.prog X ops rest s1 s2):Q8 Tryz.prog X ops (o::rest) st s2:=
 Q8.call ps ho hg hf ha hi c a hn hlt he k
theorem jF{fo:Operand}{as':Array Operand}{ts:Array TypeId}{f:FuncId}{first cap args':List V}{r:V}
  (ho:o.op= .call {callee:= .value fo,args:=as',argTypes:=ts}:=by rfl) (hg:gd ops st o.guard=some true:=by simp) (hf:val st fo= .clo (.func f) first cap:=by rfl)
  (ha:mapL (gIn []) (first++as'.toList.map (val st)++cap)=args':=by simp;rfl) (c:Ct Tryz.prog f args' [] r []) (a:Q6 Tryz.prog f) (he:(⟨Q2l o.dst r.fz st.tm,st.ob⟩:St)=s1:=by simp;rfl) (k:Q8 Tryz.prog X ops rest s1 s2):Q8 Tryz.prog X ops (o::rest) st s2:=
 Q8.callF ho hg hf ha c a he k
theorem jB{fo:Operand}{as':Array Operand}{ts:Array TypeId}{f:FuncId}{first cap args':List V}{r:V}
  (ho:o.op= .call {callee:= .value fo,args:=as',argTypes:=ts}:=by rfl) (hg:gd ops st o.guard=some true:=by simp) (hf:val st fo= .clo (.func f) first cap:=by rfl)
  (ha:borL st.ob (first++as'.toList.map (val st)++cap)=args':=by simp;rfl) (c:Ct Tryz.prog f args' [] r []) (a:Q6 Tryz.prog f) (hsol:r.solid=true:=by simp) (he:(⟨Q2l o.dst (Q32 st.ob r).1 st.tm,(Q32 st.ob r).2⟩:St)=s1:=by simp;rfl) (k:Q8 Tryz.prog X ops rest s1 s2):Q8 Tryz.prog X ops (o::rest) st s2:=
 Q8.callB ho hg hf ha c a hsol he k
theorem jB2{fo:Operand}{as':Array Operand}{ts:Array TypeId}{f:FuncId}{first cap args':List V}{r:V}
  (ho:o.op= .call {callee:= .value fo,args:=as',argTypes:=ts}:=by rfl) (hg:gd ops st o.guard=some true:=by simp) (hf:val st fo= .clo (.func f) first cap:=by rfl)
  (ha:Qxj st.ob (first++as'.toList.map (val st)++cap)=args':=by simp;rfl) (c:Ct Tryz.prog f args' [] r []) (a:Q6 Tryz.prog f) (hsol:r.solid=true:=by simp) (he:(⟨Q2l o.dst (Q32 st.ob r).1 st.tm,(Q32 st.ob r).2⟩:St)=s1:=by simp;rfl) (k:Q8 Tryz.prog X ops rest s1 s2):Q8 Tryz.prog X ops (o::rest) st s2:=
 Q8.callB2 ho hg hf ha c a hsol he k
theorem jQ(h:Qp4 TT 0 ops l st=some s1):Q18 Tryz.prog X ops l st s1:=Q18.run tok h
theorem jS(k:Nat)(h1:Qp4 TT 0 ops (l.take k) st=some s1)(h2:Q18 Tryz.prog X ops (l.drop k) s1 s2):Q18 Tryz.prog X ops l st s2:=Q18.step k tok h1 h2
theorem jM(j d:Nat)(ks:List Nat){b:Bool}{n:Nat}{l1 l0:List (Nat×V)}{ob1 ob0:List Ob}{x:Option V}(hd:st.tm[d]? =x:=by simp;rfl)(hx:x=some (.bool b):=by rfl)
  (p:b=true→Q18 Tryz.prog X ops (l.take j) ⟨st.tm.set d (.bool true),st.ob⟩ s1) (q:b=false→Q18 Tryz.prog X ops (l.take j) ⟨st.tm.set d (.bool false),st.ob⟩ s0)
  (e1:s1=⟨sp n l1,ob1⟩:=by rfl) (e0:s0=⟨sp n l0,ob0⟩:=by rfl) (k:Q18 Tryz.prog X ops (l.drop j) ⟨sp n (Qjl b (Qfa ks l1) (Qfa ks l0)),st.ob⟩ s2):Q18 Tryz.prog X ops l st s2:=Q18.mrgS j d ks hd hx p q e1 e0 k
theorem jC{fo:Operand}{as':Array Operand}{ts:Array TypeId}{f:FuncId}{first cap args':List V}{r:V}
  (ho:o.op= .call {callee:= .value fo,args:=as',argTypes:=ts}:=by rfl) (hg:gd ops st o.guard=some true:=by simp) (hf:val st fo= .clo (.func f) first cap:=by rfl)
  (ha:borL st.ob (first++as'.toList.map (val st)++cap)=args':=by simp;rfl) (c:Ct Tryz.prog f args' [] r []) (a:Q6 Tryz.prog f) (hdet:r.det=true:=by rfl) (k:Q18 Tryz.prog X ops rest ⟨Q2l o.dst r st.tm,st.ob⟩ s1):Q18 Tryz.prog X ops (o::rest) st s1:=
 Q18.call ho hg hf ha c a hdet k
theorem jq{id:Nat}{y:Code}(ks:List Nat)(hk:W Tryz.prog X y (s1.keep ks) Q)(hX:X.n0=n0:=by assumption)(h:Qgc TT n0 ops ops.toList st=some s1:=by simp;rfl):W Tryz.prog X (.seq (.region id ops false) y) st Q:=Q0 ks (Q8.run tok hX h) hk
theorem jD{id:Nat}{y:Code}(ks:List Nat)(h:Q18 Tryz.prog X ops ops.toList st s1)(hk:W Tryz.prog X y (s1.keep ks) Q)(hB:Region.lexB .any ops=true:=by kernel_rfl):W Tryz.prog X (.seq (.region id ops true) y) st Q:=Q15c ks hmo hB h hk
theorem jH{i:Nat}{L B:List Nat}{s s':St}(ho:ops[i]? =some o:=by rfl)(hL: ∀id∈L,id<s.ob.length:=by simp)(p: ∀X:Ctx,X.n0=s.ob.length→Q8 Tryz.prog X ops [o] ⟨s.tm,hid L s.ob⟩ s')(he:(⟨s'.tm,unh s.ob L s'.ob⟩:St)=s1:=by simp;rfl)(k:Qez Tryz.prog ops L B s1 s2):Qez Tryz.prog ops L (i::B) s s2:= .cons ho hL p he k
theorem jL{id:Nat}{y:Code}(n:Nat)(A B ks L:List Nat)(hX:X.n0=n0)(hA:Q4q TT n0 ls.toArray L A st=some s1)(hH:Qez Tryz.prog ls.toArray L B s1 s2)(h2:Q8 Tryz.prog X ls.toArray (ls.drop n) s2 s3)(hk:W Tryz.prog X y (s3.keep ks) Q)
  (hB:Qx1 .any ls.toArray n A B=true:=by kernel_rfl):W Tryz.prog X (.seq (.region id ls.toArray true) y) st Q:=Q15b ks L hmo hB tok hX hA hH h2 hk
theorem jN{i:Nat}{L:List Nat}{t:Tr}{s s':St}(ho:ops[i]? =some o:=by rfl)(hL: ∀id∈L,id<s.ob.length:=by simp)(p: ∀X:Ctx,X.n0=s.ob.length→Q8 Tryz.prog X ops [o] ⟨s.tm,hid L s.ob⟩ s')(he:(⟨s'.tm,unh s.ob L s'.ob⟩:St)=s1:=by (try simp);(try rfl))(k:Qa7 Tryz.prog ops L t s1 s2):Qa7 Tryz.prog ops L (.one i t) s s2:= .one ho hL p he k
theorem jK{id:Nat}{y:Code}(n:Nat)(A:List Nat)(t:Tr)(ks L:List Nat)(hX:X.n0=n0)(hA:Q4q TT n0 ls.toArray L A st=some s1)(hH:Qa7 Tryz.prog ls.toArray L t s1 s2)(h2:Q8 Tryz.prog X ls.toArray (ls.drop n) s2 s3)(hk:W Tryz.prog X y (s3.keep ks) Q)
  (hB:Qw8 .any ls.toArray n A t=true:=by kernel_rfl):W Tryz.prog X (.seq (.region id ls.toArray true) y) st Q:=Q157 n A t ks L hmo hB tok hX hA hH h2 hk
theorem jd{c:Operand}{x y:Code}{t:Bool}{v:V}(h1:t=true→W Tryz.prog X x st Q)(h2:t=false→W Tryz.prog X y st Q)(hc:val st c=v:=by simp;rfl)(hv:v= .bool t:=by rfl):W Tryz.prog X (.cond c x y) st Q:=Q15d hc hv h1 h2
theorem je{fn:Func}{n0:Nat}{r r':V}{ob' ob'':List Ob}{z:Option (V×List Ob)}(h:Qgu TT fn n0 st=z)(hr:r'=r)(hz:z=some (r',ob''):=by rfl)(ho:ob''=ob':=by rfl):Qj6 TT fn n0 r ob' .ret st:=Q1b (h.trans hz) (.of_eq hr) ho
theorem je0{fn:Func}{n0:Nat}{r r':V}{ob' ob'':List Ob}{z:Option (V×List Ob)}(hr:r'=r)(h:Qgu TT fn n0 st=z:=by simp;rfl)(hz:z=some (r',ob''):=by rfl)(ho:ob''=ob':=by rfl):Qj6 TT fn n0 r ob' .ret st:=Q1b (h.trans hz) (.of_eq hr) ho
theorem jn{fn:Func}{n0:Nat}{r r':V}{ob' ob'':List Ob}{z:Option (V×List Ob)}(h:Qgu TT fn n0 st=z)(hr:r'=r)(hz:z=some (r',ob''):=by rfl)(ho:ob''=ob':=by rfl):Qj6 TT fn n0 r ob' .normal st:=Qw0 (h.trans hz) (.of_eq hr) ho
theorem jn0{fn:Func}{n0:Nat}{r r':V}{ob' ob'':List Ob}{z:Option (V×List Ob)}(hr:r'=r)(h:Qgu TT fn n0 st=z:=by simp;rfl)(hz:z=some (r',ob''):=by rfl)(ho:ob''=ob':=by rfl):Qj6 TT fn n0 r ob' .normal st:=Qw0 (h.trans hz) (.of_eq hr) ho
end
theorem jcb {f : FuncId} {fn : Func} (h : Tryz.prog.funcs[f]? = some fn) (h1 : fn.body.isNone = false := by kernel_rfl) (h2 : (fn.name == "runtime.NumGoroutine") = false := by kernel_rfl) : Q6 Tryz.prog f := ⟨fn, h, h1, h2⟩
theorem jbS{f:FuncId}{fn:Func}{c:Code}{args:List V}{ob ob':List Ob}{r:V}(hf:Tryz.prog.funcs[f]? =some fn)(n:Nat)(h: ∀X:Ctx,X.n0=ob.length→W Tryz.prog X c ⟨sp n (Qvy 0 args),ob⟩ (Qj6 TT fn ob.length r ob'))(hb:fn.body=some c:=by rfl)(hn:fn.ntmps=n:=by kernel_rfl)(hl:Nat.ble args.length n=true:=by kernel_rfl):Ct Tryz.prog f args ob r ob':=Q13x tok hf hb n hn hl h
abbrev Str:=List UInt8
structure Fld where
 name:Str
 type:Str
 static:Bool
 deriving DecidableEq,Inhabited
structure Ins where
 op:Int
 a:Int
 cls:Str
 name:Str
 desc:Str
 deriving DecidableEq,Inhabited
structure Hdl where
 frm:Int
 upto:Int
 at':Int
 cls:Str
 deriving DecidableEq,Inhabited
structure Mth where
 name:Str
 desc:Str
 static:Bool
 abstr:Bool
 final:Bool
 stack:Int
 locals:Int
 code:List Ins
 hdls:List Hdl
 deriving DecidableEq,Inhabited
structure Cls where
 name:Str
 super:Str
 final:Bool
 abstr:Bool
 fields:List Fld
 methods:List Mth
 deriving DecidableEq,Inhabited
def eF(x:Fld):V:= .agg [.str x.name,.str x.type,.bool x.static]
def eI(x:Ins):V:= .agg [.int .i64 x.op,.int .i64 x.a,.str x.cls,.str x.name,.str x.desc]
def eH(x:Hdl):V:= .agg [.int .i64 x.frm,.int .i64 x.upto,.int .i64 x.at',.str x.cls]
def eM(x:Mth):V:= .agg [.str x.name,.str x.desc,.bool x.static,.bool x.abstr,.bool x.final,.int .i64 x.stack,.int .i64 x.locals,.lst false 5 (x.code.map eI),.lst false 4 (x.hdls.map eH)]
def eC(x:Cls):V:= .agg [.str x.name,.str x.super,.bool x.final,.bool x.abstr,.lst false 3 (x.fields.map eF),.lst false 9 (x.methods.map eM)]
def oM(x:Mth):V:= .agg [.str x.name,.str x.desc,.bool x.static,.bool x.abstr,.bool x.final,.int .i64 x.stack,.int .i64 x.locals,.lst true 5 (x.code.map eI),.lst true 4 (x.hdls.map eH)]
def oC(x:Cls):V:= .agg [.str x.name,.str x.super,.bool x.final,.bool x.abstr,.lst true 3 (x.fields.map eF),.lst true 9 (x.methods.map oM)]
@[simp] theorem one_slice:(Value.slice none 0 0).oneCell'=true:=rfl
@[simp] theorem one_ptr:(Value.pointer none).oneCell'=true:=rfl
@[simp] theorem one_map:(Value.map none).oneCell'=true:=rfl
theorem Q3z{α:Type}(f:α→V)(h: ∀x,(f x).pure=true)(l:List α):pureL (l.map f)=true:=by simp[Qcy,h]
@[simp] theorem pureL_eF (l:List Fld):pureL (l.map eF)=true:=Q3z _ (fun _=>rfl) l
@[simp] theorem pureL_eI (l:List Ins):pureL (l.map eI)=true:=Q3z _ (fun _=>rfl) l
@[simp] theorem pureL_eH (l:List Hdl):pureL (l.map eH)=true:=Q3z _ (fun _=>rfl) l
@[simp] theorem pureL_eM (l:List Mth):pureL (l.map eM)=true:=Q3z _ (fun _=>rfl) l
@[simp] theorem pureL_eC (l:List Cls):pureL (l.map eC)=true:=Q3z _ (fun _=>rfl) l
@[simp] theorem pureL_oM (l:List Mth):pureL (l.map oM)=true:=Q3z _ (fun _=>rfl) l
@[simp] theorem pureL_oC (l:List Cls):pureL (l.map oC)=true:=Q3z _ (fun x=>by simp[oC,V.pure,pureL]) l
@[simp] theorem take_map_len {α:Type} (f:α→V) (l:List α):(l.map f).take l.length=l.map f:=by rw[List.take_of_length_le];simp
theorem Q6i{α:Type}(f:α→V)(h: ∀x,(f x).fz=f x)(l:List α):fzL (l.map f)=l.map f:=by simp[Qao,h]
@[simp] theorem fzL_str (l:List Str):fzL (l.map V.str)=l.map V.str:=Q6i _ (fun _=>rfl) l
@[simp] theorem fzL_eF (l:List Fld):fzL (l.map eF)=l.map eF:=Q6i _ (fun _=>rfl) l
@[simp] theorem fzL_eI (l:List Ins):fzL (l.map eI)=l.map eI:=Q6i _ (fun _=>rfl) l
@[simp] theorem fzL_eH (l:List Hdl):fzL (l.map eH)=l.map eH:=Q6i _ (fun _=>rfl) l
@[simp] theorem fzL_eM (l:List Mth):fzL (l.map eM)=l.map eM:=Q6i _ (fun _=>rfl) l
@[simp] theorem fzL_eC (l:List Cls):fzL (l.map eC)=l.map eC:=Q6i _ (fun _=>rfl) l
theorem Q188(x:Mth):(oM x).fz=eM x:=by simp[oM,eM,V.fz,fzL,fzL_eI,fzL_eH]
@[simp] theorem fzL_oM (l:List Mth):fzL (l.map oM)=l.map eM:=by simp[Qao,Q188]
theorem Q189(x:Cls):(oC x).fz=eC x:=by simp[oC,eC,V.fz,fzL,fzL_eF,fzL_oM]
@[simp] theorem fzL_oC (l:List Cls):fzL (l.map oC)=l.map eC:=by simp[Qao,Q189]
@[simp] theorem pureL_str (l:List Str):pureL (l.map V.str)=true:=Q3z _ (fun _=>rfl) l
theorem Q5f{α:Type}(p:Nat→Bool)(f:α→V)(h: ∀x,(f x).pure=true)(l:List α):jkL p (l.map f)=l.map f:=jkL_pure p _ (Q3z f h l)
@[simp] theorem jkL_str (p:Nat→Bool) (l:List Str):jkL p (l.map V.str)=l.map V.str:=Q5f p _ (fun _=>rfl) l
@[simp] theorem jkL_eF (p:Nat→Bool) (l:List Fld):jkL p (l.map eF)=l.map eF:=Q5f p _ (fun _=>rfl) l
@[simp] theorem jkL_eI (p:Nat→Bool) (l:List Ins):jkL p (l.map eI)=l.map eI:=Q5f p _ (fun _=>rfl) l
@[simp] theorem jkL_eH (p:Nat→Bool) (l:List Hdl):jkL p (l.map eH)=l.map eH:=Q5f p _ (fun _=>rfl) l
@[simp] theorem jkL_eM (p:Nat→Bool) (l:List Mth):jkL p (l.map eM)=l.map eM:=Q5f p _ (fun _=>rfl) l
@[simp] theorem jkL_eC (p:Nat→Bool) (l:List Cls):jkL p (l.map eC)=l.map eC:=Q5f p _ (fun _=>rfl) l
@[simp] theorem jkL_oM (p:Nat→Bool) (l:List Mth):jkL p (l.map oM)=l.map oM:=Q5f p _ (fun _=>rfl) l
@[simp] theorem jkL_oC (p:Nat→Bool) (l:List Cls):jkL p (l.map oC)=l.map oC:=Q5f p _ (fun x=>by simp[oC,V.pure,pureL]) l
@[simp] theorem nc_inj (a b:Nat):((a:Int)=(b:Int))↔a=b:=Int.ofNat_inj
@[simp] theorem nc_inj1 (a b:Nat):((a:Int)=(b:Int)+1)↔a=b+1:=by omega
@[simp] theorem nc_inj2 (a b:Nat):((a:Int)+1=(b:Int))↔a+1=b:=by omega
@[simp] theorem nc_lt1 (a b:Nat):((a:Int)+1<(b:Int))↔a+1<b:=by omega
@[simp] theorem nc_le1 (a b:Nat):((a:Int)+1≤(b:Int))↔a+1≤b:=by omega
@[simp] theorem nc_1lt (a b:Nat):((a:Int)<(b:Int)+1)↔a<b+1:=by omega
@[simp] theorem nc_1le (a b:Nat):((a:Int)≤(b:Int)+1)↔a≤b+1:=by omega
@[simp] theorem nc_pos1 (a:Nat):(0≤(a:Int)+1)↔True:=iff_true_intro Zb
@[simp] theorem nc_ltk (a b k:Nat):((a:Int)+(no_index (OfNat.ofNat k):Int)<(b:Int))↔a+OfNat.ofNat k<b:=by show (a:Int)+(k:Int)<b↔a+k<b;omega
@[simp] theorem nc_lek (a b k:Nat):((a:Int)+(no_index (OfNat.ofNat k):Int)≤(b:Int))↔a+OfNat.ofNat k≤b:=by show (a:Int)+(k:Int)≤b↔a+k≤b;omega
@[simp] theorem nc_posk (a k:Nat):(0≤(a:Int)+(no_index (OfNat.ofNat k):Int))↔True:=iff_true_intro (by show 0≤(a:Int)+(k:Int);omega)
@[simp] theorem lit_lt (k n:Nat):((no_index (OfNat.ofNat k):Int)<(n:Int))↔OfNat.ofNat k<n:=by show (k:Int)<n↔k<n;omega
@[simp] theorem lit_le (k n:Nat):((no_index (OfNat.ofNat k):Int)≤(n:Int))↔OfNat.ofNat k≤n:=by show (k:Int)≤n↔k≤n;omega
@[simp] theorem lit_gt (k n:Nat):((n:Int)<(no_index (OfNat.ofNat k):Int))↔n<OfNat.ofNat k:=by show (n:Int)<k↔n<k;omega
@[simp] theorem lit_ge (k n:Nat):((n:Int)≤(no_index (OfNat.ofNat k):Int))↔n≤OfNat.ofNat k:=by show (n:Int)≤k↔n≤k;omega
@[simp] theorem lit_eq (k n:Nat):((n:Int)=(no_index (OfNat.ofNat k):Int))↔n=OfNat.ofNat k:=by show (n:Int)=k↔n=k;omega
@[simp high] theorem int_beq (x y:Int):(x==y)=decide (x=y):=by by_cases h:x=y<;>simp[h]
@[simp high] theorem int_bne (x y:Int):(x !=y)= !decide (x=y):=by by_cases h:x=y<;>simp[h]
@[simp high] theorem str_beq (x y:List UInt8):(x==y)=decide (x=y):=by by_cases h:x=y<;>simp[h]
@[simp high] theorem u8_of (c:UInt8):UInt8.ofNat c.toNat=c:=by simp
attribute [simp] Qr Qa Q154 Q13h Q13i
attribute [simp] Qri Qe8 Qov Qrq Qot Qj9
@[simp] theorem take_app1 {α:Type} (f:α→V) (l:List α) (x:V):(l.map f++[x]).take (l.length+1)=l.map f++[x]:=List.take_of_length_le Z3
attribute [simp] Q4q rdB hid unh
attribute [simp high] Qax
attribute [simp] borDL V.borD Qxj Qjl Q164 Qi3 Q178 lkA ins Qfa jkA Qvy memN Qr4 St.nilC St.nilS St.mrg2 opY Q2w Qht oM oC St.absorb Qp4 Qa1 V.det detL eC eF eM eI eH V.cells Qgc runU gd opB opX Quz opA val Q2l opEq Qz6 Qzz Qz0 Qbu Qbv Qux Qq6 Quy Qq5 Qq7 sl3 bnd rd TI.isAgg Qks eqF bld Qy8 Qcu
 Qgu Qxy resV Q88 takeL Qy9 limL V.lim Qv0 Q2q V.cellOK V.pure pureL V.free freeL Qe6 St.mrg Qvw Q32 nameL mapL V.mapId wb Qcj Qjn Qsv gIn borL V.bor seen Qkr fzL V.fz V.solid solidL St.keep Qc1 St.trim jkL V.jk jkO St.upd updL updO
def Q47(c:UInt8)(first:Bool):Bool:=
 decide (97≤c.toNat∧c.toNat≤122∨65≤c.toNat∧c.toNat≤90∨c.toNat=36∨(first=false∧48≤c.toNat∧c.toNat≤57))
def Q7f(first:Bool):Str→Bool
 |[]=>true
 |c::l=>Q47 c first&&Q7f false l
def Q2j(t:Str):Bool:=decide (1≤t.length∧t.length≤20)&&Q7f true t
def Q2m:Nat→Bool→Str→Nat
 |n+1,first,c::l=>if Q47 c first then Q2m n false l+1 else 0
 |_,_,_=>0
def Q23(t:Str)(p n:Nat):Bool:=match t[p]? with|some c=>decide (c.toNat=n)|none=>false
theorem Q2r{t:Str}{p n:Nat}(h:p<t.length):Q23 t p n=decide ((t[p].toNat:Int)=(n:Int)):=by
 simp only[Q23,List.getElem?_eq_getElem h]
 simp only[decide_eq_decide]
 omega
theorem Q5x{t:Str}{p n:Nat}(h:t.length≤p):Q23 t p n=false:=by
 simp[Q23,List.getElem?_eq_none h]
theorem Q3o{t:Str}{p n:Nat}(h:Q23 t p n=true):p<t.length:=by
 rcases Nat.lt_or_ge p t.length with h'|h'
 ·exact h'
 ·rw[Q5x h'] at h;cases h
def nmP(t:Str)(fro:Nat):Nat×Bool:=
 let i:=fro+Q2m 20 true (t.drop fro)
 if Q23 t i 59&& !decide (i=fro) then (i+1,true) else (i,false)
def Q5b(t:Str)(p:Nat):Nat×Bool:=
 if Q23 t p 73 then (p+1,true) else if Q23 t p 76 then nmP t (p+1) else (p,false)
def tyP(t:Str)(p:Nat):Nat×Bool:=
 if Q23 t p 91 then Q5b t (p+1) else Q5b t p
def Q1n(t:Str):Bool:=decide (t.length≤20000)&&(tyP t 0).2&&decide ((tyP t 0).1=t.length)
theorem Qyy{c:UInt8}{n:Nat}(h:n<256):(c.toNat=n)↔c=UInt8.ofNat n:=by
 rw[←UInt8.toNat_inj];simp;omega
theorem Q12u{t:Str}{i:Nat}(h:i<t.length):t[i]? =some t[i]:=List.getElem?_eq_getElem h
theorem Qeg{t:Str}{i fro:Nat}(hi:i<t.length)(hn:i-fro<20)(hf:fro≤i):
  Q2m (20-(i-fro)) (decide (i=fro)) (t.drop i)=if Q47 t[i] (decide (i=fro)) then Q2m (20-(i+1-fro)) (decide (i+1=fro)) (t.drop (i+1))+1 else 0:=by
 rw[List.drop_eq_getElem_cons hi,show 20-(i-fro)=(20-(i+1-fro))+1 from by omega,show decide (i+1=fro)=false from by simp;omega]
 rfl
theorem Qr2: ∀(n:Nat) (f:Bool) (l:Str),Q2m n f l≤l.length∧Q2m n f l≤n
 |0,_,_=>by simp[Q2m]
 |n+1,_,[]=>by simp[Q2m]
 |n+1,f,c::l=>by
  have:=Qr2 n false l
  simp only[Q2m]
  split<;>simp<;>omega
theorem Q12h{t:Str}{p:Nat}(h:p≤t.length):p≤(nmP t p).1∧(nmP t p).1≤t.length∧((nmP t p).2=true→p<(nmP t p).1)∧(nmP t p).1≤p+21:=by
 have:=Qr2 20 true (t.drop p)
 rw[List.length_drop] at this
 simp only[nmP]
 split
 ·rename_i h'
  simp only[Bool.and_eq_true] at h'
  have:=Q3o h'.1
  simp;omega
 ·simp;omega
theorem Quo{t:Str}{p:Nat}(h:p≤t.length):p≤(Q5b t p).1∧(Q5b t p).1≤t.length∧((Q5b t p).2=true→p<(Q5b t p).1)∧(Q5b t p).1≤p+22:=by
 simp only[Q5b]
 split
 ·rename_i h';have:=Q3o h';simp;omega
 ·split
  ·rename_i h';have:=Q3o h';have:=Q12h (t:=t) (p:=p+1) Zb;omega
  ·simp;omega
theorem Qmm{t:Str}{p:Nat}(h:p≤t.length):p≤(tyP t p).1∧(tyP t p).1≤t.length∧((tyP t p).2=true→p<(tyP t p).1)∧(tyP t p).1≤p+23:=by
 simp only[tyP]
 split
 ·rename_i h'
  have h1:=Q3o h'
  have h2:=Quo (t:=t) (p:=p+1) Zb
  exact ⟨by omega,by omega,fun h=>by have:=h2.2.2.1 h;omega,by omega⟩
 ·have h2:=Quo (t:=t) (p:=p) h
  exact ⟨h2.1,h2.2.1,h2.2.2.1,by omega⟩
def seg(t:Str)(p e:Nat):Str:=(t.take e).drop p
def Q30(t:Str):Nat→Nat→List Str→Except Nat (List Str×Nat)
 |0,p,ps=>if Q23 t p 41 then .ok (ps,p) else .error p
 |n+1,p,ps=>if Q23 t p 41 then .ok (ps,p) else if (tyP t p).2 then Q30 t n (tyP t p).1 (ps++[seg t p (tyP t p).1]) else .error (tyP t p).1
structure DO where
 params:List Str
 res:Str
 place:Int
 code:Int
 deriving DecidableEq,Inhabited
def eDO(x:DO):V:= .agg [.lst true 1 (x.params.map V.str),.str x.res,.int .i64 x.place,.int .i64 x.code]
attribute [simp] eDO
def Q4f(p:Nat):DO:=⟨[],[],p,3⟩
def Q1t(t:Str)(ps:List Str)(p:Nat):DO:=
 if Q23 t (p+1) 86 then (if p+2<t.length then Q4f (p+2) else ⟨ps,[86],0,0⟩)
 else if (tyP t (p+1)).2 then (if (tyP t (p+1)).1<t.length then Q4f (tyP t (p+1)).1 else ⟨ps,seg t (p+1) (tyP t (p+1)).1,0,0⟩)
 else Q4f (tyP t (p+1)).1
def Qy(t:Str):DO:=
 if Q23 t 0 40 then (match Q30 t 8 1 [] with| .error p=>Q4f p| .ok (ps,p)=>Q1t t ps p) else Q4f 0
def Qd(t:Str):DO:=if 20000<t.length then ⟨[],[],0,2⟩ else Qy t
theorem Qdg{t:Str}{p:Nat}(h0:Q23 t 0 40=true)(h:Q30 t 8 1 []= .error p):Qy t=Q4f p:=by simp[Qy,h0,h]
theorem Qxb{t:Str}{p:Nat}{ps:List Str}(h0:Q23 t 0 40=true)(h:Q30 t 8 1 []= .ok (ps,p)):Qy t=Q1t t ps p:=by simp[Qy,h0,h]
theorem Qjp{t:Str}: ∀{n p:Nat} {ps qs:List Str} {q:Nat},Q30 t n p ps= .ok (qs,q)→qs.length≤ps.length+n∧Q23 t q 41=true
 |0,p,ps,qs,q,h=>by
  simp only[Q30] at h
  split at h
  ·rename_i h';cases h;exact ⟨by omega,h'⟩
  ·cases h
 |n+1,p,ps,qs,q,h=>by
  simp only[Q30] at h
  split at h
  ·rename_i h';cases h;exact ⟨by omega,h'⟩
  ·split at h
   ·have:=Qjp h
    simp at this
    exact ⟨by omega,this.2⟩
   ·cases h
theorem Q7x(t:Str):(Qd t).params.length≤8:=by
 unfold Qd
 split
 ·simp
 ·unfold Qy
  split
  ·split
   ·simp[Q4f]
   ·rename_i ps p h
    have:=Qjp h
    unfold Q1t
    split
    ·split<;>simp[Q4f];simpa using this.1
    ·split
     ·split<;>simp[Q4f];simpa using this.1
     ·simp[Q4f]
  ·simp[Q4f]
theorem Qck{t:Str}: ∀{n p:Nat} {ps qs:List Str} {q:Nat},Q30 t n p ps= .ok (qs,q)→(∀s∈ps,s.length≤t.length)→ ∀s∈qs,s.length≤t.length
 |0,p,ps,qs,q,h,hs=>by
  simp only[Q30] at h
  split at h
  ·cases h;exact hs
  ·cases h
 |n+1,p,ps,qs,q,h,hs=>by
  simp only[Q30] at h
  split at h
  ·cases h;exact hs
  ·split at h
   ·refine Qck h fun s hm=> ?_
    rcases List.mem_append.1 hm with hm|hm
    ·exact hs s hm
    ·simp at hm;subst hm;simp[seg];omega
   ·cases h
theorem Q6k(t:Str):(Qd t).res.length≤t.length∧ ∀s∈(Qd t).params,s.length≤t.length:=by
 unfold Qd
 split
 ·simp
 ·unfold Qy
  split
  ·rename_i h0
   have hlt:=Q3o h0
   split
   ·simp[Q4f]
   ·rename_i ps p h
    have hp:=Qck h Z3
    unfold Q1t
    split
    ·split
     ·simp[Q4f]
     ·exact ⟨by simp;omega,hp⟩
    ·split
     ·split
      ·simp[Q4f]
      ·exact ⟨by simp[seg];omega,hp⟩
     ·simp[Q4f]
  ·simp[Q4f]
theorem Q2s(r:Str)(p c:Int):Wk (.agg [.raw (.slice none 0 0),.str r,.int .i64 p,.int .i64 c]) (eDO ⟨[],r,p,c⟩):=
 Wk.agg (.cons (Wk.nilSlice _ _) (.cons (Wk.refl _) (.cons (Wk.refl _) (.cons (Wk.refl _) .nil))))
def Q7n(c:UInt8):Str→List Str
 |[]=>[[]]
 |x::t=>if x=c then []::Q7n c t else (match Q7n c t with|h::r=>(x::h)::r|[]=>[[x]])
theorem Qti{c:UInt8}: ∀{l:Str},(∀x∈l,x≠c)→Q7n c l=[l]
 |[],_=>rfl
 |x::l,h=>by
  have h2:Q7n c l=[l]:=Qti (fun y hy=>h y (List.mem_cons_of_mem _ hy))
  simp only[Q7n,if_neg (h x Z3),h2]
theorem Qqq{c:UInt8}: ∀{l:Str} {k:Nat} (hk:k<l.length),(∀x∈l.take k,x≠c)→l[k]=c→Q7n c l=l.take k::Q7n c (l.drop (k+1))
 |[],k,hk,_,_=>by simp at hk
 |x::l,0,_,_,h=>by simp only[List.getElem_cons_zero] at h;simp[Q7n,h]
 |x::l,k+1,hk,hn,h=>by
  have:=Qqq (c:=c) (l:=l) (k:=k) (by simpa using hk) (fun y hy=>hn y (by rw[List.take_succ_cons];exact List.mem_cons_of_mem _ hy)) Z49
  simp only[Q7n,if_neg (hn x Z3),this,List.take_succ_cons,List.drop_succ_cons]
def Qwg:List Str:=[[],[99,111,110,115,116,32,110],[110,117,108,108],[108,111,97,100,32,105],[115,116,111,114,101,32,105],[112,111,112],[100,117,112],[115,119,97,112],[97,100,100],[115,117,98],[109,117,108],[100,105,118],[114,101,109],[97,110,100],[111,114],[120,111,114],[115,104,108],[115,104,114],[117,115,104,114],[103,111,116,111,32,116],[105,102,101,113,32,116],[105,102,108,116,32,116],[105,102,115,97,109,101,32,116],[105,102,108,101,115,115,32,116],[105,102,110,117,108,108,32,116],[105,102,105,115,32,116],[114,101,116,117,114,110],[105,114,101,116,117,114,110],[97,114,101,116,117,114,110],[116,104,114,111,119],[100,117,112,50],[110,101,119,32,99],[103,101,116,102,105,101,108,100,32,102],[112,117,116,102,105,101,108,100,32,102],[103,101,116,115,116,97,116,105,99,32,102],[112,117,116,115,116,97,116,105,99,32,102],[99,97,108,108,32,109],[99,97,108,108,115,116,97,116,105,99,32,109],[99,97,108,108,115,112,101,99,105,97,108,32,109],[99,97,115,116,32,99],[105,115,111,102,32,99],[110,101,119,108,105,115,116,32,121],[103,101,116],[112,117,116],[115,105,122,101]]
def Qu2:List Str:=[[110],[],[105],[105],[],[],[],[],[],[],[],[],[],[],[],[],[],[],[116],[116],[116],[116],[116],[116],[116],[],[],[],[],[],[99],[102],[102],[102],[102],[109],[109],[109],[99],[99],[121],[],[],[]]
def Q67(op:Int):Str:=if op<1∨44<op then [33] else Qu2.getD (op-1).toNat []
def Qvi(w:List Str):Str:=if w.length=2 then w.getD 1 [] else []
theorem Qyh: ∀i:Fin 45,i.val≠0→Qvi (Q7n 32 (Qwg.getD i.val []))=Qu2.getD (i.val-1) []:=by decide
theorem Q10r: ∀i:Fin 45,(Qwg[i.val]'(i.isLt)).length≤20:=by decide
def Q2u(x:Ins):Bool:=decide (x.cls=[]∧x.name=[]∧x.desc=[])
def Q8c(n:Int):Bool:=decide (-2147483648≤n∧n≤2147483647)
def Qn:Str:=[60,105,110,105,116,62]
def Q1l(x:Ins):Bool:=
 let f:=Q67 x.op
 if f=[] then decide (x.a=0)&&Q2u x
 else if f=[110] then Q8c x.a&&Q2u x
 else if f=[105] then decide (0≤x.a∧x.a<16)&&Q2u x
 else if f=[116] then decide (0≤x.a∧x.a<60)&&Q2u x
 else if f=[99] then decide (x.a=0)&&Q2j x.cls&&decide (x.name=[]∧x.desc=[])
 else if f=[121] then decide (x.a=0∧x.cls=[]∧x.name=[])&&Q1n x.desc&& !Q23 x.desc 0 91
 else if f=[102] then decide (x.a=0)&&Q2j x.cls&&Q2j x.name&&Q1n x.desc
 else if f=[109] then decide (x.a=0)&&Q2j x.cls&&(Q2j x.name||decide (x.name=Qn))&&decide ((Qd x.desc).code=0)
 else false
def Q3v(many:Int)(x:Hdl):Bool:=decide (0≤x.frm∧x.frm<x.upto∧x.upto≤many∧0≤x.at'∧x.at'<many)&&Q2j x.cls
def Q69(many:Int)(x:Ins):Bool:=Q1l x&& !(decide (Q67 x.op=[116])&&decide (x.a≥many))
def Qgi(x:Mth):Nat:=(Qd x.desc).params.length+if x.static then 0 else 1
def Q39(x:Mth):Bool:=(Q2j x.name||decide (x.name=Qn))&&decide ((Qd x.desc).code=0)&&decide (0≤x.stack∧x.stack≤16∧0≤x.locals∧x.locals≤16)
def Q2t(x:Mth):Bool:=
 if Q39 x then
  if x.abstr then decide (x.stack=0∧x.locals=0∧x.code.length=0∧x.hdls.length=0)&& !x.static&& !x.final&& !decide (x.name=Qn)
  else if x.code.length<1∨60<x.code.length∨x.locals<Qgi x∨6<x.hdls.length then false
  else x.code.all (Q69 x.code.length)&&(x.hdls.all (Q3v x.code.length)&&(!decide (x.name=Qn)||(!x.static&& !x.final&&decide ((Qd x.desc).res=[86]))))
 else false
theorem Qby{x:Mth}(h:Q39 x=false):Q2t x=false:=by simp[Q2t,h]
theorem Q6t{x:Mth}(h:Q39 x=true)(h2:x.abstr=true):Q2t x=(decide (x.stack=0∧x.locals=0∧x.code.length=0∧x.hdls.length=0)&& !x.static&& !x.final&& !decide (x.name=Qn)):=by simp only[Q2t,h,h2,if_true]
theorem Ql1{x:Mth}(h2:x.abstr=false)(h3:x.code.length<1∨60<x.code.length∨x.locals<Qgi x∨6<x.hdls.length):Q2t x=false:=by
 simp only[Q2t,h2,Bool.false_eq_true,if_false,if_pos h3,ite_self]
theorem Qor{x:Mth}(h:Q39 x=true)(h2:x.abstr=false)(h3: ¬(x.code.length<1∨60<x.code.length∨x.locals<Qgi x∨6<x.hdls.length)):
  Q2t x=(x.code.all (Q69 x.code.length)&&(x.hdls.all (Q3v x.code.length)&&(!decide (x.name=Qn)||(!x.static&& !x.final&&decide ((Qd x.desc).res=[86]))))):=by
 simp only[Q2t,h,h2,Bool.false_eq_true,if_true,if_false,if_neg h3]
theorem Q5r{α:Type}{p:α→Bool}{l:List α}{i:Nat}(h:i<l.length):(l.drop i).all p=(p l[i]&&(l.drop (i+1)).all p):=by
 rw[List.drop_eq_getElem_cons h];rfl
theorem Q2e{t:Str}(h:Q1n t=true):0<t.length∧t.length≤23:=by
 simp only[Q1n,Bool.and_eq_true,decide_eq_true_eq] at h
 have h1:=Qmm (t:=t) (p:=0) (Nat.zero_le _)
 have h2:=h1.2.2.1 h.1.2
 omega
def Q9l(x:Cls):Bool:=Q2j x.name&&Q2j x.super&& !decide (x.name=x.super)&& !(x.final&&x.abstr)&&decide (x.fields.length≤8∧x.methods.length≤10)
def Qc3(pre:List Fld):List Fld→Bool
 |[]=>true
 |f::l=>Q2j f.name&&Q1n f.type&&pre.all (fun g=> !decide (g.name=f.name))&&Qc3 (pre++[f]) l
def Qbx(abstr:Bool)(pre:List Mth):List Mth→Bool
 |[]=>true
 |f::l=>Q2t f&& !(f.abstr&& !abstr)&&pre.all (fun g=> !(decide (g.name=f.name)&&decide (g.desc=f.desc)))&&Qbx abstr (pre++[f]) l
def Q3l(x:Cls):Bool:=Q9l x&&(Qc3 [] x.fields&&Qbx x.abstr [] x.methods)
theorem Q16o:Q15z Tryz.prog 335:=⟨_,Tryz.func335,by kernel_rfl,by kernel_rfl,by kernel_rfl,by kernel_rfl⟩
def Qd3:Str:=[48,49,50,51,52,53,54,55,56,57,97,98,99,100,101,102,103,104,105,106,107,108,109,110,111,112,113,114,115,116,117,118,119,120,121,122,65,66,67,68,69,70,71,72,73,74,75,76,77,78,79,80,81,82,83,84,85,86,87,88,89,90,36]
theorem Qv5: ∀n:Fin 256,(decide (10≤ixL (UInt8.ofNat n.val) Qd3)=Q47 (UInt8.ofNat n.val) true)∧(decide (0≤ixL (UInt8.ofNat n.val) Qd3)=Q47 (UInt8.ofNat n.val) false):=by decide+kernel
theorem Qr1(c:UInt8):(decide (10≤ixL c Qd3)=Q47 c true)∧(decide (0≤ixL c Qd3)=Q47 c false):=by
 have:=Qv5 ⟨c.toNat,c.toNat_lt⟩
 simpa using this
abbrev rdr (t:Str) (p:Nat) (b:Bool):Ob:=some (3,[.agg [.str t,.int .i64 p,.bool b]])
def hit(t:Str)(p:Nat)(b:Bool)(n:Nat):Bool:= !b&&Q23 t p n
def adv(h:Bool)(p:Nat):Nat:=bif h then p+1 else p
@[simp] theorem adv_true {p:Nat}:adv true p=p+1:=rfl
@[simp] theorem adv_false {p:Nat}:adv false p=p:=rfl
theorem Qyr{t:Str}{p n:Nat}:p≤adv (Q23 t p n) p∧(p≤t.length→adv (Q23 t p n) p≤t.length):=by
 cases h:Q23 t p n
 ·exact ⟨Nat.le_refl _,fun h=>h⟩
 ·have:=Q3o h;simp;omega
@[simp] theorem hit_true {t:Str} {p n:Nat}:hit t p true n=false:=rfl
@[simp] theorem hit_false {t:Str} {p n:Nat}:hit t p false n=Q23 t p n:=rfl
theorem Q10o(t:Str):(Q1n t&& !Q23 t 0 91)=(decide (t=[73])||(Q1n t&&Q23 t 0 76)):=by
 by_cases h:Q1n t=true
 ·have hl:=(Q2e h).1
  cases t with
  |nil=>simp at hl
  |cons c l=>
   simp only[Q1n,tyP,Q5b,Bool.and_eq_true,decide_eq_true_eq] at h
   by_cases h91:Q23 (c::l) 0 91=true
   ·have:Q23 (c::l) 0 76=false:=by simp only[Q23,List.getElem?_cons_zero] at h91⊢;simp at h91⊢;omega
    have h2:c≠73:=by intro e;subst e;simp[Q23] at h91
    simp[h91,this,h2]
   ·have h91:Q23 (c::l) 0 91=false:=by simpa using h91
    simp only[h91,Bool.false_eq_true,if_false] at h
    by_cases h73:Q23 (c::l) 0 73=true
    ·simp only[h73,if_true] at h
     have hc:c=73:=by simp only[Q23,List.getElem?_cons_zero] at h73;simp at h73;exact (Qyy Z3w).1 h73
     have hl2:l=[]:=by have:=h.2;simp at this;exact this
     subst hc;subst hl2
     simp[Q23]
     decide
    ·have h73:Q23 (c::l) 0 73=false:=by simpa using h73
     simp only[h73,Bool.false_eq_true,if_false] at h
     have hc:c≠73:=by intro e;subst e;simp[Q23] at h73
     by_cases h76:Q23 (c::l) 0 76=true
     ·simp[h91,h76,hc]
     ·simp[h76] at h
 ·have h2:t≠[73]:=by intro e;subst e;exact h Z3w
  simp[h,h2]
def Q7w{α:Type}(f:α→V)(d:V)(l:List α)(i:Nat):List V:=(l.take i).map f++List.replicate (l.length-i) d
theorem Q6w{α:Type}{f:α→V}{d:V}{l:List α}{i:Nat}:(Q7w f d l i).length=l.length:=by
 simp[Q7w];omega
theorem Qym{α:Type}{f:α→V}{d:V}{l:List α}:Q7w f d l 0=List.replicate l.length d:=by simp[Q7w]
theorem Qb5{α:Type}{f:α→V}{d:V}{l:List α}:Q7w f d l l.length=l.map f:=by simp[Q7w]
theorem Q116{α:Type}{f:α→V}{d:V}{l:List α}{i:Nat}(h:i<l.length):(Q7w f d l i)[i]? =some d:=by
 simp only[Q7w]
 rw[List.getElem?_append_right Z3l]
 simp[List.getElem?_replicate]
 omega
theorem Qgr{α:Type}{f:α→V}{d:V}{l:List α}{i:Nat}{h':i<(Q7w f d l i).length}(h:i<l.length):(Q7w f d l i)[i]'h'=d:=by
 have:=Q116 (f:=f) (d:=d) h
 rw[List.getElem?_eq_getElem h'] at this
 exact Option.some.inj this
theorem Qn2{α:Type}{f:α→V}{d:V}{l:List α}{i:Nat}(h:i<l.length):(Q7w f d l i).set i (f l[i])=Q7w f d l (i+1):=by
 simp only[Q7w]
 rw[List.set_append_right _ _ Z3l]
 have e1:l.length-i=(l.length-(i+1))+1:=by omega
 have e2:i-((l.take i).map f).length=0:=by simp;omega
 rw[e1,List.replicate_succ,e2,List.set_cons_zero,List.take_succ_eq_append_getElem h,List.map_append,List.append_assoc]
 rfl
theorem Qwe{α:Type}{f:α→V}{d:V}(hf: ∀x,(f x).pure=true)(hd:d.pure=true){l:List α}{i:Nat}:pureL (Q7w f d l i)=true:=by
 simp only[Q7w,Qe8,Qcy,Bool.and_eq_true,List.all_eq_true,List.mem_map,List.mem_replicate]
 intro x hx
 rcases List.mem_append.1 hx with hx|hx
 ·obtain ⟨y,_,rfl⟩:=List.mem_map.1 hx;exact hf y
 ·rw[(List.mem_replicate.1 hx).2];exact hd
theorem Q3j{α:Type}{f:α→Nat}{l:List α}{y:α}(h:y∈l):f y≤(l.map f).sum:=by
 induction l with
 |nil=>simp at h
 |cons x l ih=>
  simp only[List.map_cons,List.sum_cons]
  rcases List.mem_cons.1 h with rfl|h
  ·omega
  ·have:=ih h;omega
def sub(z:Int)(n:Nat):Int:=if z-n<0 then-1 else z-n
def Q7e(x:Fld):Nat:=x.name.length+x.type.length
def bigF(x:Fld):Prop:=x.name.length<4611686018427387904∧x.type.length<4611686018427387904
def Q73(x:Ins):Nat:=x.cls.length+x.name.length+x.desc.length
def bigI(x:Ins):Prop:=x.cls.length<4611686018427387904∧x.name.length<4611686018427387904∧x.desc.length<4611686018427387904
def Qf0(x:Hdl):Nat:=x.cls.length
def bigH(x:Hdl):Prop:=x.cls.length<4611686018427387904
def Q3q(x:Mth):Nat:=x.name.length+x.desc.length+(x.code.length+(x.code.map Q73).sum)+(x.hdls.length+(x.hdls.map Qf0).sum)
def Qsk(x:Mth):Prop:=x.name.length<4611686018427387904∧x.desc.length<4611686018427387904∧x.code.length<4611686018427387904∧(∀y∈x.code,bigI y)∧x.hdls.length<4611686018427387904∧(∀y∈x.hdls,bigH y)
def Q1r(x:Cls):Nat:=x.name.length+x.super.length+(x.fields.length+(x.fields.map Q7e).sum)+(x.methods.length+(x.methods.map Q3q).sum)
def Qpz(x:Cls):Prop:=x.name.length<4611686018427387904∧x.super.length<4611686018427387904∧x.fields.length<4611686018427387904∧(∀y∈x.fields,bigF y)∧x.methods.length<4611686018427387904∧(∀y∈x.methods,Qsk y)
def fix{α:Type}(p:α→Bool):List α→Int
 |[]=> -1
 |x::l=>if p x then 0 else if fix p l<0 then-1 else fix p l+1
theorem Q5h{α:Type}{p:α→Bool}: ∀{l:List α},(∀x∈l,p x=false)→fix p l= -1
 |[],_=>rfl
 |x::l,h=>by
  have:=Q5h (l:=l) (fun y hy=>h y Zca)
  simp[fix,h x Z3,this]
theorem Q5y{α:Type}{p:α→Bool}: ∀{l:List α} {i:Nat} (h:i<l.length),(∀x∈l.take i,p x=false)→p l[i]=true→fix p l=i
 |[],_,h,_,_=>by simp at h
 |x::l,0,_,_,hp=>by simp at hp;simp[fix,hp]
 |x::l,i+1,h,hn,hp=>by
  have:=Q5y (l:=l) (i:=i) Z49 (fun y hy=>hn y (by rw[List.take_succ_cons];simp[hy])) (by simpa using hp)
  have hx:=hn x (by rw[List.take_succ_cons];simp)
  simp[fix,hx,this]
  try omega
theorem Qgn{α:Type}{p:α→Bool}: ∀{l:List α},-1≤fix p l∧fix p l<l.length
 |[]=>by simp[fix]
 |x::l=>by
  have:=Qgn (p:=p) (l:=l)
  simp only[fix]
  split
  ·simp;try omega
  ·split<;>simp<;>omega
theorem Qvl{α:Type}{p:α→Bool}: ∀{l:List α},0≤fix p l↔l.any p=true
 |[]=>by simp[fix]
 |x::l=>by
  have h1:=Qgn (p:=p) (l:=l)
  have h2:=Qvl (p:=p) (l:=l)
  simp only[fix,List.any_cons]
  by_cases hx:p x=true
  ·simp[hx]
  ·rw[if_neg hx,show p x=false from by simpa using hx,Bool.false_or,←h2]
   split<;>omega
theorem Qn1{α:Type}{p:α→Bool}{l:List α}:decide (0≤fix p l)=l.any p:=by
 rw[Bool.eq_iff_iff,decide_eq_true_eq,Qvl]
theorem Qu8{α:Type}{p:α→Bool}{l:List α}{i:Nat}(h:i<l.length)(hp:p l[i]=true):decide (fix p l=i)=(l.take i).all (fun x=> !p x):=by
 by_cases hn: ∀x∈l.take i,p x=false
 ·rw[Q5y h hn hp]
  simp
  intro x hx;exact hn x Z8v
 ·have h2:(l.take i).all (fun x=> !p x)=false:=by
   rw[List.all_eq_false]
   refine Classical.byContradiction fun hc=>hn fun x hx=> ?_
   cases hpx:p x
   ·rfl
   ·exact absurd ⟨x,hx,by simp[hpx]⟩ hc
  rw[h2]
  simp only[decide_eq_false_iff_not]
  intro e
  apply hn
  clear h2 hn
  induction l generalizing i with
  |nil=>simp
  |cons y l ih=>
   cases i with
   |zero=>simp
   |succ i=>
    have h1:=Qgn (p:=p) (l:=l)
    simp only[fix] at e
    split at e
    ·omega
    ·rename_i hy
     split at e
     ·omega
     ·intro x hx
      rw[List.take_succ_cons] at hx
      rcases List.mem_cons.1 hx with rfl|hx
      ·simpa using hy
      ·exact ih (i:=i) Z49 (by simpa using hp) Zb x hx
theorem Q7d{α:Type}{p:α→Bool}{l:List α}{i:Nat}(h:i<l.length)(hn: ∀x∈l.take i,p x=false)(hp:p l[i]=false): ∀x∈l.take (i+1),p x=false:=by
 intro x hx
 rw[List.take_succ_eq_append_getElem h] at hx
 rcases List.mem_append.1 hx with hx|hx
 ·exact hn x hx
 ·simp at hx;rw[hx];exact hp
def Q45(t:Str):Int:=if (Qd t).code=0 then (Qd t).params.length else-1
theorem Qig(t:Str): -1≤Q45 t∧Q45 t≤8:=by
 have:=Q7x t
 unfold Q45;split<;>omega
def Qly(x:Mth):Bool:= !(decide (x.code.length<1∨60<x.code.length∨6<x.hdls.length))&&(x.code.all (Q69 x.code.length)&&x.hdls.all (Q3v x.code.length))
theorem Qru{t:Str}(h:(Qd t).code=0):Qy t=Qd t:=by
 unfold Qd at h⊢
 split
 ·rename_i h1;rw[if_pos h1] at h;simp at h
 ·rfl
theorem Qif{x:Mth}(h:Q39 x=true):(Qd x.desc).code=0:=by
 simp only[Q39,Bool.and_eq_true,decide_eq_true_eq] at h;exact h.1.2
theorem Q6f{x:Mth}(h:Q39 x=true)(h2:x.abstr=false):
  Q2t x=(Qly x&&decide ((Q45 x.desc+if x.static=true then 0 else 1)≤x.locals)&&(!decide (x.name=Qn)||(!x.static&& !x.final&&decide ((Qy x.desc).res=[86])))):=by
 have hc:=Qif h
 rw[Qru hc]
 have hs:((Qgi x:Nat):Int)=Q45 x.desc+if x.static=true then 0 else 1:=by
  unfold Qgi Q45;rw[if_pos hc];split<;>simp
 by_cases h3:x.code.length<1∨60<x.code.length∨x.locals<Qgi x∨6<x.hdls.length
 ·rw[Ql1 h2 h3]
  rw[←hs]
  by_cases h4:x.locals<Qgi x
  ·rw[decide_eq_false (show¬((Qgi x:Nat):Int)≤x.locals by omega)];simp
  ·have:x.code.length<1∨60<x.code.length∨6<x.hdls.length:=by omega
   unfold Qly
   rw[decide_eq_true this];simp
 ·rw[Qor h h2 h3,←hs,decide_eq_true (show ((Qgi x:Nat):Int)≤x.locals by omega)]
  unfold Qly
  rw[decide_eq_false (show¬(x.code.length<1∨60<x.code.length∨6<x.hdls.length) by omega)]
  simp[Bool.and_assoc]
def Q3k:List Str:=[[79,98,106,101,99,116],[69,114,114,111,114],[78,117,108,108,69,114,114,111,114],[82,97,110,103,101,69,114,114,111,114],[67,97,115,116,69,114,114,111,114],[77,97,116,104,69,114,114,111,114],[70,117,108,108,69,114,114,111,114],[68,101,101,112,69,114,114,111,114]]
theorem Qhu:Q3k.length=8:=rfl
def Q74(n:Str):List Str→Nat→Int
 |[],_=> -1
 |c::cs,i=>if c=n then i else Q74 n cs (i+1)
def Q1u(n:Str):Int:=Q74 n Q3k 0
def Qi(n:Str):List Cls→Nat→Int
 |[],_=> -1
 |c::cs,i=>if c.name=n then i else Qi n cs (i+1)
def Q1w(l:List Cls):Nat:=l.length+(l.map Q1r).sum
theorem Q46{l:List Cls}{i:Nat}(h:i<l.length):Q1r l[i]≤Q1w l:=by
 have:=Q3j (f:=Q1r) (List.getElem_mem h)
 unfold Q1w;omega
def isKnown(l:List Cls)(n:Str):Bool:=decide (0≤Q1u n)||decide (0≤Qi n l 0)
def Qjg(t:Str):Str:=if Q23 t 0 73 then [] else seg t 1 (t.length-1)
def Q1c(t:Str):Str:=if Q1n t then (if Q23 t 0 91 then Qjg (t.drop 1) else Qjg t) else []
def Q53(l:List Cls)(t:Str):Bool:=decide (Q1c t=[])||isKnown l (Q1c t)
def Qgv(l:List Cls)(t:Str):Bool:=(Qd t).params.all (Q53 l)&&Q53 l (Qd t).res
def Qs8(l:List Cls)(c:Cls):Bool:=c.fields.all (fun f=>Q53 l f.type)&&c.methods.all (fun m=>Qgv l m.desc)
def Q1j(n d:Str):List Mth→Nat→Int
 |[],_=> -1
 |m::ms,i=>if m.name=n∧m.desc=d then i else Q1j n d ms (i+1)
def Qt:Str:=[79,98,106,101,99,116]
def Q16:Str:=[69,114,114,111,114]
def Q6q(l:List Cls)(n:Str):Str:=
 if Q1u n=0 then [] else if Q1u n=1 then Qt else if 1<Q1u n then Q16
 else if Qi n l 0<0 then [] else (atL l (Qi n l 0).toNat).super
theorem Qg8{t:Str}(h:Q1n t=true):(Q23 t 0 91=true→1<t.length)∧(Q23 t 0 91=true→Q23 t 1 73=false→3<t.length)∧(Q23 t 0 91=false→Q23 t 0 73=false→2<t.length):=by
 simp only[Q1n,Bool.and_eq_true,decide_eq_true_eq] at h
 obtain ⟨⟨h0,h1⟩,h2⟩:=h
 have key: ∀p,p≤t.length→(Q5b t p).2=true→p<(Q5b t p).1∧(Q23 t p 73=false→p+2<(Q5b t p).1):=by
  intro p hp hk
  refine ⟨(Quo hp).2.2.1 hk,fun h3=> ?_⟩
  simp only[Q5b,h3,Bool.false_eq_true,if_false] at hk⊢
  split at hk
  ·rename_i h4
   rw[if_pos h4]
   simp only[nmP] at hk⊢
   split at hk
   ·rename_i h5
    rw[if_pos h5]
    simp at h5
    simp
    omega
   ·cases hk
  ·cases hk
 by_cases hb:Q23 t 0 91=true
 ·have hlt:=Q3o hb
  simp only[tyP,hb,if_true] at h1 h2
  obtain ⟨k1,k2⟩:=key (0+1) Zb h1
  refine ⟨fun _=>by omega,fun _ h=>by have:=k2 h;omega,fun h=>by rw[hb] at h;cases h⟩
 ·simp only[Bool.not_eq_true] at hb
  simp only[tyP,hb,Bool.false_eq_true,if_false] at h1 h2
  obtain ⟨k1,k2⟩:=key 0 Zb h1
  refine ⟨fun h=>(by rw[hb] at h;cases h),fun h=>(by rw[hb] at h;cases h),fun _ h=>by have:=k2 h;omega⟩
theorem Qtz{t:Str}{p n:Nat}:Q23 (t.drop 1) p n=Q23 t (p+1) n:=by simp[Q23,List.getElem?_drop,Nat.add_comm]
theorem Q4y{n:Str}: ∀{l:List Cls} {k:Nat},(Qi n l k= -1∧ ∀c∈l,c.name≠n)∨ ∃i,∃h:i<l.length,Qi n l k=((k+i:Nat):Int)∧l[i].name=n∧ ∀j (hj:j<i),l[j].name≠n
 |[],_=> .inl ⟨rfl,by simp⟩
 |c::l,k=>by
  by_cases hc:c.name=n
  ·exact .inr ⟨0,by simp,by simp[Qi,hc],by simpa using hc,fun j hj=>absurd hj Zb⟩
  ·rcases @Q4y n l (k+1) with ⟨h1,h2⟩|⟨i,hi,h1,h2,h3⟩
   ·refine .inl ⟨by simp[Qi,hc,h1],fun x hx=> ?_⟩
    rcases List.mem_cons.1 hx with rfl|hx
    ·exact hc
    ·exact h2 x hx
   ·refine .inr ⟨i+1,by simpa using hi,by simp[Qi,hc,h1];omega,by simpa using h2,fun j hj=> ?_⟩
    cases j with
    |zero=>simpa using hc
    |succ j=>simpa using h3 j Zb
theorem Qgp{n:Str}{l:List Cls}(h:0≤Qi n l 0):(Qi n l 0).toNat<l.length:=by
 rcases @Q4y n l 0 with ⟨h1,_⟩|⟨i,hi,h1,_⟩
 ·omega
 ·omega
theorem Qgq{n:Str}{l:List Cls}: -1≤Qi n l 0∧Qi n l 0<l.length:=by
 rcases @Q4y n l 0 with ⟨h1,_⟩|⟨i,hi,h1,_⟩<;>omega
theorem Q6u{n d:Str}: ∀{l:List Mth} {k:Nat},(Q1j n d l k= -1∧ ∀c∈l,¬(c.name=n∧c.desc=d))∨ ∃i,∃h:i<l.length,Q1j n d l k=((k+i:Nat):Int)∧(l[i].name=n∧l[i].desc=d)∧ ∀j (hj:j<i),¬(l[j].name=n∧l[j].desc=d)
 |[],_=> .inl ⟨rfl,by simp⟩
 |c::l,k=>by
  by_cases hc:c.name=n∧c.desc=d
  ·exact .inr ⟨0,by simp,by simp[Q1j,hc],by simpa using hc,fun j hj=>absurd hj Zb⟩
  ·rcases @Q6u n d l (k+1) with ⟨h1,h2⟩|⟨i,hi,h1,h2,h3⟩
   ·refine .inl ⟨by simp only[Q1j,if_neg hc,h1],fun x hx=> ?_⟩
    rcases List.mem_cons.1 hx with rfl|hx
    ·exact hc
    ·exact h2 x hx
   ·refine .inr ⟨i+1,by simpa using hi,by simp only[Q1j,if_neg hc,h1];omega,by simpa using h2,fun j hj=> ?_⟩
    cases j with
    |zero=>simpa using hc
    |succ j=>simpa using h3 j Zb
def nxt(l:List Cls)(k:Int):Int:=if k<0 then-1 else Qi (atL l k.toNat).super l 0
def ups(l:List Cls):Nat→Int→List Nat
 |0,_=>[]
 |f+1,k=>if k<0 then [] else k.toNat::ups l f (nxt l k)
def Qkl(l:List Cls):Nat→Int→Prop
 |0,k=>k<0
 |f+1,k=>k<0∨Qkl l f (nxt l k)
def Qr0(l:List Cls)(n d:Str):Nat→Int→Bool
 |0,_=>false
 |f+1,k=>if k<0 then false else if 0≤Q1j n d (atL l k.toNat).methods 0 then (atL (atL l k.toNat).methods (Q1j n d (atL l k.toNat).methods 0).toNat).abstr else Qr0 l n d f (nxt l k)
def Q7o(l:List Cls)(c:Cls)(i:Nat)(m:Mth):Bool:=
 decide (m.name=Qn)||
  (!(decide (0≤Q1j m.name m.desc c.methods 0)&&(m.final|| !(m.static==(atL c.methods (Q1j m.name m.desc c.methods 0).toNat).static)))&&
  !(m.abstr&& !c.abstr&&Qr0 l m.name m.desc (l.length+1) i))
def Quh(l:List Cls)(i:Nat):Bool:=(ups l l.length (nxt l i)).all fun u=>(atL l u).methods.all (Q7o l (atL l i) i)
theorem Qal{l:List Cls}{k:Nat}:nxt l k=Qi (atL l k).super l 0:=by simp[nxt,show¬((k:Int)<0) from by omega]
theorem Qa2{l:List Cls}{k:Int}: -1≤nxt l k∧nxt l k<l.length:=by
 unfold nxt
 split
 ·omega
 ·exact Qgq
theorem Qe0{l:List Cls}{f k:Nat}:ups l (f+1) k=k::ups l f (nxt l k):=by simp[ups,show¬((k:Int)<0) from by omega]
theorem Qwq{l:List Cls}{n d:Str}{f k:Nat}:Qr0 l n d (f+1) k=if 0≤Q1j n d (atL l k).methods 0 then (atL (atL l k).methods (Q1j n d (atL l k).methods 0).toNat).abstr else Qr0 l n d f (nxt l k):=by simp[Qr0,show¬((k:Int)<0) from by omega]
theorem Qmk{l:List Cls}{f k:Nat}(h:Qkl l f k): ∃g,f=g+1∧Qkl l g (nxt l k):=by
 cases f with
 |zero=>exact absurd h (by simp[Qkl])
 |succ g=>exact ⟨g,rfl,h.resolve_left Zb⟩
theorem Qea{n d:Str}{l:List Mth}(h:0≤Q1j n d l 0):(Q1j n d l 0).toNat<l.length:=by
 rcases @Q6u n d l 0 with ⟨h1,_⟩|⟨i,hi,h1,_⟩<;>omega
theorem Qww{l:List Mth}{j:Nat}(h:j<l.length):0≤Q1j l[j].name l[j].desc l 0:=by
 rcases @Q6u l[j].name l[j].desc l 0 with ⟨_,h2⟩|⟨i,hi,h1,_⟩
 ·exact absurd ⟨rfl,rfl⟩ (h2 _ (List.getElem_mem h))
 ·omega
def plc(es:List (Str×Int)):Nat→List Cls→List (Str×Int)
 |_,[]=>es
 |i,c::cs=>plc (if (Q2w es c.name).isSome then es else es++[(c.name,(i:Int))]) (i+1) cs
def places(l:List Cls):List (Str×Int):=plc [] 0 l
@[simp] def wv (l:List Cls):V:= .fp [.lst false 6 (l.map eC),.fmap (places l)]
theorem Qv9(es:List (Str×Int))(k:Str)(v:Int)(n:Str):Q2w (es++[(k,v)]) n=match Q2w es n with|some x=>some x|none=>if k=n then some v else none:=by
 induction es with
 |nil=>simp[Q2w]
 |cons e es ih=>
  simp only[List.cons_append,Q2w]
  split
  ·simp
  ·exact ih
theorem Qtv(n:Str): ∀(cs:List Cls) (es:List (Str×Int)) (i:Nat),Q2w (plc es i cs) n=match Q2w es n with|some x=>some x|none=>if Qi n cs i<0 then none else some (Qi n cs i)
 |[],es,i=>by simp only[plc,Qi];cases Q2w es n<;>simp
 |c::cs,es,i=>by
  simp only[plc]
  rw[Qtv n cs _ (i+1)]
  by_cases hs:(Q2w es c.name).isSome=true
  ·rw[if_pos hs]
   cases hn:Q2w es n with
   |some x=>rfl
   |none=>
    have:c.name≠n:=fun e=>by rw[e,hn] at hs;cases hs
    simp only[Qi,if_neg this]
  ·rw[if_neg hs,Qv9]
   cases hn:Q2w es n with
   |some x=>rfl
   |none=>
    by_cases hc:c.name=n
    ·simp only[if_pos hc,Qi]
     rw[if_neg Zb]
    ·simp only[if_neg hc,Qi]
theorem Ql2(l:List Cls)(n:Str):Q2w (places l) n=if Qi n l 0<0 then none else some (Qi n l 0):=Qtv n l [] 0
def Qqv(l:List Cls)(n:Str):Int:=if 0≤Qi n l 0 then Qi n l 0 else 0
@[simp] theorem look_some (l:List Cls) (n:Str):(Q2w (places l) n).isSome=decide (0≤Qi n l 0):=by
 rw[Ql2];split<;>simp<;>omega
@[simp] theorem look_get (l:List Cls) (n:Str):(Q2w (places l) n).getD 0=Qqv l n:=by
 rw[Ql2];unfold Qqv;split<;>(split<;>first|rfl|omega)
def zC:Cls:=⟨[],[],false,false,[],[]⟩
def Q1q(l:List Cls)(n:Str):Cls:=if 0≤Qi n l 0 then atL l (Qi n l 0).toNat else zC
theorem Q3w{l:List Cls}{n:Str}(h:0≤Qi n l 0): ∃i,∃h:i<l.length,Qi n l 0=i∧Qqv l n=i∧Q1q l n=l[i]∧l[i].name=n:=by
 rcases @Q4y n l 0 with ⟨h1,_⟩|⟨i,hi,h1,h2,_⟩
 ·omega
 ·refine ⟨i,hi,by simpa using h1,?_,?_,h2⟩
  ·unfold Qqv;rw[if_pos h];simpa using h1
  ·unfold Q1q;rw[if_pos h,h1];simp[Qa hi]
theorem Q50{l:List Cls}{n:Str}(h: ¬0≤Qi n l 0):Q1q l n=zC:=by unfold Q1q;rw[if_neg h]
theorem Q175:Wk (.agg [.str [],.str [],.bool false,.bool false,.raw (.slice none 0 0),.raw (.slice none 0 0)]) (eC zC):=
 Wk.agg (.cons (Wk.refl _) (.cons (Wk.refl _) (.cons (Wk.refl _) (.cons (Wk.refl _) (.cons (Wk.nilSlice _ _) (.cons (Wk.nilSlice _ _) .nil))))))
theorem Q11z:Q1r zC=0:=rfl
theorem Qeq{l:List Cls}{n:Str}:Q1r (Q1q l n)≤Q1w l:=by
 by_cases h:0≤Qi n l 0
 ·obtain ⟨i,hi,_,_,e,_⟩:=Q3w h
  rw[e];exact Q46 hi
 ·rw[Q50 h,Q11z];omega
def bIn(n:Str):Bool:=decide (0≤Q1u n)
theorem Qzy(n:Str):Q3k.any (fun x=>decide (n=x))=bIn n:=by
 have key: ∀(l:List Str) (i:Nat),0≤Q74 n l i↔l.any (fun x=>decide (n=x))=true:=by
  intro l
  induction l with
  |nil=>intro i;simp[Q74]
  |cons x l ih=>
   intro i
   simp only[Q74,List.any_cons]
   by_cases h:x=n
   ·subst h;simp
   ·rw[if_neg h,ih,decide_eq_false (fun e=>h e.symm),Bool.false_or]
 rw[Bool.eq_iff_iff,←key Q3k 0,bIn,decide_eq_true_eq]
 rfl
theorem Qkp{t:Str}(h:Q1n t=true)(h1:t≠[73])(h2:t≠[91,73]):
  2<t.length∧(Q23 t 0 91=true→3<t.length)∧Q1c t=if Q23 t 0 91=true then seg t 2 (t.length-1) else seg t 1 (t.length-1):=by
 have hlong:=Qg8 h
 have hl:=Q2e h
 have h':=h
 simp only[Q1n,Bool.and_eq_true,decide_eq_true_eq] at h'
 obtain ⟨⟨_,k1⟩,k2⟩:=h'
 by_cases h91:Q23 t 0 91=true
 ·have h73:Q23 t 1 73=false:=by
   cases h3:Q23 t 1 73 with
   |false=>rfl
   |true=>
    simp only[tyP,h91,if_true,Q5b,h3] at k2
    exfalso
    match t,k2 with
    |[a,b],_=>
     simp only[Q23,List.getElem?_cons_zero,List.getElem?_cons_succ] at h91 h3
     simp at h91 h3
     apply h2
     rw[(Qyy (n:=91) Z3w).1 h91,(Qyy (n:=73) Z3w).1 h3]
     rfl
  have hl3:=hlong.2.1 h91 h73
  refine ⟨by omega,fun _=>hl3,?_⟩
  rw[Q1c,if_pos h,if_pos h91,if_pos h91,Qjg,if_neg (by rw[Qtz];simp[h73])]
  simp only[seg,List.length_drop]
  rw[List.take_drop,List.drop_drop]
  congr 2
  omega
 ·have h91:Q23 t 0 91=false:=by simpa using h91
  have h73:Q23 t 0 73=false:=by
   cases h3:Q23 t 0 73 with
   |false=>rfl
   |true=>
    simp only[tyP,h91,Q5b,h3] at k2
    exfalso
    match t,k2 with
    |[a],_=>
     simp only[Q23,List.getElem?_cons_zero] at h3
     simp at h3
     apply h1
     rw[(Qyy (n:=73) Z3w).1 h3]
     rfl
  have hl3:=hlong.2.2 h91 h73
  refine ⟨hl3,by simp[h91],?_⟩
  rw[Q1c,if_pos h,if_neg (by simp[h91]),if_neg (by simp[h91]),Qjg,if_neg (by simp[h73])]
theorem Qko{t:Str}(h:Q1n t=true→(t=[73]∨t=[91,73])):Q1c t=[]:=by
 by_cases hr:Q1n t=true
 ·rcases h hr with rfl|rfl<;>decide
 ·rw[Q1c,if_neg hr]
def Q2b(l:List Cls)(n:Str):Str:=
 if 0≤Qi n l 0 then (Q1q l n).super else if bIn n=false∨n=Qt then [] else if n=Q16 then Qt else Q16
def Q7u(l:List Cls)(c:Cls):Int:=
 if isKnown l c.super then (if (decide (0≤Qi c.super l 0)&&(Q1q l c.super).final)||(Q3k.drop 2).any (fun x=>decide (c.super=x)) then 14 else 0) else 8
theorem Q11p(l:List Cls)(t:Str):(decide (Q1c t=[])||isKnown l (Q1c t))=Q53 l t:=rfl
theorem Qp0{α:Type}(p:α→Bool)(l:List α):(l.any fun x=> !p x)= !l.all p:=by
 induction l with
 |nil=>rfl
 |cons x l ih=>simp only[List.any_cons,List.all_cons,ih,Bool.not_and]
theorem Q4i{n d:Str}(l:List Mth):fix (fun m=>decide (m.name=n)&&decide (m.desc=d)) l=Q1j n d l 0:=by
 have key: ∀(l:List Mth) (i:Nat),Q1j n d l i=if fix (fun m=>decide (m.name=n)&&decide (m.desc=d)) l<0 then-1 else fix (fun m=>decide (m.name=n)&&decide (m.desc=d)) l+i:=by
  intro l
  induction l with
  |nil=>intro i;simp[Q1j,fix]
  |cons c l ih=>
   intro i
   simp only[Q1j,fix]
   by_cases hc:c.name=n∧c.desc=d
   ·simp[hc]
   ·rw[if_neg hc,ih]
    have:(decide (c.name=n)&&decide (c.desc=d))=false:=by
     rw[Bool.eq_false_iff];intro h;apply hc;simpa using h
    simp only[this,Bool.false_eq_true,if_false]
    split
    ·simp
    ·rw[if_neg Zb];omega
 rw[key]
 have:=Qgn (p:=fun m:Mth=>decide (m.name=n)&&decide (m.desc=d)) (l:=l)
 split<;>omega
theorem Qy0: ∀(n:Nat) (f:Nat→Nat),(∀s,s≤n→f s<n)→ ∃a b,a<b∧b≤n∧f a=f b
 |0,f,h=>absurd (h 0 (Nat.le_refl _)) Zb
 |n+1,f,h=>by
  by_cases hc: ∃a,a≤n∧f a=f (n+1)
  ·obtain ⟨a,h1,h2⟩:=hc
   exact ⟨a,n+1,by omega,Nat.le_refl _,h2⟩
  ·obtain ⟨a,b,h1,h2,h3⟩:=Qy0 n (fun s=>if f (n+1)<f s then f s-1 else f s) (fun s hs=>by
    have h1:=h s Zb
    have h2:=h (n+1) (Nat.le_refl _)
    have h3:f s≠f (n+1):=fun e=>hc ⟨s,hs,e⟩
    split<;>omega)
   refine ⟨a,b,h1,by omega,?_⟩
   have k1:f a≠f (n+1):=fun e=>hc ⟨a,by omega,e⟩
   have k2:f b≠f (n+1):=fun e=>hc ⟨b,by omega,e⟩
   split at h3<;>split at h3<;>omega
def itr(l:List Cls):Nat→Int→Int
 |0,k=>k
 |s+1,k=>itr l s (nxt l k)
theorem Q14h{l:List Cls}{k:Int}(h:k<0):nxt l k= -1:=by simp[nxt,h]
theorem Qed(l:List Cls): ∀(a b:Nat) (k:Int),itr l (a+b) k=itr l b (itr l a k)
 |0,b,k=>by simp[itr]
 |a+1,b,k=>by rw[show a+1+b=(a+b)+1 from by omega];simp only[itr];exact Qed l a b _
theorem Qrk{l:List Cls}: ∀(s:Nat) {k:Int},k<l.length→itr l s k<l.length
 |0,k,h=>h
 |s+1,k,h=>Qrk s (Qa2).2
theorem Qp1{l:List Cls}: ∀(f:Nat) {k:Int},itr l f k<0→Qkl l f k
 |0,k,h=>h
 |f+1,k,h=> .inr (Qp1 f h)
theorem Qqd{l:List Cls}: ∀(s:Nat) {k:Int},k<0→itr l s k<0
 |0,k,h=>h
 |s+1,k,h=>Qqd s (by rw[Q14h h];omega)
def Qp6(l:List Cls)(i:Nat):Nat→Int→Bool
 |0,_=>false
 |f+1,k=>if k<0 then false else if k=i then true else Qp6 l i f (nxt l k)
def cyc(l:List Cls)(i:Nat):Bool:=Qp6 l i (l.length+1) (nxt l i)
theorem Qvp{l:List Cls}{i:Nat}: ∀(s f:Nat) {k:Int},s<f→itr l s k=i→Qp6 l i f k=true
 |0,f,k,h,e=>by
  cases f with
  |zero=>omega
  |succ f=>simp only[itr] at e;subst e;simp[Qp6,show¬((i:Int)<0) from by omega]
 |s+1,f,k,h,e=>by
  cases f with
  |zero=>omega
  |succ f=>
   simp only[Qp6]
   have h0: ¬k<0:=fun hk=>by have:=Qqd (l:=l) (s+1) hk;omega
   rw[if_neg h0]
   split
   ·rfl
   ·exact Qvp s f Zb e
theorem Qxc{l:List Cls}{i:Nat}: ∀(f:Nat) {k:Int},Qp6 l i f k=true→ ∃s,s<f∧itr l s k=i
 |0,k,h=>by simp[Qp6] at h
 |f+1,k,h=>by
  simp only[Qp6] at h
  split at h
  ·cases h
  ·split at h
   ·rename_i e;exact ⟨0,by omega,e⟩
   ·obtain ⟨s,h1,h2⟩:=Qxc f h
    exact ⟨s+1,by omega,h2⟩
theorem Q9j{l:List Cls}(h: ∀i,i<l.length→cyc l i=false){j:Nat}(hj:j<l.length):Qkl l (l.length+1) j:=by
 apply Qp1
 rcases Int.lt_or_le (itr l (l.length+1) j) 0 with h0|h0
 ·exact h0
 have hpos: ∀s,s≤l.length+1→0≤itr l s j:=fun s hs=>by
  rcases Int.lt_or_le (itr l s j) 0 with h1|h1
  ·have:=Qqd (l:=l) (l.length+1-s) h1
   rw[←Qed,show s+(l.length+1-s)=l.length+1 from by omega] at this
   omega
  ·exact h1
 obtain ⟨a,b,h1,h2,h3⟩:=Qy0 l.length (fun s=>(itr l s j).toNat) (fun s hs=>by
  have:=hpos s Zb
  have:=Qrk (l:=l) s (k:=j) Zb
  omega)
 have ha:=hpos a Zb
 have hb:=hpos b Zb
 have hlt:=Qrk (l:=l) a (k:=j) Zb
 have hcy:=h (itr l a j).toNat Zb
 have e:itr l (b-a-1) (nxt l (itr l a j))=((itr l a j).toNat:Int):=by
  show itr l (b-a-1+1) (itr l a j)=_
  rw[←Qed,show a+(b-a-1+1)=b from by omega]
  omega
 have:=Qvp (l:=l) (i:=(itr l a j).toNat) (b-a-1) (l.length+1) Zb e
 rw[cyc,show (((itr l a j).toNat:Nat):Int)=itr l a j from by omega] at hcy
 rw[this] at hcy
 cases hcy
def Q12(code:Nat→Int):Nat→Nat→Option (Nat×Int)
 |0,_=>none
 |n+1,i=>if code i=0 then Q12 code n (i+1) else some (i,code i)
theorem Q2y{code:Nat→Int}: ∀{n i:Nat},Q12 code n i=none→ ∀j,i≤j→j<i+n→code j=0
 |0,i,_,j,h1,h2=>by omega
 |n+1,i,h,j,h1,h2=>by
  simp only[Q12] at h
  split at h
  ·rename_i h0
   by_cases hj:j=i
   ·subst hj;exact h0
   ·exact Q2y h j Zb Zb
  ·cases h
theorem Qgo{c1 c2:Nat→Int}: ∀{n i:Nat},(∀j,i≤j→j<i+n→c1 j=c2 j)→Q12 c1 n i=Q12 c2 n i
 |0,_,_=>rfl
 |n+1,i,h=>by
  simp only[Q12,h i (Nat.le_refl _) Zb,Qgo (n:=n) (i:=i+1) (fun j h1 h2=>h j Zb Zb)]
def Q5d(l:List Cls)(i:Nat):Int:=if Q3l (atL l i) then (if 0≤Q1u (atL l i).name∨Qi (atL l i).name l 0<i then 7 else 0) else 1
def Q8z(l:List Cls)(i:Nat):Int:=if isKnown l (atL l i).super then (if 1<Q1u (atL l i).super∨(0≤Qi (atL l i).super l 0∧(atL l (Qi (atL l i).super l 0).toNat).final=true) then 14 else 0) else 8
def Qbs(l:List Cls)(i:Nat):Int:=if Qs8 l (atL l i) then 0 else 6
def Qa9(l:List Cls)(i:Nat):Int:=if cyc l i then 9 else 0
def Qcz(l:List Cls)(i:Nat):Int:=if Quh l i then 0 else 14
def Q4t(l:List Cls):Int×Int:=
 match Q12 (Q5d l) l.length 0 with
 |some (i,c)=>(i,c)
 |none=>match Q12 (Q8z l) l.length 0 with
  |some (i,c)=>(i,c)
  |none=>match Q12 (Qbs l) l.length 0 with
   |some (i,c)=>(i,c)
   |none=>match Q12 (Qa9 l) l.length 0 with
    |some (i,c)=>(i,c)
    |none=>match Q12 (Qcz l) l.length 0 with
     |some (i,c)=>(i,c)
     |none=>(0,0)
def Q31(l:List Cls):Int×Int:=if 400<l.length then (0,2) else if 10<l.length then (10,1) else Q4t l
def Qs(l:List Cls):Bool:=decide ((Q31 l).2=0)
theorem Q3s{l:List Cls}{i:Nat}(hi:i<l.length)(h:Q5d l i=0):Qi l[i].name l 0=i:=by
 simp only[Q5d,Qa hi] at h
 split at h
 ·split at h
  ·omega
  ·rename_i hn
   rcases @Q4y l[i].name l 0 with ⟨_,h2⟩|⟨j,hj,h1,_,h3⟩
   ·exact absurd rfl (h2 _ (List.getElem_mem hi))
   ·rcases Nat.lt_or_ge i j with h4|h4
    ·exact absurd rfl (h3 i h4)
    ·omega
 ·omega
theorem Q6l(t:Str):(Qy t).res.length≤t.length∧ ∀s∈(Qy t).params,s.length≤t.length:=by
 unfold Qy
 split
 ·rename_i h0
  have hlt:=Q3o h0
  split
  ·simp[Q4f]
  ·rename_i ps p h
   have hp:=Qck h Z3
   unfold Q1t
   split
   ·split
    ·simp[Q4f]
    ·exact ⟨by simp;omega,hp⟩
   ·split
    ·split
     ·simp[Q4f]
     ·exact ⟨by simp[seg];omega,hp⟩
    ·simp[Q4f]
 ·simp[Q4f]
theorem Ql9(t:Str):(Qy t).params.length≤8:=by
 unfold Qy
 split
 ·split
  ·simp[Q4f]
  ·rename_i ps p h
   have:=Qjp h
   unfold Q1t
   split
   ·split<;>simp[Q4f];simpa using this.1
   ·split
    ·split<;>simp[Q4f];simpa using this.1
    ·simp[Q4f]
 ·simp[Q4f]
def Qeh(l:List Cls)(t:Str):Bool:=Q53 l (Qy t).res&&(Qy t).params.all (Q53 l)
def Qs7(l:List Cls)(c:Cls):Bool:=c.fields.all (fun f=>Q53 l f.type)&&c.methods.all (fun m=>Qeh l m.desc)
def allN(l:List Cls):List Str:=Q3k++l.map (·.name)
theorem Q10x{l:List Cls}{n:Str}(h:isKnown l n=true):n∈allN l:=by
 simp only[isKnown,Bool.or_eq_true] at h
 rcases h with h|h
 ·have:=Qzy n
  unfold bIn at this
  rw[h,List.any_eq_true] at this
  obtain ⟨x,hx,e⟩:=this
  have:n=x:=by simpa using e
  subst this
  exact List.mem_append_left _ hx
 ·obtain ⟨i,hi,_,_,_,e⟩:=Q3w (l:=l) (n:=n) Z49
  rw[←e]
  exact List.mem_append_right _ (List.mem_map_of_mem (List.getElem_mem hi))
def out(o:List Str)(n:Str):Bool:=o.any fun x=>decide (n=x)
theorem Q89{o:List Str}{n:Str}:out o n=true↔n∈o:=by simp[out]
def cMu(l:List Cls)(o:List Str):Nat:=(allN l).countP (fun n=> !out o n)
theorem Qua{α:Type}{p q:α→Bool}: ∀{l:List α},(∀x∈l,q x=true→p x=true)→ ∀{y:α},y∈l→p y=true→q y=false→l.countP q<l.countP p
 |[],_,y,hy,_,_=>by cases hy
 |x::l,h,y,hy,hp,hq=>by
  have hle:l.countP q≤l.countP p:=List.countP_mono_left (fun x hx hqx=>h x (by simp[hx]) hqx)
  rcases List.mem_cons.1 hy with rfl|hy
  ·rw[List.countP_cons,List.countP_cons,hp,hq];simp;omega
  ·have:=Qua (l:=l) (fun x hx=>h x (by simp[hx])) hy hp hq
   rw[List.countP_cons,List.countP_cons]
   have h2:=h x Z3
   cases hqx:q x
   ·cases p x<;>simp<;>omega
   ·rw[h2 hqx];simp;omega
theorem Qki{l:List Cls}{o:List Str}{n:Str}(h:isKnown l n=true)(h2:out o n=false):cMu l (o++[n])<cMu l o:=by
 refine Qua (fun x _ hx=> ?_) (Q10x h) (by simp[h2]) ?_
 ·simp only[out,List.any_append,Bool.not_or,Bool.and_eq_true] at hx⊢;exact hx.1
 ·simp[out]
theorem Q13d(l:List Cls)(o:List Str):cMu l o≤8+l.length:=by
 have:=List.countP_le_length (p:=fun n=> !out o n) (l:=allN l)
 simp only[allN,List.length_append,List.length_map,Qhu] at this
 exact this
def chn(l:List Cls)(o:List Str)(n:Str):List Str:=
 if h:isKnown l n=true∧out o n=false then chn l (o++[n]) (Q2b l n) else o
 termination_by cMu l o
 decreasing_by exact Qki h.1 h.2
def Qq(l:List Cls)(n:Str):List Str:=chn l [] n
theorem Q9c{l:List Cls}{o:List Str}{n:Str}(h1:isKnown l n=true)(h2:out o n=false):chn l o n=chn l (o++[n]) (Q2b l n):=by
 rw[chn,dif_pos ⟨h1,h2⟩]
theorem Q3x{l:List Cls}{o:List Str}{n:Str}(h: ¬(isKnown l n=true∧out o n=false)):chn l o n=o:=by
 rw[chn,dif_neg h]
theorem Qzt(l:List Cls): ∀(k:Nat) (o:List Str) (n:Str),cMu l o≤k→(chn l o n).length≤o.length+k
 |0,o,n,h=>by
  rw[Q3x];omega
  rintro ⟨h1,h2⟩
  have:=Qki h1 h2;omega
 |k+1,o,n,h=>by
  by_cases hc:isKnown l n=true∧out o n=false
  ·rw[Q9c hc.1 hc.2]
   have:=Qzt l k (o++[n]) (Q2b l n) Zbf
   simp at this;omega
  ·rw[Q3x hc];omega
theorem Q6z(l:List Cls)(n:Str):(Qq l n).length≤8+l.length:=by
 have:=Qzt l _ [] n (Q13d l [])
 simpa[Qq] using this
theorem Qzs(l:List Cls): ∀(k:Nat) (o:List Str) (n:Str),cMu l o≤k→ ∃ys,chn l o n=o++ys
 |0,o,n,h=>by
  refine ⟨[],?_⟩
  rw[Q3x,List.append_nil]
  rintro ⟨h1,h2⟩
  have:=Qki h1 h2;omega
 |k+1,o,n,h=>by
  by_cases hc:isKnown l n=true∧out o n=false
  ·rw[Q9c hc.1 hc.2]
   obtain ⟨ys,e⟩:=Qzs l k (o++[n]) (Q2b l n) Zbf
   exact ⟨n::ys,by rw[e];simp⟩
  ·exact ⟨[],by rw[Q3x hc,List.append_nil]⟩
theorem Qk5{l:List Cls}{n:Str}(h:isKnown l n=true): ∃ys,Qq l n=n::ys:=by
 rw[Qq,Q9c h rfl]
 obtain ⟨ys,e⟩:=Qzs l _ ([]++[n]) (Q2b l n) (Nat.le_refl _)
 exact ⟨ys,by rw[e];rfl⟩
def Qvo(l:List Cls)(n:Str):Bool:=decide (Q2b l (atL (Qq l n) ((Qq l n).length-1))=n)
def zM:Mth:=⟨[],[],false,false,false,0,0,[],[]⟩
theorem Q11n:Wk (.agg [.str [],.str [],.bool false,.bool false,.bool false,.int .i64 0,.int .i64 0,.raw (.slice none 0 0),.raw (.slice none 0 0)]) (eM zM):=
 Wk.agg (.cons (Wk.refl _) (.cons (Wk.refl _) (.cons (Wk.refl _) (.cons (Wk.refl _) (.cons (Wk.refl _) (.cons (Wk.refl _) (.cons (Wk.refl _) (.cons (Wk.nilSlice _ _) (.cons (Wk.nilSlice _ _) .nil)))))))))
def mUp(l:List Cls)(n d:Str):List Str→Option Mth
 |[]=>none
 |s::ss=>if 0≤Q1j n d (Q1q l s).methods 0 then some (atL (Q1q l s).methods (Q1j n d (Q1q l s).methods 0).toNat) else mUp l n d ss
theorem Qos{n d:Str}{l:List Mth}(h:0≤Q1j n d l 0): ∃j,j<l.length∧Q1j n d l 0=(j:Nat):=by
 have:=Qea h
 exact ⟨(Q1j n d l 0).toNat,this,by omega⟩
def okI(l:List Cls)(c:Cls)(m:Mth):Bool:=
 !((!decide (m.name=Qn)&&decide (0≤Q1j m.name m.desc c.methods 0))&&(m.final|| !decide (m.static=(atL c.methods (Q1j m.name m.desc c.methods 0).toNat).static)))&&
 !((m.abstr&& !c.abstr)&&((mUp l m.name m.desc (Qq l c.name)).getD zM).abstr)
def accI(l:List Cls)(c:Cls):Bool:=((Qq l c.name).drop 1).all fun u=>(Q1q l u).methods.all (okI l c)
theorem Q9u{l:List Cls}{n:Str}(h:Q1w l≤1099511627776):(Q1q l n).methods.length≤1099511627776:=by
 have:=Qeq (l:=l) (n:=n)
 simp only[Q1r] at this
 omega
theorem Q12c{l:List Cls}{c:Cls}{m:Mth}
  (h1: ¬m.name=Qn→0≤Q1j m.name m.desc c.methods 0→m.final=false∧m.static=(atL c.methods (Q1j m.name m.desc c.methods 0).toNat).static)
  (h2:m.abstr=true→c.abstr=false→((mUp l m.name m.desc (Qq l c.name)).getD zM).abstr=false):okI l c m=true:=by
 unfold okI
 rw[Bool.and_eq_true]
 constructor
 ·by_cases a:m.name=Qn
  ·simp[a]
  ·by_cases b:0≤Q1j m.name m.desc c.methods 0
   ·obtain ⟨e1,e2⟩:=h1 a b
    rw[decide_eq_false a,e1,decide_eq_true e2];simp
   ·rw[decide_eq_false (p:=0≤_) b];simp
 ·cases a:m.abstr
  ·rfl
  ·cases b:c.abstr
   ·rw[h2 a b];rfl
   ·rfl
def pI1(l:List Cls)(c:Cls)(k:Int):Int:=if Q3l c=true then (if (bIn c.name|| !decide (Qqv l c.name=k))=true then 7 else 0) else 1
def pI3(l:List Cls)(c:Cls):Int:=if Qs7 l c=true then 0 else 6
def pI4(l:List Cls)(c:Cls):Int:=if Qvo l c.name=true then 9 else 0
def pI5(l:List Cls)(c:Cls):Int:=if accI l c=true then 0 else 14
def Qdp(l:List Cls)(p k:Nat):Int:=match p with
 |0=>pI1 l (atL l k) k
 |1=>Q7u l (atL l k)
 |2=>pI3 l (atL l k)
 |3=>pI4 l (atL l k)
 |_=>pI5 l (atL l k)
def Q8m(l:List Cls)(p:Nat):Nat→Int×Int
 |0=>(0,0)
 |n+1=>match Q12 (Qdp l p) l.length 0 with
  |some (i,c)=>(i,c)
  |none=>Q8m l (p+1) n
def Qs9(l:List Cls):Int×Int:=if 10<l.length then (10,1) else Q8m l 0 5
theorem Q14z{l:List Cls}{p n k:Nat}{c:Int}(h:Q12 (Qdp l p) l.length 0=some (k,c)):Q8m l p (n+1)=((k:Int),c):=by simp[Q8m,h]
theorem Q139{l:List Cls}{p n:Nat}(h:Q12 (Qdp l p) l.length 0=none):Q8m l p (n+1)=Q8m l (p+1) n:=by simp[Q8m,h]
theorem Q14q{code:Nat→Int}{n k:Nat}(h:k<n):Q12 code (n-k) k=if code k=0 then Q12 code (n-(k+1)) (k+1) else some (k,code k):=by
 rw[show n-k=(n-(k+1))+1 from by omega];rfl
theorem Q5e{l:List Cls}{k:Nat}(h:k<l.length):isKnown l l[k].name=true:=by
 unfold isKnown
 rcases @Q4y l[k].name l 0 with ⟨_,h2⟩|⟨i,hi,h1,_⟩
 ·exact absurd rfl (h2 _ (List.getElem_mem h))
 ·rw[decide_eq_true (p:=0≤Qi l[k].name l 0) Zb];simp
theorem Q17w{l:List Cls}{k:Nat}(hk:k<l.length):pI1 l (atL l k) k=Q5d l k:=by
 simp only[pI1,Q5d,Qa hk]
 split
 ·have hb:bIn l[k].name=decide (0≤Q1u l[k].name):=rfl
  rcases @Q4y l[k].name l 0 with ⟨_,h2⟩|⟨i,hi,h1,_,h3⟩
  ·exact absurd rfl (h2 _ (List.getElem_mem hk))
  ·have hp:Qqv l l[k].name=i:=by unfold Qqv;rw[if_pos Zb];simpa using h1
   have hle:i≤k:=by
    rcases Nat.lt_or_ge k i with h|h
    ·exact absurd rfl (h3 k h)
    ·exact h
   rw[hb,hp]
   by_cases hbi:0≤Q1u l[k].name
   ·rw[if_pos (by simp[hbi]),if_pos (.inl hbi)]
   ·by_cases hik:i=k
    ·rw[if_neg (by simp[hbi,hik]),if_neg Zb]
    ·rw[if_pos (by simp;right;omega),if_pos Zb]
 ·rfl
theorem Qrj(n:Str): ∀(l:List Str) (i:Nat),Q74 n l i= -1∨(i:Int)≤Q74 n l i
 |[],i=> .inl rfl
 |x::l,i=>by
  simp only[Q74]
  split
  ·right;omega
  ·rcases Qrj n l (i+1) with h|h
   ·exact .inl h
   ·right;omega
theorem Q15r(n:Str): ∀(l:List Str) (i:Nat),(i:Int)≤Q74 n l i↔l.any (fun x=>decide (n=x))=true
 |[],i=>by simp only[Q74,List.any_nil];constructor<;>intro h<;>first|omega|cases h
 |x::l,i=>by
  simp only[Q74,List.any_cons]
  by_cases h:x=n
  ·subst h;simp
  ·rw[if_neg h,decide_eq_false (fun e=>h e.symm),Bool.false_or,←Q15r n l (i+1)]
   rcases Qrj n l (i+1) with h4|h4<;>omega
theorem Q153(n:Str):(Q3k.drop 2).any (fun x=>decide (n=x))=decide (1<Q1u n):=by
 have hd:Qt∉Q3k.drop 2∧Q16∉Q3k.drop 2:=by decide
 have hno: ∀s,s∉Q3k.drop 2→s=n→ ¬(Q3k.drop 2).any (fun x=>decide (n=x))=true:=by
  intro s hs e h
  rw[List.any_eq_true] at h
  obtain ⟨x,hx,e2⟩:=h
  have:n=x:=by simpa using e2
  subst this;subst e;exact hs hx
 rw[Bool.eq_iff_iff,decide_eq_true_eq]
 have e:Q1u n=if Qt=n then 0 else if Q16=n then 1 else Q74 n (Q3k.drop 2) 2:=rfl
 rw[e]
 split
 ·rename_i h;constructor
  ·intro h2;exact absurd h2 (hno _ hd.1 h)
  ·intro h2;omega
 ·split
  ·rename_i h;constructor
   ·intro h2;exact absurd h2 (hno _ hd.2 h)
   ·intro h2;omega
  ·rw[←Q15r n (Q3k.drop 2) 2]
   constructor<;>intro h<;>omega
theorem Q17v{l:List Cls}{k:Nat}:Q7u l (atL l k)=Q8z l k:=by
 simp only[Q7u,Q8z]
 split
 ·rw[Q153]
  by_cases h1:1<Q1u (atL l k).super
  ·rw[if_pos (by simp[h1]),if_pos (.inl h1)]
  ·by_cases h2:0≤Qi (atL l k).super l 0
   ·have e:Q1q l (atL l k).super=atL l (Qi (atL l k).super l 0).toNat:=by unfold Q1q;rw[if_pos h2]
    rw[e]
    by_cases h3:(atL l (Qi (atL l k).super l 0).toNat).final=true
    ·rw[if_pos (by simp[h2,h3]),if_pos (.inr ⟨h2,h3⟩)]
    ·rw[if_neg (by simp[h1,h3]),if_neg (by simp[h1,h3])]
   ·rw[if_neg (by simp[h1,h2]),if_neg Zb]
 ·rfl
theorem Qmv{ab:Bool}: ∀{l pre:List Mth},Qbx ab pre l=true→ ∀m∈l,Q2t m=true∧(m.abstr&& !ab)=false
 |[],_,_,m,hm=>by cases hm
 |x::l,pre,h,m,hm=>by
  simp only[Qbx,Bool.and_eq_true] at h
  rcases List.mem_cons.1 hm with rfl|hm
  ·exact ⟨h.1.1.1,by have:=h.1.1.2;revert this;cases m.abstr<;>cases ab<;>simp⟩
  ·exact Qmv h.2 m hm
theorem Qgd{l:List Cls}{k:Nat}(hk:k<l.length)(h:Q5d l k=0):Q3l l[k]=true:=by
 simp only[Q5d,Qa hk] at h
 split at h
 ·assumption
 ·omega
theorem Qjc{x:Cls}(h:Q3l x=true): ∀m∈x.methods,Q2t m=true:=by
 simp only[Q3l,Bool.and_eq_true] at h
 exact fun m hm=>(Qmv h.2.2 m hm).1
theorem Qjd{m:Mth}(h:Q2t m=true):Q39 m=true:=by
 cases hh:Q39 m
 ·rw[Qby hh] at h;cases h
 ·rfl
theorem Q17u{l:List Cls}{k:Nat}(hk:k<l.length)(h:Q5d l k=0):pI3 l (atL l k)=Qbs l k:=by
 have hr:=Qgd hk h
 simp only[pI3,Qbs,Qa hk]
 have:Qs7 l l[k]=Qs8 l l[k]:=by
  unfold Qs7 Qs8
  congr 1
  rw[Bool.eq_iff_iff,List.all_eq_true,List.all_eq_true]
  constructor<;>intro h2 m hm<;>have h3:=h2 m hm<;>have hc:=Qru (Qif (Qjd (Qjc hr m hm)))
  ·unfold Qeh at h3;unfold Qgv;rw[hc] at h3;rw[Bool.and_comm];exact h3
  ·unfold Qeh;unfold Qgv at h3;rw[hc];rw[Bool.and_comm];exact h3
 rw[this]
theorem Qam{l:List Cls}{k:Nat}(hk:k<l.length)(h:Q5d l k=0): ¬0≤Q1u l[k].name:=by
 simp only[Q5d,Qa hk] at h
 split at h
 ·split at h
  ·omega
  ·rename_i h2;intro h3;exact h2 (.inl h3)
 ·omega
theorem Q4x{l:List Cls}{n:Str}(h:0≤Qi n l 0): ∃i,∃hi:i<l.length,Qi n l 0=i∧l[i].name=n∧Q2b l n=l[i].super:=by
 obtain ⟨i,hi,h1,_,h3,h4⟩:=Q3w h
 exact ⟨i,hi,h1,h4,by unfold Q2b;rw[if_pos h,h3]⟩
theorem Q6p{l:List Cls}{n:Str}(h1: ∀k,k<l.length→Q5d l k=0)(hb:0≤Q1u n):Qi n l 0<0∧Q2b l n=(if n=Qt then [] else if n=Q16 then Qt else Q16):=by
 have hf: ¬0≤Qi n l 0:=by
  intro h
  obtain ⟨i,hi,_,h4,_⟩:=Q4x h
  have:=Qam hi (h1 i hi)
  rw[h4] at this
  exact this hb
 refine ⟨by omega,?_⟩
 unfold Q2b
 have hbi:bIn n=true:=by simp[bIn,hb]
 rw[if_neg hf]
 by_cases h2:n=Qt
 ·rw[if_pos (.inr h2),if_pos h2]
 ·rw[if_neg (by simp[hbi,h2]),if_neg h2]
theorem Q8v:Q1u Qt=0∧Q1u Q16=1∧Q1u []= -1:=by decide
theorem Qug{n:Str}(h0:0≤Q1u n)(h1: ¬1<Q1u n):n=Qt∨n=Q16:=by
 have e:Q1u n=if Qt=n then 0 else if Q16=n then 1 else Q74 n (Q3k.drop 2) 2:=rfl
 rw[e] at h0 h1
 by_cases h2:Qt=n
 ·exact .inl h2.symm
 ·rw[if_neg h2] at h0 h1
  by_cases h3:Q16=n
  ·exact .inr h3.symm
  ·rw[if_neg h3] at h0 h1
   rcases Qrj n (Q3k.drop 2) 2 with h4|h4<;>omega
def P12(l:List Cls):Prop:= ∀k,k<l.length→Q5d l k=0∧Q8z l k=0
theorem Q3g{l:List Cls}(h:P12 l):isKnown l []=false:=by
 unfold isKnown
 rw[decide_eq_false (by rw[Q8v.2.2];omega),Bool.false_or,decide_eq_false]
 intro hf
 obtain ⟨i,hi,_,h4,_⟩:=Q4x hf
 have hr:=Qgd hi (h i hi).1
 simp only[Q3l,Q9l,Bool.and_eq_true] at hr
 have:=hr.1.1.1.1.1
 rw[h4] at this
 cases this
theorem Qmn{l:List Cls}(h:P12 l):Q2b l Qt=[]:=by
 rw[(Q6p (fun k hk=>(h k hk).1) (n:=Qt) Z73).2,if_pos rfl]
theorem Qmo{l:List Cls}(h:P12 l):Q2b l Q16=Qt:=by
 rw[(Q6p (fun k hk=>(h k hk).1) (n:=Q16) Z5j).2,if_neg Z3w,if_pos rfl]
theorem Q3f{l:List Cls}{n:Str}(h:0≤Q1u n):isKnown l n=true:=by unfold isKnown;rw[decide_eq_true h];rfl
theorem Qvt{l:List Cls}(h:P12 l){o:List Str}(ho:out o Qt=false):chn l o Qt=o++[Qt]:=by
 rw[Q9c (Q3f Z73) ho,Qmn h,Q3x]
 rw[Q3g h];simp
theorem Q14y{l:List Cls}(h:P12 l){o:List Str}(ho:out o Qt=false)(he:out o Q16=false):chn l o Q16=o++[Q16,Qt]:=by
 rw[Q9c (Q3f Z5j) he,Qmo h,Qvt h]
 ·simp
 ·rw[Bool.eq_false_iff]
  intro hc
  rw[Q89,List.mem_append] at hc
  rcases hc with hc|hc
  ·rw[Q89.2 hc] at ho;cases ho
  ·revert hc;decide
theorem Q6o{l:List Cls}(h:P12 l){k:Nat}(hk:k<l.length):Q2b l l[k].name=l[k].super∧
  ((nxt l k<0∧(l[k].super=Qt∨l[k].super=Q16))∨ ∃j,∃hj:j<l.length,nxt l k=j∧l[j].name=l[k].super):=by
 have hu:=Q3s hk (h k hk).1
 have h2:=(h k hk).2
 constructor
 ·obtain ⟨i,hi,e1,_,e3⟩:=Q4x (l:=l) (n:=l[k].name) Zb
  have:i=k:=by omega
  subst this
  exact e3
 ·simp only[Q8z,Qa hk] at h2
  rw[Qal,Qa hk]
  by_cases hf:0≤Qi l[k].super l 0
  ·obtain ⟨j,hj,e1,e2,_⟩:=Q4x hf
   exact .inr ⟨j,hj,e1,e2⟩
  ·split at h2
   ·rename_i hkn
    split at h2
    ·omega
    ·rename_i hn
     simp only[isKnown,Bool.or_eq_true,decide_eq_true_eq] at hkn
     refine .inl ⟨by omega,Qug Zb (fun hc=>hn (.inl hc))⟩
   ·omega
theorem Qwt{l:List Cls}(h:P12 l){i j:Nat}(hi:i<l.length)(hj:j<l.length)(e:l[i].name=l[j].name):i=j:=by
 have h1:=Q3s hi (h i hi).1
 have h2:=Q3s hj (h j hj).1
 rw[e] at h1
 omega
theorem Qoq{l:List Cls}(h:P12 l){i:Nat}(hi:i<l.length):l[i].name≠Qt∧l[i].name≠Q16:=by
 have:=Qam hi (h i hi).1
 constructor<;>intro e<;>rw[e] at this
 ·rw[Q8v.1] at this;omega
 ·rw[Q8v.2.1] at this;omega
theorem Q182{p:Nat→Prop}: ∀(n:Nat),p n→ ∃m,m≤n∧p m∧ ∀j,j<m→ ¬p j:=by
 intro n
 induction n using Nat.strongRecOn with
 |_ n ih=>
  intro h
  by_cases hc: ∃j,j<n∧p j
  ·obtain ⟨j,hj,hp⟩:=hc
   obtain ⟨m,h1,h2,h3⟩:=ih j hj hp
   exact ⟨m,by omega,h2,h3⟩
  ·exact ⟨n,Nat.le_refl _,h,fun j hj hp=>hc ⟨j,hj,hp⟩⟩
theorem per{l:List Cls}{k:Nat}(hk:k<l.length)(h: ∃t,0<t∧itr l t k=k):
  ∃p,0<p∧p≤l.length∧itr l p k=k∧(∀t,t≤p→0≤itr l t k∧itr l t k<l.length)∧ ∀a b,a<b→b<p→itr l a k≠itr l b k:=by
 obtain ⟨t,ht⟩:=h
 obtain ⟨p,_,⟨hp0,hp⟩,hmin⟩:=Q182 (p:=fun t=>0<t∧itr l t k=k) t ht
 have hpos: ∀t,t≤p→0≤itr l t k∧itr l t k<l.length:=fun t ht=>by
  refine ⟨?_,Qrk t Zb⟩
  rcases Int.lt_or_le (itr l t k) 0 with h1|h1
  ·have:=Qqd (l:=l) (p-t) h1
   rw[←Qed,show t+(p-t)=p from by omega,hp] at this
   omega
  ·exact h1
 have hdis: ∀a b,a<b→b<p→itr l a k≠itr l b k:=fun a b h1 h2 e=>by
  refine hmin (a+(p-b)) Zb ⟨by omega,?_⟩
  rw[Qed,e,←Qed,show b+(p-b)=p from by omega,hp]
 refine ⟨p,hp0,?_,hp,hpos,hdis⟩
 rcases Nat.lt_or_ge l.length p with h1|h1
 ·exfalso
  obtain ⟨a,b,g1,g2,g3⟩:=Qy0 l.length (fun s=>(itr l s k).toNat) (fun s hs=>by
   have:=hpos s Zb;omega)
  have ha:=hpos a Zb
  have hb:=hpos b Zb
  exact hdis a b g1 Zb Zb
 ·exact h1
theorem Qvn{l:List Cls}{k:Nat}(hk:k<l.length):cyc l k=true↔ ∃t,0<t∧itr l t k=k:=by
 constructor
 ·intro h
  obtain ⟨s,_,hs⟩:=Qxc _ h
  exact ⟨s+1,by omega,hs⟩
 ·intro h
  obtain ⟨p,h0,h1,h2,_⟩:=per hk h
  obtain ⟨q,rfl⟩: ∃q,p=q+1:=⟨p-1,by omega⟩
  exact Qvp q _ Zb h2
def Q7p(l:List Cls)(k:Int):Str:=(atL l k.toNat).name
theorem Q27{l:List Cls}{k:Nat}(hk:k<l.length):Q7p l k=l[k].name:=by simp[Q7p,Qa hk]
theorem Qkq{l:List Cls}(h:P12 l){k:Int}(h0:0≤k)(h1:k<l.length)(h2:0≤nxt l k):Q2b l (Q7p l k)=Q7p l (nxt l k):=by
 obtain ⟨i,rfl⟩: ∃i:Nat,k=i:=⟨k.toNat,by omega⟩
 have hi:i<l.length:=by omega
 obtain ⟨e1,e2⟩:=Q6o h hi
 rw[Q27 hi,e1]
 rcases e2 with ⟨e2,_⟩|⟨j,hj,e2,e3⟩
 ·omega
 ·rw[e2,Q27 hj,e3]
theorem Qwo{l:List Cls}(h:P12 l){a b:Int}(ha0:0≤a)(ha:a<l.length)(hb0:0≤b)(hb:b<l.length)(e:Q7p l a=Q7p l b):a=b:=by
 obtain ⟨i,rfl⟩: ∃i:Nat,a=i:=⟨a.toNat,by omega⟩
 obtain ⟨j,rfl⟩: ∃j:Nat,b=j:=⟨b.toNat,by omega⟩
 rw[Q27 Zb,Q27 Zb] at e
 have:=Qwt h Zb Zb e
 omega
theorem Qgk(l:List Cls)(t:Nat)(k:Int):itr l (t+1) k=nxt l (itr l t k):=by
 rw[Qed];rfl
def Qa6(l:List Cls)(k:Int)(s:Nat):List Str:=(List.range s).map fun t=>Q7p l (itr l t k)
theorem Qxh{l:List Cls}{k:Int}{s:Nat}:Qa6 l k (s+1)=Qa6 l k s++[Q7p l (itr l s k)]:=by
 simp[Qa6,List.range_succ]
theorem Ql3{l:List Cls}{k:Int}(h0:0≤k)(h1:k<l.length):isKnown l (Q7p l k)=true:=by
 obtain ⟨i,rfl⟩: ∃i:Nat,k=i:=⟨k.toNat,by omega⟩
 rw[Q27 Zb];exact Q5e _
theorem Qzr{l:List Cls}(h:P12 l){k:Int}{p:Nat}(hpos: ∀t,t≤p→0≤itr l t k∧itr l t k<l.length)(hdis: ∀a b,a<b→b<p→itr l a k≠itr l b k):
  ∀t,t≤p→chn l [] (Q7p l k)=chn l (Qa6 l k t) (Q7p l (itr l t k))
 |0,_=>by simp[Qa6,itr]
 |t+1,ht=>by
  have h1:=hpos t Zb
  have h2:=hpos (t+1) ht
  rw[Qzr h hpos hdis t Zb,Q9c (Ql3 h1.1 h1.2) ?_,←Qxh,Qkq h h1.1 h1.2 (by rw[←Qgk];exact h2.1),←Qgk]
  rw[Bool.eq_false_iff]
  intro hc
  rw[Q89,Qa6,List.mem_map] at hc
  obtain ⟨a,ha,e⟩:=hc
  have ha:a<t:=by simpa using ha
  have h3:=hpos a Zb
  exact hdis a t ha Zb (Qwo h h3.1 h3.2 h1.1 h1.2 e)
theorem Q16p{l:List Cls}(h:P12 l){k:Nat}(hk:k<l.length)(hc:cyc l k=true):Qvo l l[k].name=true:=by
 obtain ⟨p,h0,h1,h2,hpos,hdis⟩:=per hk ((Qvn hk).1 hc)
 have hr:=Qzr h hpos hdis p (Nat.le_refl _)
 rw[h2,Q27 hk] at hr
 have hst:Qq l l[k].name=Qa6 l k p:=by
  rw[Qq,hr,Q3x]
  rintro ⟨_,e⟩
  rw[Bool.eq_false_iff] at e
  refine e (Q89.2 ?_)
  rw[Qa6,List.mem_map]
  exact ⟨0,by simpa using h0,by simp[itr,Q27 hk]⟩
 unfold Qvo
 rw[hst]
 have hl:(Qa6 l k p).length=p:=by simp[Qa6]
 have hlast:atL (Qa6 l k p) (p-1)=Q7p l (itr l (p-1) k):=by
  rw[Qa (by rw[hl];omega)]
  simp[Qa6]
 have h3:=hpos (p-1) Zb
 have h4:nxt l (itr l (p-1) k)=k:=by rw[←Qgk,show p-1+1=p from by omega,h2]
 rw[hl,hlast,Qkq h h3.1 h3.2 (by rw[h4];omega),h4,Q27 hk]
 simp
def Rch(l:List Cls)(k:Int)(x:Str):Prop:=(∃t,0≤itr l t k∧itr l t k<l.length∧x=Q7p l (itr l t k))∨x=Qt∨x=Q16
theorem Q174{l:List Cls}(h:P12 l){k:Int}{x:Str}(hx:Rch l k x):Rch l k (Q2b l x)∨Q2b l x=[]:=by
 rcases hx with ⟨t,h0,h1,rfl⟩|rfl|rfl
 ·obtain ⟨i,hi⟩: ∃i:Nat,itr l t k=i:=⟨(itr l t k).toNat,by omega⟩
  have hil:i<l.length:=by omega
  obtain ⟨e1,e2⟩:=Q6o h hil
  rw[hi,Q27 hil,e1]
  rcases e2 with ⟨_,e2⟩|⟨j,hj,e2,e3⟩
  ·rcases e2 with e2|e2
   ·exact .inl (.inr (.inl e2))
   ·exact .inl (.inr (.inr e2))
  ·refine .inl (.inl ⟨t+1,?_⟩)
   rw[Qgk,hi,e2,Q27 hj]
   exact ⟨by omega,by omega,e3.symm⟩
 ·exact .inr (Qmn h)
 ·rw[Qmo h];exact .inl (.inr (.inl rfl))
theorem Qzu{l:List Cls}(h:P12 l){k:Int}: ∀(f:Nat) (o:List Str) (n:Str),cMu l o≤f→(∀x∈o,Rch l k x)→(Rch l k n∨n=[])→ ∀x∈chn l o n,Rch l k x
 |f,o,n,hf,ho,hn=>by
  by_cases hc:isKnown l n=true∧out o n=false
  ·have hlt:=Qki hc.1 hc.2
   have hR:Rch l k n:=by
    rcases hn with hn|rfl
    ·exact hn
    ·rw[Q3g h] at hc;cases hc.1
   rw[Q9c hc.1 hc.2]
   cases f with
   |zero=>omega
   |succ f=>
    refine Qzu h f _ _ Zb (fun x hx=> ?_) (Q174 h hR)
    rcases List.mem_append.1 hx with hx|hx
    ·exact ho x hx
    ·simp at hx;subst hx;exact hR
  ·rw[Q3x hc];exact ho
theorem Q133{l:List Cls}(h:P12 l){k:Nat}(hk:k<l.length)(hc:Qvo l l[k].name=true):cyc l k=true:=by
 rw[Qvn hk]
 obtain ⟨ys,hy⟩:=Qk5 (Q5e hk)
 have hlen:(Qq l l[k].name).length-1<(Qq l l[k].name).length:=by rw[hy];simp
 unfold Qvo at hc
 rw[Qa hlen,decide_eq_true_eq] at hc
 have hm:Rch l k (Qq l l[k].name)[(Qq l l[k].name).length-1]:=
  Qzu h _ [] l[k].name (Nat.le_refl _) (fun x hx=>by cases hx) (.inl (.inl ⟨0,by simp[itr],by simp[itr];omega,by simp[itr,Q27 hk]⟩)) _ (List.getElem_mem hlen)
 have hno:=Qoq h hk
 rcases hm with ⟨t,h0,h1,e⟩|e|e
 ·rw[e] at hc
  obtain ⟨i,hi⟩: ∃i:Nat,itr l t k=i:=⟨(itr l t k).toNat,by omega⟩
  have hil:i<l.length:=by omega
  obtain ⟨e1,e2⟩:=Q6o h hil
  rw[hi,Q27 hil,e1] at hc
  rcases e2 with ⟨_,e2⟩|⟨j,hj,e2,e3⟩
  ·rw[hc] at e2
   rcases e2 with e2|e2
   ·exact absurd e2 hno.1
   ·exact absurd e2 hno.2
  ·refine ⟨t+1,by omega,?_⟩
   rw[hc] at e3
   rw[Qgk,hi,e2,Qwt h hj hk e3]
 ·rw[e,Qmn h] at hc
  have:=Q5e hk
  rw[←hc,Q3g h] at this;cases this
 ·rw[e,Qmo h] at hc
  exact absurd hc.symm hno.1
theorem Q16q{l:List Cls}(h:P12 l){k:Nat}(hk:k<l.length):Qvo l l[k].name=cyc l k:=by
 rw[Bool.eq_iff_iff];exact ⟨Q133 h hk,Q16p h hk⟩
theorem Q17t{l:List Cls}(h:P12 l){k:Nat}(hk:k<l.length):pI4 l (atL l k)=Qa9 l k:=by
 simp only[pI4,Qa9,Qa hk,Q16q h hk]
theorem Qbp{l:List Cls}{f:Nat}{k:Int}(h:k<0):ups l f k=[]:=by cases f<;>simp[ups,h]
theorem Qq1{l:List Cls}{f:Nat}{k:Int}(h:0≤k):ups l (f+1) k=k.toNat::ups l f (nxt l k):=by simp[ups,show¬k<0 from by omega]
def Tail(tl:List Str):Prop:=tl=[Qt]∨tl=[Q16,Qt]
theorem Q14j{l:List Cls}(h:P12 l){k:Int}(h0:0≤k)(h1:k<l.length):Q7p l k≠Qt∧Q7p l k≠Q16:=by
 obtain ⟨i,rfl⟩: ∃i:Nat,k=i:=⟨k.toNat,by omega⟩
 rw[Q27 Zb];exact Qoq h Zb
theorem Qxf{l:List Cls}(h:P12 l)(hcy: ∀i,i<l.length→cyc l i=false): ∀(f:Nat) (k:Int) (o:List Str),Qkl l f k→0≤k→k<l.length→
  (∀t,0≤itr l t k→Q7p l (itr l t k)∉o)→Qt∉o→Q16∉o→ ∃tl,Tail tl∧chn l o (Q7p l k)=o++(ups l f k).map (fun u:Nat=>Q7p l (u:Int))++tl
 |0,k,o,he,h0,_,_,_,_=>by
  have he:k<0:=he
  omega
 |f+1,k,o,he,h0,h1,hn,ho,hr=>by
  have hno:=Q14j h h0 h1
  obtain ⟨i,hi⟩: ∃i:Nat,k=i:=⟨k.toNat,by omega⟩
  subst hi
  have hil:i<l.length:=by omega
  have hout:out o (Q7p l (i:Int))=false:=by
   rw[Bool.eq_false_iff];intro hc;exact hn 0 (by simp[itr]) (Q89.1 hc)
  obtain ⟨e1,e2⟩:=Q6o h hil
  have ho':Qt∉o++[Q7p l (i:Int)]:=by
   intro hc;rcases List.mem_append.1 hc with hc|hc
   ·exact ho hc
   ·exact hno.1 (List.mem_singleton.1 hc).symm
  have hr':Q16∉o++[Q7p l (i:Int)]:=by
   intro hc;rcases List.mem_append.1 hc with hc|hc
   ·exact hr hc
   ·exact hno.2 (List.mem_singleton.1 hc).symm
  rw[Q9c (Ql3 h0 h1) hout,Q27 hil,e1,Qq1 h0]
  rw[Q27 hil] at ho' hr'
  rcases e2 with ⟨e2,e3⟩|⟨j,hj,e2,e3⟩
  ·rw[Qbp e2]
   rcases e3 with e3|e3
   ·exact ⟨[Qt],.inl rfl,by rw[e3,Qvt h Z9w];simp[Q27 hil]⟩
   ·exact ⟨[Q16,Qt],.inr rfl,by rw[e3,Q14y h Z9w (by rw[Bool.eq_false_iff];exact fun hc=>hr' (Q89.1 hc))];simp[Q27 hil]⟩
  ·have he2:Qkl l f (nxt l i):=by
    rcases he with he|he
    ·omega
    ·exact he
   obtain ⟨tl,ht,hc⟩:=Qxf h hcy f (nxt l i) (o++[l[i].name]) he2 Zb Zb (fun t ht hc=>by
    have ht':0≤itr l (t+1) i:=ht
    rcases List.mem_append.1 hc with hc|hc
    ·exact hn (t+1) ht' hc
    ·have hc:=List.mem_singleton.1 hc
     have hx:=Qwo h ht' (Qrk (t+1) Zb) h0 h1 (by rw[Q27 hil];exact hc)
     have:=(Qvn hil).2 ⟨t+1,by omega,hx⟩
     rw[hcy i hil] at this;cases this) ho' hr'
   refine ⟨tl,ht,?_⟩
   rw[e2] at hc
   rw[Q27 hj,e3] at hc
   rw[hc,e2]
   simp[Q27 hil]
theorem Qdq{l:List Cls}(h:P12 l){u:Nat}(hu:u<l.length):Q1q l (Q7p l (u:Int))=l[u]:=by
 rw[Q27 hu]
 have:=Q3s hu (h u hu).1
 unfold Q1q
 rw[if_pos Zb,this]
 simp[Qa hu]
theorem Qat{l:List Cls}(h:P12 l){n:Str}(hn:n=Qt∨n=Q16):Q1q l n=zC:=by
 have hb:0≤Q1u n:=by rcases hn with rfl|rfl<;>decide
 exact Q50 (by have:=(Q6p (l:=l) (fun k hk=>(h k hk).1) hb).1;omega)
theorem Q11o{l:List Cls}: ∀{f:Nat} {k:Int},k<l.length→ ∀u∈ups l f k,u<l.length
 |0,k,_,u,hu=>by cases hu
 |f+1,k,hk,u,hu=>by
  simp only[ups] at hu
  split at hu
  ·cases hu
  ·rcases List.mem_cons.1 hu with rfl|hu
   ·omega
   ·exact Q11o (Qa2).2 u hu
theorem Qwy{l:List Cls}(h:P12 l){n d:Str}{tl:List Str}(ht:Tail tl):mUp l n d tl=none:=by
 have h1: ¬0≤Q1j n d zC.methods 0:=by simp[zC,Q1j]
 rcases ht with rfl|rfl
 ·simp only[mUp];rw[Qat h (.inl rfl),if_neg h1]
 ·simp only[mUp];rw[Qat h (.inr rfl),if_neg h1,Qat h (.inl rfl),if_neg h1]
theorem Qwr{l:List Cls}(h:P12 l){n d:Str}{tl:List Str}(ht:Tail tl): ∀{f:Nat} {k:Int},k<l.length→
  ((mUp l n d ((ups l f k).map (fun u:Nat=>Q7p l (u:Int))++tl)).getD zM).abstr=Qr0 l n d f k
 |0,k,_=>by simp only[ups,List.map_nil,List.nil_append,Qwy h ht,Qr0];rfl
 |f+1,k,hk=>by
  rcases Int.lt_or_le k 0 with h0|h0
  ·rw[Qbp h0,List.map_nil,List.nil_append,Qwy h ht];simp[Qr0,h0,zM]
  ·rw[Qq1 h0,List.map_cons,List.cons_append]
   obtain ⟨i,hi⟩: ∃i:Nat,k=i:=⟨k.toNat,by omega⟩
   subst hi
   have hil:i<l.length:=by omega
   rw[Qwq]
   simp only[mUp,Int.toNat_natCast,Qdq h hil,Qa hil]
   split
   ·rfl
   ·exact Qwr h ht (Qa2).2
theorem Qvz{m:Mth}(h:Q2t m=true)(ha:m.abstr=true):m.name≠Qn:=by
 rw[Q6t (Qjd h) ha] at h
 simp only[Bool.and_eq_true,Bool.not_eq_true',decide_eq_false_iff_not] at h
 exact h.2
theorem Q16w{l:List Cls}(h:P12 l)(hcy: ∀i,i<l.length→cyc l i=false){i:Nat}(hi:i<l.length):accI l l[i]=Quh l i:=by
 have hE:=Q9j hcy hi
 obtain ⟨tl,ht,hc⟩:=Qxf h hcy (l.length+1) i [] hE Zb Zb (fun _ _ hx=>by cases hx) (fun hx=>by cases hx) (fun hx=>by cases hx)
 rw[Q27 hi,List.nil_append] at hc
 have hch:Qq l l[i].name=(ups l (l.length+1) i).map (fun u:Nat=>Q7p l (u:Int))++tl:=hc
 have hok: ∀m,Q2t m=true→okI l l[i] m=Q7o l l[i] i m:=by
  intro m hm
  unfold okI Q7o
  rw[hch,Qwr h ht Zb]
  by_cases hin:m.name=Qn
  ·rw[decide_eq_true hin]
   have:m.abstr=false:=by
    cases ha:m.abstr
    ·rfl
    ·exact absurd hin (Qvz hm ha)
   simp[this]
  ·rw[decide_eq_false hin]
   simp only[Bool.not_false,Bool.true_and,Bool.false_or]
   congr 3
   try (cases m.static<;>cases (atL l[i].methods (Q1j m.name m.desc l[i].methods 0).toNat).static<;>rfl)
 unfold accI Quh
 rw[hch,Qe0,List.map_cons,List.cons_append,List.drop_one,List.tail_cons,List.all_append]
 have htl:tl.all (fun u=>(Q1q l u).methods.all (okI l l[i]))=true:=by
  rcases ht with rfl|rfl
  ·simp[Qat h (.inl rfl),zC]
  ·simp[Qat h (.inl rfl),Qat h (.inr rfl),zC]
 rw[htl,Bool.and_true,List.all_map]
 have hlt:=fun u hu=>Q11o (l:=l) (f:=l.length) (k:=nxt l i) (Qa2).2 u hu
 rw[Bool.eq_iff_iff,List.all_eq_true,List.all_eq_true]
 have key: ∀u∈ups l l.length (nxt l i),((fun u=>(Q1q l u).methods.all (okI l l[i]))∘fun u:Nat=>Q7p l (u:Int)) u=(atL l u).methods.all (Q7o l (atL l i) i):=by
  intro u hu
  have hul:=hlt u hu
  show (Q1q l (Q7p l (u:Int))).methods.all (okI l l[i])=_
  rw[Qdq h hul,Qa hul,Qa hi,Bool.eq_iff_iff,List.all_eq_true,List.all_eq_true]
  have hr:=Qjc (Qgd hul (h u hul).1)
  constructor<;>intro hx m hm
  ·rw[←hok m (hr m hm)];exact hx m hm
  ·rw[hok m (hr m hm)];exact hx m hm
 constructor<;>intro hx u hu
 ·rw[←key u hu];exact hx u hu
 ·rw[key u hu];exact hx u hu
theorem Q17s{l:List Cls}(h:P12 l)(hcy: ∀i,i<l.length→cyc l i=false){i:Nat}(hi:i<l.length):pI5 l (atL l i)=Qcz l i:=by
 simp only[pI5,Qcz,Qa hi,Q16w h hcy hi]
theorem Qx8{c1 c2:Nat→Int}{n:Nat}(h: ∀j,j<n→c1 j=c2 j):Q12 c1 n 0=Q12 c2 n 0:=Qgo fun j _ h2=>h j Zb
theorem Qyq(l:List Cls):Q8m l 0 5=Q4t l:=by
 unfold Q4t
 simp only[Q8m]
 rw[Qx8 (c1:=Qdp l 0) (c2:=Q5d l) (fun j hj=>Q17w hj),Qx8 (c1:=Qdp l (0+1)) (c2:=Q8z l) (fun j hj=>Q17v)]
 cases h1:Q12 (Q5d l) l.length 0 with
 |some p=>rfl
 |none=>
  cases h2:Q12 (Q8z l) l.length 0 with
  |some p=>rfl
  |none=>
   have hp1: ∀k,k<l.length→Q5d l k=0:=fun k hk=>Q2y h1 k Zb Zb
   have hp:P12 l:=fun k hk=>⟨hp1 k hk,Q2y h2 k Zb Zb⟩
   simp only
   rw[Qx8 (c1:=Qdp l (0+1+1)) (c2:=Qbs l) (fun j hj=>Q17u hj (hp1 j hj)),Qx8 (c1:=Qdp l (0+1+1+1)) (c2:=Qa9 l) (fun j hj=>Q17t hp hj)]
   cases h3:Q12 (Qbs l) l.length 0 with
   |some p=>rfl
   |none=>
    cases h4:Q12 (Qa9 l) l.length 0 with
    |some p=>rfl
    |none=>
     have hcy: ∀i,i<l.length→cyc l i=false:=fun i hi=>by
      have:=Q2y h4 i Zb Zb
      simp only[Qa9] at this
      cases hc:cyc l i
      ·rfl
      ·rw[hc] at this;simp at this
     simp only
     rw[Qx8 (c1:=Qdp l (0+1+1+1+1)) (c2:=Qcz l) (fun j hj=>Q17s hp hcy hj)]
     all_goals (cases Q12 (Qcz l) l.length 0<;>rfl)
theorem Q150(l:List Cls):Qs9 l=if 10<l.length then (10,1) else Q4t l:=by
 unfold Qs9;rw[Qyq]
theorem Qj7(l:List Cls):(if 400<l.length then ((0:Int),(2:Int)) else Qs9 l)=Q31 l:=by
 unfold Q31;rw[Q150]
theorem Q10l(l:List Cls):(decide (l.length≤10)&&decide ((Qs9 l).2=0))=Qs l:=by
 unfold Qs
 rw[←Qj7]
 by_cases h:10<l.length
 ·have hc:Qs9 l=(10,1):=by unfold Qs9;rw[if_pos h]
  rw[hc,decide_eq_false Zb,Bool.false_and]
  split<;>rfl
 ·rw[if_neg Zb,decide_eq_true Zb,Bool.true_and]
theorem Q66{l:List Cls}(h:Qs l=true):l.length≤10:=by
 rw[←Q10l,Bool.and_eq_true,decide_eq_true_eq] at h;exact h.1
theorem Q98{l:List Cls}(h:Qs l=true):(∀k,k<l.length→Q5d l k=0)∧(∀k,k<l.length→Q8z l k=0)∧(∀k,k<l.length→Qbs l k=0)∧(∀k,k<l.length→Qa9 l k=0)∧ ∀k,k<l.length→Qcz l k=0:=by
 have hlen:=Q66 h
 simp only[Qs,Q31,if_neg (show¬400<l.length from by omega),if_neg (show¬10<l.length from by omega),decide_eq_true_eq] at h
 have bad: ∀(c:Nat→Int) (n i k:Nat) (v:Int),Q12 c n i=some (k,v)→v≠0:=by
  intro c n
  induction n with
  |zero=>intro i k v h;simp[Q12] at h
  |succ n ih=>
   intro i k v h
   simp only[Q12] at h
   split at h
   ·exact ih _ _ _ h
   ·cases h;assumption
 unfold Q4t at h
 cases h1:Q12 (Q5d l) l.length 0 with
 |some p=>rw[h1] at h;exact absurd h (bad _ _ _ p.1 p.2 h1)
 |none=>
  rw[h1] at h
  cases h2:Q12 (Q8z l) l.length 0 with
  |some p=>rw[h2] at h;exact absurd h (bad _ _ _ p.1 p.2 h2)
  |none=>
   rw[h2] at h
   cases h3:Q12 (Qbs l) l.length 0 with
   |some p=>rw[h3] at h;exact absurd h (bad _ _ _ p.1 p.2 h3)
   |none=>
    rw[h3] at h
    cases h4:Q12 (Qa9 l) l.length 0 with
    |some p=>rw[h4] at h;exact absurd h (bad _ _ _ p.1 p.2 h4)
    |none=>
     rw[h4] at h
     cases h5:Q12 (Qcz l) l.length 0 with
     |some p=>rw[h5] at h;exact absurd h (bad _ _ _ p.1 p.2 h5)
     |none=>
      exact ⟨fun k hk=>Q2y h1 k Zb Zb,fun k hk=>Q2y h2 k Zb Zb,fun k hk=>Q2y h3 k Zb Zb,fun k hk=>Q2y h4 k Zb Zb,fun k hk=>Q2y h5 k Zb Zb⟩
theorem Q1g{l:List Cls}(h:Qs l=true):P12 l:=fun k hk=>⟨(Q98 h).1 k hk,(Q98 h).2.1 k hk⟩
theorem Qcx{l:List Cls}(h:Qs l=true): ∀i,i<l.length→cyc l i=false:=fun i hi=>by
 have:=(Q98 h).2.2.2.1 i hi
 simp only[Qa9] at this
 cases hc:cyc l i
 ·rfl
 ·rw[hc] at this;simp at this
theorem Qtf{l:List Cls}(h:P12 l)(n:Str):Q2b l n=Q6q l n:=by
 unfold Q6q
 by_cases hb:0≤Q1u n
 ·obtain ⟨hf,e⟩:=Q6p (fun k hk=>(h k hk).1) hb
  rw[e]
  rcases Int.lt_or_le 1 (Q1u n) with h1|h1
  ·have n1:n≠Qt:=fun e=>by rw[e,Q8v.1] at h1;omega
   have n2:n≠Q16:=fun e=>by rw[e,Q8v.2.1] at h1;omega
   rw[if_neg n1,if_neg n2,if_neg Zb,if_neg Zb,if_pos h1]
  ·rcases Qug hb Zb with rfl|rfl
   ·rw[if_pos rfl,if_pos Q8v.1]
   ·rw[if_neg Z3w,if_pos rfl,if_neg Z5j,if_pos Q8v.2.1]
 ·rw[if_neg Zb,if_neg Zb,if_neg Zb]
  unfold Q2b
  by_cases hf:0≤Qi n l 0
  ·rw[if_pos hf,if_neg Zb]
   obtain ⟨i,hi,h1,_,h3,_⟩:=Q3w hf
   rw[h3,h1];simp[Qa hi]
  ·rw[if_neg hf,if_pos (.inl (by simp[bIn];omega)),if_pos Zb]
theorem Qow{l:List Cls}(h:P12 l){n:Str}(hk:isKnown l n=true):Q2b l n=[]∨isKnown l (Q2b l n)=true:=by
 simp only[isKnown,Bool.or_eq_true,decide_eq_true_eq] at hk
 by_cases hb:0≤Q1u n
 ·rw[(Q6p (fun k hk=>(h k hk).1) hb).2]
  split
  ·exact .inl rfl
  ·split
   ·exact .inr (Q3f Z73)
   ·exact .inr (Q3f Z5j)
 ·obtain ⟨i,hi,e1,e2,e3⟩:=Q4x (l:=l) (n:=n) Zb
  rw[e3]
  rcases (Q6o h hi).2 with ⟨_,e|e⟩|⟨j,hj,_,e⟩
  ·rw[e];exact .inr (Q3f Z73)
  ·rw[e];exact .inr (Q3f Z5j)
  ·rw[←e];exact .inr (Q5e hj)
theorem Qw4{l:List Cls}: ∀{f g:Nat} {k:Int},Qkl l f k→Qkl l g k→ups l f k=ups l g k
 |0,g,k,hf,_=>by rw[Qbp hf,Qbp hf]
 |f+1,0,k,_,hg=>by rw[Qbp hg,Qbp hg]
 |f+1,g+1,k,hf,hg=>by
  by_cases hk:k<0
  ·rw[Qbp hk,Qbp hk]
  ·rw[Qq1 Zb,Qq1 Zb,Qw4 (hf.resolve_left hk) (hg.resolve_left hk)]
def rk(l:List Cls)(n:Str):Nat:=if bIn n then (if n=Qt then 0 else if n=Q16 then 1 else 2) else 3+(ups l (l.length+1) (Qi n l 0)).length
theorem Qtk{l:List Cls}(h:P12 l)(hc: ∀i,i<l.length→cyc l i=false){n:Str}(hk:isKnown l n=true)(hs:Q2b l n≠[]):rk l (Q2b l n)<rk l n:=by
 have r0:rk l Qt=0:=by unfold rk;rw[if_pos (by simp[bIn,Q8v.1]),if_pos rfl]
 have r1:rk l Q16=1:=by unfold rk;rw[if_pos (by simp[bIn,Q8v.2.1]),if_neg Z3w,if_pos rfl]
 by_cases hb:0≤Q1u n
 ·have e:=(Q6p (fun k hk=>(h k hk).1) hb).2
  rw[e] at hs⊢
  have hbn:bIn n=true:=by simp[bIn,hb]
  by_cases h1:n=Qt
  ·rw[if_pos h1] at hs;exact absurd rfl hs
  ·rw[if_neg h1]
   by_cases h2:n=Q16
   ·rw[if_pos h2,h2,r0,r1];omega
   ·rw[if_neg h2,r1];unfold rk;rw[if_pos hbn,if_neg h1,if_neg h2];omega
 ·have hbn:bIn n=false:=by simp[bIn];omega
  simp only[isKnown,Bool.or_eq_true,decide_eq_true_eq] at hk
  obtain ⟨i,hi,e1,e2,e3⟩:=Q4x (l:=l) (n:=n) Zb
  have hrn:rk l n=3+(ups l (l.length+1) (i:Int)).length:=by unfold rk;rw[if_neg (by simp[hbn]),e1]
  have hu:ups l (l.length+1) (i:Int)=i::ups l l.length (nxt l i):=Qe0
  rw[hrn,hu,e3]
  have hE:=Q9j hc hi
  obtain ⟨g,hg,hE2⟩:=Qmk hE
  obtain rfl:g=l.length:=by omega
  rcases (Q6o h hi).2 with ⟨_,e|e⟩|⟨j,hj,e4,e⟩
  ·rw[e,r0];omega
  ·rw[e,r1];simp only[List.length_cons];omega
  ·have hjb:=Qam hj (h j hj).1
   have huq:=Q3s hj (h j hj).1
   rw[←e]
   have:rk l l[j].name=3+(ups l (l.length+1) (j:Int)).length:=by unfold rk;rw[if_neg (by simp[bIn];omega),huq]
   rw[this,e4]
   rw[e4] at hE2
   rw[Qw4 (Q9j hc hj) hE2]
   simp
theorem Qyp{l:List Cls}(h:P12 l)(hc: ∀i,i<l.length→cyc l i=false): ∀(k:Nat) (n:Str) (o:List Str),rk l n≤k→(∀x∈o,rk l n<rk l x)→chn l o n=o++chn l [] n
 |k,n,o,hk,ho=>by
  by_cases hn:isKnown l n=true
  ·have hout:out o n=false:=by
    rw[Bool.eq_false_iff];intro hc;have:=ho n (Q89.1 hc);omega
   rw[Q9c hn hout,Q9c hn (o:=[]) rfl]
   by_cases hs:Q2b l n=[]
   ·rw[hs,Q3x (by rw[Q3g h];simp),Q3x (by rw[Q3g h];simp)];rfl
   ·have hlt:=Qtk h hc hn hs
    cases k with
    |zero=>omega
    |succ k=>
     rw[Qyp h hc k (Q2b l n) (o++[n]) Zb (fun x hx=>by
       rcases List.mem_append.1 hx with hx|hx
       ·have:=ho x hx;omega
       ·rw[List.mem_singleton.1 hx];exact hlt),
      Qyp h hc k (Q2b l n) ([]++[n]) Zb (fun x hx=>by
       rw[List.mem_singleton.1 hx];exact hlt)]
     simp
  ·rw[Q3x (fun hc=>hn hc.1),Q3x (fun hc=>hn hc.1)];simp
theorem Q41{l:List Cls}(h:Qs l=true){n:Str}(hn:isKnown l n=true):Qq l n=n::Qq l (Q2b l n):=by
 have hp:=Q1g h
 have hc:=Qcx h
 unfold Qq
 rw[Q9c hn rfl]
 by_cases hs:Q2b l n=[]
 ·rw[hs,Q3x (by rw[Q3g hp];simp),Q3x (by rw[Q3g hp];simp)];rfl
 ·rw[Qyp hp hc _ _ ([]++[n]) (Nat.le_refl _) (fun x hx=>by rw[List.mem_singleton.1 hx];exact Qtk hp hc hn hs)]
  rfl
theorem Qm0{l:List Cls}{n:Str}(hn:isKnown l n=false):Qq l n=[]:=by
 unfold Qq;rw[Q3x];rw[hn];simp
def chS(l:List Cls)(a:Str):List Str:=if isKnown l a=true then Qq l a else if a=[] then [] else [a]
theorem Q9d{l:List Cls}{a:Str}(h:isKnown l a=true):chS l a=Qq l a:=if_pos h
theorem Qqh{l:List Cls}(h:Qs l=true):chS l []=[]:=by unfold chS;rw[if_neg (by rw[Q3g (Q1g h)];simp),if_pos rfl]
theorem Qvu{l:List Cls}(h:Qs l=true){a:Str}(ha:a≠[]):chS l a=a::chS l (Q6q l a):=by
 rw[←Qtf (Q1g h)]
 by_cases hk:isKnown l a=true
 ·rw[Q9d hk,Q41 h hk]
  rcases Qow (Q1g h) hk with e|e
  ·rw[e,Qqh h,Qm0 (Q3g (Q1g h))]
  ·rw[Q9d e]
 ·have:Q2b l a=[]:=by
   simp only[isKnown,Bool.or_eq_true,decide_eq_true_eq] at hk
   unfold Q2b;rw[if_neg (fun h=>hk (.inr h)),if_pos (.inl (by simp[bIn];omega))]
  rw[this,Qqh h];unfold chS;rw[if_neg hk,if_neg ha]
def subS(l:List Cls)(a b:Str):Bool:=out (chS l a) b
theorem Q11v{l:List Cls}(h:Qs l=true)(b:Str):subS l [] b=false:=by unfold subS;rw[Qqh h];rfl
theorem Q142{l:List Cls}(h:Qs l=true){a b:Str}(ha:a≠[]):subS l a b=(decide (b=a)||subS l (Q6q l a) b):=by
 unfold subS;rw[Qvu h ha];rfl
structure Typ where
 k:Int
 c:Str
 at':Int
 deriving DecidableEq,Inhabited
def eT(x:Typ):V:= .agg [.int .i64 x.k,.str x.c,.int .i64 x.at']
@[simp] theorem pureL_eT (l:List Typ):pureL (l.map eT)=true:=Q3z _ (fun _=>rfl) l
@[simp] theorem fzL_eT (l:List Typ):fzL (l.map eT)=l.map eT:=Q6i _ (fun _=>rfl) l
@[simp] theorem jkL_eT (p:Nat→Bool) (l:List Typ):jkL p (l.map eT)=l.map eT:=Q5f p _ (fun _=>rfl) l
attribute [simp] eT
def Q1s(l:List Cls)(t:Typ):Bool:=if t.k=3∨t.k=5 then isKnown l t.c&&decide (t.at'=0) else if t.k=6 then isKnown l t.c&&decide (0≤t.at'∧t.at'≤59) else decide (0≤t.k∧t.k≤7)&&(decide (t.c=[])&&decide (t.at'=0))
def zT:Typ:=⟨0,[],0⟩
def Q7z:Typ:=⟨3,Qt,0⟩
def comI(l:List Cls)(a b:Str):Str:=((Qq l a).find? fun x=>isKnown l x&&out (Qq l b) x).getD []
def Qhg(l:List Cls)(a b:Str):Str:=((chS l a).find? fun x=>subS l b x).getD []
def Q48(t:Typ):Bool:=decide (2≤t.k∧t.k≤5)
def leI(l:List Cls)(a b:Typ):Bool:=
 if a=b∨b.k=0 then true else if a.k=2 then Q48 b
 else if (a.k=3∧b.k=3)∨(a.k=5∧b.k=5) then isKnown l b.c&&out (Qq l a.c) b.c
 else decide (a.k=4∨a.k=5)&&decide (b=Q7z)
def Qjo(l:List Cls)(a b:Typ):Typ:=
 if a=b then a else if (!Q48 a|| !Q48 b)=true then zT else if a.k=2 then b else if b.k=2 then a
 else if a.k=b.k then ⟨a.k,comI l a.c b.c,0⟩ else Q7z
def leT(l:List Cls)(a b:Typ):Bool:=
 if a=b∨b.k=0 then true else if a.k=2 then decide (b.k=3∨b.k=4∨b.k=5)
 else if (a.k=3∧b.k=3)∨(a.k=5∧b.k=5) then subS l a.c b.c
 else decide (a.k=4∨a.k=5)&&decide (b.k=3)&&decide (b.c=Qt)
def Q8x(l:List Cls)(a b:Typ):Typ:=
 if a=b then a else if a.k=2∧(b.k=3∨b.k=4∨b.k=5) then b else if b.k=2∧(a.k=3∨a.k=4∨a.k=5) then a
 else if a.k=b.k∧(a.k=3∨a.k=5) then ⟨a.k,Qhg l a.c b.c,0⟩
 else if (a.k=3∨a.k=4∨a.k=5)∧(b.k=3∨b.k=4∨b.k=5) then Q7z else zT
theorem Qoz{l:List Cls}{a x:Str}: ∀(k:Nat) (o:List Str) (n:Str),cMu l o≤k→(∀y∈o,isKnown l y=true)→x∈chn l o n→isKnown l x=true
 |0,o,n,hk,ho,hx=>by
  rw[Q3x] at hx
  ·exact ho x hx
  ·rintro ⟨h1,h2⟩;have:=Qki h1 h2;omega
 |k+1,o,n,hk,ho,hx=>by
  by_cases hc:isKnown l n=true∧out o n=false
  ·rw[Q9c hc.1 hc.2] at hx
   refine Qoz (a:=a) k (o++[n]) (Q2b l n) Zbf (fun y hy=> ?_) hx
   rcases List.mem_append.1 hy with hy|hy
   ·exact ho y hy
   ·rw[List.mem_singleton.1 hy];exact hc.1
  ·rw[Q3x hc] at hx;exact ho x hx
theorem Qrf{l:List Cls}{a x:Str}(h:x∈Qq l a):isKnown l x=true:=Qoz (a:=a) _ [] a (Nat.le_refl _) (fun y hy=>by cases hy) h
theorem Q16r{l:List Cls}{a b:Str}(ha:isKnown l a=true)(hb:isKnown l b=true):comI l a b=Qhg l a b:=by
 unfold comI Qhg subS
 rw[Q9d ha,Q9d hb]
 congr 1
 have: ∀(xs:List Str),(∀x∈xs,isKnown l x=true)→xs.find? (fun x=>isKnown l x&&out (Qq l b) x)=xs.find? (fun x=>out (Qq l b) x):=by
  intro xs
  induction xs with
  |nil=>intro _;rfl
  |cons x xs ih=>intro h;simp only[List.find?_cons];rw[h x Z3,Bool.true_and,ih (fun y hy=>h y Zca)]
 exact this _ (fun x hx=>Qrf hx)
theorem Qa3{l:List Cls}{t:Typ}(h:Q1s l t=true)(hk:t.k=3∨t.k=5):isKnown l t.c=true∧t.at'=0:=by
 unfold Q1s at h;rw[if_pos hk] at h;simpa using h
theorem Qyc{l:List Cls}{t:Typ}(h:Q1s l t=true)(h3: ¬(t.k=3∨t.k=5))(h6:t.k≠6):t.c=[]∧t.at'=0∧0≤t.k∧t.k≤7:=by
 unfold Q1s at h;rw[if_neg h3,if_neg h6] at h;simp at h;exact ⟨h.2.1,h.2.2,h.1.1,h.1.2⟩
theorem Qq3{a b:Typ}(h1:a.k=b.k)(h2:a.c=b.c)(h3:a.at'=b.at'):a=b:=by
 cases a;cases b;simp_all
theorem Qw6{l:List Cls}{a b:Typ}(ha:Q1s l a=true)(hb:Q1s l b=true)(e:a.k=b.k)(h3: ¬(a.k=3∨a.k=5))(h6:a.k≠6):a=b:=by
 have h1:=Qyc ha h3 h6
 have h2:=Qyc hb (by rw[←e];exact h3) (by rw[←e];exact h6)
 exact Qq3 e (by rw[h1.1,h2.1]) (by rw[h1.2.1,h2.2.1])
theorem Q16f{l:List Cls}{a b:Typ}(ha:Q1s l a=true)(hb:Q1s l b=true):Qjo l a b=Q8x l a b:=by
 unfold Qjo Q8x
 by_cases h1:a=b
 ·rw[if_pos h1,if_pos h1]
 ·rw[if_neg h1,if_neg h1]
  have hs:a.k=b.k→(a.k=3∨a.k=5)∨a.k=6:=fun e=>by
   by_cases h3:a.k=3∨a.k=5
   ·exact .inl h3
   ·exact .inr (Classical.byContradiction fun h6=>h1 (Qw6 ha hb e h3 h6))
  simp only[Q48,Bool.or_eq_true,Bool.not_eq_true',decide_eq_false_iff_not]
  repeat' split
  all_goals first
   |rfl
   |omega
   |rw[Q16r (Qa3 ha Zb).1 (Qa3 hb Zb).1]
theorem Q115{α:Type}{p:α→Bool}{xs:List α}{i:Nat}(h:i<xs.length):(xs.drop i).find? p=if p xs[i]=true then some xs[i] else (xs.drop (i+1)).find? p:=by
 rw[List.drop_eq_getElem_cons h,List.find?_cons];cases p xs[i]<;>rfl
theorem Q134{l:List Cls}(h:Qs l=true)(b:Str):Qhg l [] b=[]:=by unfold Qhg;rw[Qqh h];rfl
theorem Qvs{l:List Cls}(h:Qs l=true){a b:Str}(ha:a≠[]):Qhg l a b=if subS l b a=true then a else Qhg l (Q6q l a) b:=by
 unfold Qhg;rw[Qvu h ha,List.find?_cons];cases subS l b a<;>rfl
section
variable {l:List Cls}
theorem Qct{n:Str}(h:P12 l)(hk:isKnown l n=true)(hn:n≠Qt):Q2b l n≠[]:=by
 intro e
 simp only[isKnown,Bool.or_eq_true,decide_eq_true_eq] at hk
 by_cases hb:0≤Q1u n
 ·rw[(Q6p (fun k hk=>(h k hk).1) hb).2,if_neg hn] at e
  split at e<;>cases e
 ·obtain ⟨i,hi,_,_,e3⟩:=Q4x (l:=l) (n:=n) Zb
  rw[e3] at e
  rcases (Q6o h hi).2 with ⟨_,e2|e2⟩|⟨j,hj,_,e2⟩
  ·rw[e] at e2;cases e2
  ·rw[e] at e2;cases e2
  ·have:=Q5e (l:=l) hj
   rw[e2,e,Q3g h] at this;cases this
theorem Qau(hw:Qs l=true){P:Str→Prop}(h0:P Qt)(h1: ∀n,isKnown l n=true→n≠Qt→isKnown l (Q2b l n)=true→P (Q2b l n)→P n): ∀n,isKnown l n=true→P n:=by
 have key: ∀(k:Nat) (n:Str),rk l n≤k→isKnown l n=true→P n:=by
  intro k
  induction k with
  |zero=>
   intro n hk hn
   by_cases ho:n=Qt
   ·rw[ho];exact h0
   ·have:=Qtk (Q1g hw) (Qcx hw) hn (Qct (Q1g hw) hn ho);omega
  |succ k ih=>
   intro n hk hn
   by_cases ho:n=Qt
   ·rw[ho];exact h0
   ·have hs:=Qct (Q1g hw) hn ho
    have:=Qtk (Q1g hw) (Qcx hw) hn hs
    have hks:=(Qow (Q1g hw) hn).resolve_left hs
    exact h1 n hn ho hks (ih _ Zb hks)
 exact fun n hn=>key _ n (Nat.le_refl _) hn
theorem Qdr(hw:Qs l=true):Qq l Qt=[Qt]:=by
 unfold Qq;rw[Qvt (Q1g hw) rfl];rfl
theorem Qz3{n:Str}(hw:Qs l=true)(hn:isKnown l n=true):n∈Qq l n:=by rw[Q41 hw hn];simp
theorem Qy4(hw:Qs l=true): ∀n,isKnown l n=true→Qt∈Qq l n:=
 Qau hw (by rw[Qdr hw];simp) fun n hn _ _ ih=>by rw[Q41 hw hn];simp[ih]
theorem Qd9:isKnown l Qt=true:=Q3f Z73
theorem Q186(hw:Qs l=true){x:Str}: ∀n,isKnown l n=true→x∈Qq l n→x=n∨rk l x<rk l n:=by
 refine Qau hw ?_ ?_
 ·intro hx;rw[Qdr hw] at hx;exact .inl (List.mem_singleton.1 hx)
 ·intro n hn ho hs ih hx
  rw[Q41 hw hn] at hx
  rcases List.mem_cons.1 hx with rfl|hx
  ·exact .inl rfl
  ·have:=Qtk (Q1g hw) (Qcx hw) hn (Qct (Q1g hw) hn ho)
   rcases ih hx with rfl|h
   ·exact .inr this
   ·exact .inr Zb
theorem Qut{a b:Str}(ha:isKnown l a=true):subS l a b=true↔b∈Qq l a:=by
 unfold subS;rw[Q9d ha,Q89]
theorem Qxe(hw:Qs l=true){b:Str}(hb:isKnown l b=true): ∀a,isKnown l a=true→
  Qhg l a b∈Qq l a∧Qhg l a b∈Qq l b∧ ∀c,c∈Qq l a→c∈Qq l b→c∈Qq l (Qhg l a b):=by
 have hgo: ∀a,isKnown l a=true→Qhg l a b=if a∈Qq l b then a else Qhg l (Q2b l a) b:=by
  intro a ha
  have hne:a≠[]:=fun e=>by rw[e,Q3g (Q1g hw)] at ha;cases ha
  rw[Qvs hw hne,Qtf (Q1g hw)]
  by_cases h:a∈Qq l b
  ·rw[if_pos h,if_pos ((Qut hb).2 h)]
  ·rw[if_neg h,if_neg (fun e=>h ((Qut hb).1 e))]
 refine Qau hw ?_ ?_
 ·rw[hgo _ Qd9,if_pos (Qy4 hw b hb)]
  exact ⟨Qz3 hw Qd9,Qy4 hw b hb,fun c hc _=>hc⟩
 ·intro n hn ho hs ih
  rw[hgo n hn]
  by_cases h:n∈Qq l b
  ·rw[if_pos h];exact ⟨Qz3 hw hn,h,fun c hc _=>hc⟩
  ·rw[if_neg h]
   refine ⟨?_,ih.2.1,fun c hc hcb=> ?_⟩
   ·rw[Q41 hw hn];exact List.mem_cons_of_mem _ ih.1
   ·rw[Q41 hw hn] at hc
    rcases List.mem_cons.1 hc with rfl|hc
    ·exact absurd hcb h
    ·exact ih.2.2 c hc hcb
theorem Qd8{t:Typ}(hk:t.k=3∨t.k=5)(h1:isKnown l t.c=true)(h2:t.at'=0):Q1s l t=true:=by
 unfold Q1s;rw[if_pos hk];simp[h1,h2]
theorem Qyb:Q1s l Q7z=true:=Qd8 (.inl rfl) Qd9 rfl
theorem Qya{a b:Typ}(ha:Q1s l a=true)(_hb:Q1s l b=true):leT l a b=true↔a=b∨b.k=0∨(a.k=2∧(b.k=3∨b.k=4∨b.k=5))∨(((a.k=3∧b.k=3)∨(a.k=5∧b.k=5))∧b.c∈Qq l a.c)∨
  ((a.k=4∨a.k=5)∧b.k=3∧b.c=Qt):=by
 unfold leT
 by_cases h1:a=b∨b.k=0
 ·rw[if_pos h1];rcases h1 with h1|h1<;>simp[h1]
 ·rw[if_neg h1]
  by_cases h2:a.k=2
  ·rw[if_pos h2,decide_eq_true_eq]
   constructor
   ·intro h;exact .inr (.inr (.inl ⟨h2,h⟩))
   ·rintro (h|h|⟨_,h⟩|⟨h,_⟩|⟨h,_⟩)
    ·exact absurd (.inl h) h1
    ·exact absurd (.inr h) h1
    ·exact h
    ·omega
    ·omega
  ·rw[if_neg h2]
   by_cases h3:(a.k=3∧b.k=3)∨(a.k=5∧b.k=5)
   ·rw[if_pos h3,Qut (Qa3 ha Zb).1]
    constructor
    ·intro h;exact .inr (.inr (.inr (.inl ⟨h3,h⟩)))
    ·rintro (h|h|⟨h,_⟩|⟨_,h⟩|⟨h,h'⟩)
     ·exact absurd (.inl h) h1
     ·exact absurd (.inr h) h1
     ·omega
     ·exact h
     ·omega
   ·rw[if_neg h3]
    simp only[Bool.and_eq_true,decide_eq_true_eq,and_assoc]
    constructor
    ·intro h;exact .inr (.inr (.inr (.inr h)))
    ·rintro (h|h|⟨h,_⟩|⟨h,_⟩|h)
     ·exact absurd (.inl h) h1
     ·exact absurd (.inr h) h1
     ·omega
     ·exact absurd h h3
     ·exact h
theorem Qmy(hw:Qs l=true){a b:Typ}(ha:Q1s l a=true)(hb:Q1s l b=true):Q1s l (Q8x l a b)=true:=by
 unfold Q8x
 repeat' split
 ·exact ha
 ·exact hb
 ·exact ha
 ·rename_i h
  exact Qd8 (t:=⟨a.k,Qhg l a.c b.c,0⟩) h.2 (Qrf (Qxe hw (Qa3 hb Zb).1 _ (Qa3 ha h.2).1).1) rfl
 ·exact Qyb
 ·rfl
theorem Q16e(hw:Qs l=true){a b:Typ}(ha:Q1s l a=true)(hb:Q1s l b=true):leT l a (Q8x l a b)=true∧leT l b (Q8x l a b)=true:=by
 rw[Qya ha (Qmy hw ha hb),Qya hb (Qmy hw ha hb)]
 unfold Q8x
 repeat' split
 ·rename_i h;exact ⟨.inl rfl,.inl h.symm⟩
 ·rename_i h;exact ⟨.inr (.inr (.inl h)),.inl rfl⟩
 ·rename_i h;exact ⟨.inl rfl,.inr (.inr (.inl h))⟩
 ·rename_i h
  have:=Qxe hw (Qa3 hb Zb).1 _ (Qa3 ha h.2).1
  exact ⟨.inr (.inr (.inr (.inl ⟨by simp only;omega,this.1⟩))),.inr (.inr (.inr (.inl ⟨by simp only;omega,this.2.1⟩)))⟩
 ·rename_i h1 h2 h3 h4 h
  have key: ∀{t:Typ},Q1s l t=true→(t.k=3∨t.k=4∨t.k=5)→t=Q7z∨Q7z.k=0∨(t.k=2∧(Q7z.k=3∨Q7z.k=4∨Q7z.k=5))∨(((t.k=3∧Q7z.k=3)∨(t.k=5∧Q7z.k=5))∧Q7z.c∈Qq l t.c)∨((t.k=4∨t.k=5)∧Q7z.k=3∧Q7z.c=Qt):=by
   intro t ht hk
   by_cases h:t.k=3
   ·exact .inr (.inr (.inr (.inl ⟨.inl ⟨h,rfl⟩,Qy4 hw _ (Qa3 ht (.inl h)).1⟩)))
   ·exact .inr (.inr (.inr (.inr ⟨by omega,rfl,rfl⟩)))
  exact ⟨key ha h.1,key hb h.2⟩
 ·exact ⟨.inr (.inl rfl),.inr (.inl rfl)⟩
set_option maxHeartbeats 4000000 in
set_option maxHeartbeats 4000000 in
end
structure Fnd where
 c:Str
 p:Int
 e:Int
 deriving DecidableEq,Inhabited
def eFd(x:Fnd):V:= .agg [.str x.c,.int .i64 x.p,.int .i64 x.e]
attribute [simp] eFd
def Qf7:Fnd:=⟨[],0,8⟩
def Qdf:Str:=[40,41,86]
def Q13e(n d:Str):Mth:=⟨n,d,false,false,false,0,0,[],[]⟩
theorem Qw3(n d:Str):Wk (.agg [.str n,.str d,.bool false,.bool false,.bool false,.int .i64 0,.int .i64 0,.raw (.slice none 0 0),.raw (.slice none 0 0)]) (eM (Q13e n d)):=
 Wk.agg (.cons (Wk.refl _) (.cons (Wk.refl _) (.cons (Wk.refl _) (.cons (Wk.refl _) (.cons (Wk.refl _) (.cons (Wk.refl _) (.cons (Wk.refl _) (.cons (Wk.nilSlice _ _) (.cons (Wk.nilSlice _ _) .nil)))))))))
def fmL(l:List Cls)(n d:Str):List Str→Fnd×Mth
 |[]=>(Qf7,zM)
 |x::xs=>if 0≤Q1j n d (Q1q l x).methods 0 then (⟨x,Q1j n d (Q1q l x).methods 0,0⟩,atL (Q1q l x).methods (Q1j n d (Q1q l x).methods 0).toNat)
  else if n=Qn then (if bIn x=true∧d=Qdf then (⟨x,-1,0⟩,Q13e Qn d) else (Qf7,zM)) else fmL l n d xs
def fmU(l:List Cls)(n d:Str)(k:Int):Fnd:=if k<0 then Qf7 else (fmL l n d (Qq l (Q7p l k))).1
theorem Qwv{n d:Str}:Q1j n d [] 0= -1:=rfl
theorem Qlz{l:List Cls}(h:P12 l){x:Str}(hb:0≤Q1u x):Q1q l x=zC:=Q50 (by have:=(Q6p (fun k hk=>(h k hk).1) hb).1;omega)
theorem Qoi{l:List Cls}(h:P12 l){x:Str}(hb:0≤Q1u x):Q2b l x=[]∨0≤Q1u (Q2b l x):=by
 rw[(Q6p (fun k hk=>(h k hk).1) hb).2]
 split
 ·exact .inl rfl
 ·split
  ·exact .inr Z73
  ·exact .inr Z5j
theorem Qyj{l:List Cls}(hw:Qs l=true){n d:Str}(hn:n≠Qn): ∀x,isKnown l x=true→0≤Q1u x→fmL l n d (Qq l x)=(Qf7,zM):=by
 have one: ∀x (xs:List Str),0≤Q1u x→fmL l n d (x::xs)=fmL l n d xs:=fun x xs hb=>by
  simp only[fmL]
  rw[Qlz (Q1g hw) hb,if_neg Z89,if_neg hn]
 refine Qau hw ?_ ?_
 ·intro hb;rw[Qdr hw,one _ _ hb];rfl
 ·intro x hx hxo _ ih hb
  rw[Q41 hw hx,one _ _ hb]
  rcases Qoi (Q1g hw) hb with e|e
  ·exact absurd e (Qct (Q1g hw) hx hxo)
  ·exact ih e
theorem Qkz{l:List Cls}{k:Int}(h0:0≤k)(h1:k<l.length):isKnown l (Q7p l k)=true:=Ql3 h0 h1
theorem Q12w{l:List Cls}(hw:Qs l=true){c n d:Str}(h: ¬(0≤Q1u c∧n=Qn∧d=Qdf)):fmU l n d (Qi c l 0)=(fmL l n d (Qq l c)).1:=by
 unfold fmU
 by_cases hf:Qi c l 0<0
 ·rw[if_pos hf]
  by_cases hb:0≤Q1u c
  ·have hk:=Q3f (l:=l) hb
   by_cases hn:n=Qn
   ·rw[Q41 hw hk]
    simp only[fmL]
    rw[Qlz (Q1g hw) hb,if_neg Z89,if_pos hn,if_neg (fun e=>h ⟨hb,hn,e.2⟩)]
   ·rw[Qyj hw hn c hk hb]
  ·rw[Qm0 (by simp[isKnown];omega)];rfl
 ·rw[if_neg hf]
  obtain ⟨i,hi,e1,e2,_⟩:=Q4x (l:=l) (n:=c) Zb
  rw[e1,Q27 hi,e2]
theorem Q12x{l:List Cls}(hw:Qs l=true){c n d:Str}(hb:0≤Q1u c)(hn:n=Qn)(hd:d=Qdf):(fmL l n d (Qq l c)).1=⟨c,-1,0⟩:=by
 rw[Q41 hw (Q3f hb)]
 simp only[fmL]
 rw[Qlz (Q1g hw) hb,if_neg Z89,if_pos hn,if_pos ⟨by simp[bIn,hb],hd⟩]
theorem Qzm{l:List Cls}{n d:Str}{k:Int}(h:k<0):fmU l n d k=Qf7:=if_pos h
theorem Q16m{l:List Cls}(hw:Qs l=true){n d:Str}{k:Nat}(hk:k<l.length):
  fmU l n d k=if 0≤Q1j n d l[k].methods 0 then ⟨l[k].name,Q1j n d l[k].methods 0,0⟩ else if n=Qn then Qf7 else fmU l n d (nxt l k):=by
 have hp:=Q1g hw
 have hkn:=Qkz (l:=l) (k:=(k:Int)) Zb Zb
 unfold fmU
 rw[if_neg Zb,Q41 hw hkn]
 simp only[fmL]
 rw[Qdq hp hk,Q27 hk]
 by_cases h1:0≤Q1j n d l[k].methods 0
 ·rw[if_pos h1,if_pos h1]
 ·rw[if_neg h1,if_neg h1]
  by_cases h2:n=Qn
  ·rw[if_pos h2,if_pos h2,if_neg]
   rintro ⟨e,_⟩
   have:=Qam hk (hp k hk).1
   simp[bIn] at e;omega
  ·rw[if_neg h2,if_neg h2]
   by_cases h3:nxt l k<0
   ·rw[if_pos h3]
    obtain ⟨e1,e2⟩:=Q6o hp hk
    rw[e1]
    rcases e2 with ⟨_,e|e⟩|⟨j,hj,e4,_⟩
    ·rw[e,Qyj hw h2 _ Qd9 Z73]
    ·rw[e,Qyj hw h2 _ (Q3f Z5j) Z5j]
    ·omega
   ·rw[if_neg h3]
    have:=Qkq hp (k:=(k:Int)) Zb Zb Zb
    rw[Q27 hk] at this
    rw[this]
def rkU(l:List Cls)(k:Int):Nat:=if k<0 then 0 else rk l (Q7p l k)+1
theorem Qxw{l:List Cls}(hw:Qs l=true){k:Nat}(hk:k<l.length):rkU l (nxt l k)<rkU l k:=by
 unfold rkU
 rw[if_neg (show¬(k:Int)<0 from by omega)]
 by_cases h3:nxt l k<0
 ·rw[if_pos h3];omega
 ·rw[if_neg h3]
  have hkn:=Qkz (l:=l) (k:=(k:Int)) Zb Zb
  have:=Qkq (Q1g hw) (k:=(k:Int)) Zb Zb Zb
  have h2:=Qtk (Q1g hw) (Qcx hw) hkn (by
   rw[this];intro e
   have h4:=Qkz (l:=l) (k:=nxt l k) Zb Qa2.2
   rw[e,Q3g (Q1g hw)] at h4;cases h4)
  rw[this] at h2;omega
theorem Q163{z:Int}{n:Nat}(h:0≤sub z n):(n:Int)≤z∧sub z n=z-n:=by
 unfold sub at h⊢;split at h<;>omega
structure Frm where
 stack:List Typ
 locals:List Typ
 deriving DecidableEq,Inhabited
def eFr(x:Frm):V:= .agg [.lst false 3 (x.stack.map eT),.lst false 3 (x.locals.map eT)]
def oFr(x:Frm):V:= .agg [.lst true 3 (x.stack.map eT),.lst true 3 (x.locals.map eT)]
attribute [simp] eFr oFr
@[simp] theorem pureL_eFr (l:List Frm):pureL (l.map eFr)=true:=Q3z _ (fun _=>rfl) l
@[simp] theorem fzL_eFr (l:List Frm):fzL (l.map eFr)=l.map eFr:=Q6i _ (fun _=>rfl) l
@[simp] theorem jkL_eFr (p:Nat→Bool) (l:List Frm):jkL p (l.map eFr)=l.map eFr:=Q5f p _ (fun _=>rfl) l
theorem Q16j(x:Frm):(oFr x).fz=eFr x:=by simp[oFr,eFr,V.fz,fzL]
def Qn0(l:List Cls)(f:Frm):Bool:=decide (f.stack.length≤16)&&(decide (f.locals.length≤16)&&(f.stack.all (Q1s l)&&f.locals.all (Q1s l)))
def Qdc(l:List Cls)(f:Frm):Bool:=Qs l&&Qn0 l f
def mDig:Nat→Str→Str
 |0,a=>a
 |k+1,a=>mDig ((k+1)/10) (UInt8.ofNat (48+(k+1)%10)::a)
 termination_by k=>k
 decreasing_by omega
def Qtu(k:Nat):Str:=if k=0 then [109,48] else 109::mDig k []
def mks{α:Type}(f:Nat→α)(c:Nat)(k:Nat):Nat→List α
 |0=>[]
 |n+1=>f k::mks f c (k+c) n
theorem Qv6{α:Type}{f:Nat→α}{c:Nat}: ∀(n k:Nat),(mks f c k n).length=n
 |0,_=>rfl
 |n+1,k=>by simp[mks,Qv6 n]
theorem midG{Y:List V}{i:Nat}(h:Y.length=i)(x:V)(Z:List V):(Y++x::Z)[i]? =some x:=by subst h;simp
theorem midS{Y:List V}{i:Nat}(h:Y.length=i)(x y:V)(Z:List V):(Y++x::Z).set i y=Y++y::Z:=by subst h;simp
def mkI(k:Nat):Ins:=⟨k,((k+1:Nat):Int),Qtu (k+2),Qtu (k+3),Qtu (k+4)⟩
def mkH(k:Nat):Hdl:=⟨k,((k+1:Nat):Int),((k+2:Nat):Int),Qtu (k+3)⟩
theorem Qib{α:Type}{e:α→V}(h: ∀n x,(e x).lim n=true)(n:Nat)(l:List α):limL n (l.map e)=true:=by
 rw[Qd7];simp[h]
@[simp] theorem lim_T (n:Nat) (l:List Typ):limL n (l.map eT)=true:=Qib (fun n x=>by simp[eT,V.lim,limL]) n l
@[simp] theorem lim_F (n:Nat) (l:List Fld):limL n (l.map eF)=true:=Qib (fun n x=>by simp[eF,V.lim,limL]) n l
@[simp] theorem lim_I (n:Nat) (l:List Ins):limL n (l.map eI)=true:=Qib (fun n x=>by simp[eI,V.lim,limL]) n l
@[simp] theorem lim_H (n:Nat) (l:List Hdl):limL n (l.map eH)=true:=Qib (fun n x=>by simp[eH,V.lim,limL]) n l
theorem Q6v{α:Type}{e:α→V}(g:Nat→Option Nat)(h: ∀x,(e x).mapId g=e x)(l:List α):mapL g (l.map e)=l.map e:=by
 rw[Q9p,List.map_map]
 exact List.map_congr_left (fun x _=>h x)
@[simp] theorem mapL_T (g:Nat→Option Nat) (l:List Typ):mapL g (l.map eT)=l.map eT:=Q6v g (fun _=>rfl) l
@[simp] theorem mapL_F (g:Nat→Option Nat) (l:List Fld):mapL g (l.map eF)=l.map eF:=Q6v g (fun _=>rfl) l
@[simp] theorem mapL_I (g:Nat→Option Nat) (l:List Ins):mapL g (l.map eI)=l.map eI:=Q6v g (fun _=>rfl) l
@[simp] theorem mapL_H (g:Nat→Option Nat) (l:List Hdl):mapL g (l.map eH)=l.map eH:=Q6v g (fun _=>rfl) l
@[simp] theorem mapL_M (g:Nat→Option Nat) (l:List Mth):mapL g (l.map oM)=l.map oM:=Q6v g (fun _=>rfl) l
@[simp] theorem mapL_C (g:Nat→Option Nat) (l:List Cls):mapL g (l.map oC)=l.map oC:=Q6v g (fun _=>rfl) l
structure FrO where
 f:Frm
 code:Int
 deriving DecidableEq,Inhabited
def eFo(x:FrO):V:= .agg [.lst false 3 (x.f.stack.map eT),.lst false 3 (x.f.locals.map eT),.int .i64 x.code]
def oFo(x:FrO):V:= .agg [.lst true 3 (x.f.stack.map eT),.lst true 3 (x.f.locals.map eT),.int .i64 x.code]
attribute [simp] eFo oFo
def zFo(c:Int):FrO:=⟨⟨[],[]⟩,c⟩
def Q5w(g:Typ→Typ→Typ)(a b:List Typ):List Typ:=List.zipWith g a b
theorem Qar{g:Typ→Typ→Typ}{a b:List Typ}(h:a.length=b.length):(Q5w g a b).length=a.length:=by simp[Q5w,h]
theorem Qra{g:Typ→Typ→Typ}{a b:List Typ}{i:Nat}(h:i<a.length)(e:a.length=b.length):
  Q5w g (a.take (i+1)) (b.take (i+1))=Q5w g (a.take i) (b.take i)++[g a[i] b[i]]:=by
 unfold Q5w
 rw[List.take_succ_eq_append_getElem h,List.take_succ_eq_append_getElem (show i<b.length by omega),List.zipWith_append (by simp[e])]
 rfl
theorem Qrc{l:List Cls}: ∀{a b:List Typ},a.all (Q1s l)=true→b.all (Q1s l)=true→Q5w (Qjo l) a b=Q5w (Q8x l) a b
 |[],_,_,_=>rfl
 |_::_,[],_,_=>rfl
 |x::as',y::bs,ha,hb=>by
  simp only[List.all_cons,Bool.and_eq_true] at ha hb
  have:=Qrc ha.2 hb.2
  unfold Q5w at this⊢
  simp only[List.zipWith_cons_cons]
  rw[Q16f ha.1 hb.1,this]
def Q40(l:List Cls)(a b:Frm):Frm:=⟨Q5w (Q8x l) a.stack b.stack,Q5w (Q8x l) a.locals b.locals⟩
def Qvh(l:List Cls)(a b:Frm):Frm:=⟨Q5w (Qjo l) a.stack b.stack,Q5w (Qjo l) a.locals b.locals⟩
theorem Q110{l:List Cls}{a b:Frm}(ha:Qn0 l a=true)(hb:Qn0 l b=true):Qvh l a b=Q40 l a b:=by
 simp only[Qn0,Bool.and_eq_true] at ha hb
 unfold Qvh Q40
 rw[Qrc ha.2.2.1 hb.2.2.1,Qrc ha.2.2.2 hb.2.2.2]
theorem Qgl{l:List Cls}{f:Frm}(h:Qn0 l f=true):f.stack.length≤16∧f.locals.length≤16:=by
 simp only[Qn0,Bool.and_eq_true,decide_eq_true_eq] at h
 exact ⟨h.1,h.2.1⟩
theorem Qy7{p:Nat→Bool}{x:V}{Y Z:List V}(hY:jkL p Y=Y)(hZ:jkL p Z=Z):jkL p (Y++x::Z)=Y++x.jk p::Z:=by
 rw[Qan] at hY hZ⊢
 rw[List.map_append,List.map_cons,hY,hZ]
@[simp] theorem lim_M (n:Nat) (l:List Mth):limL n (l.map oM)=true:=Qib (fun n x=>by simp[oM,V.lim,limL]) n l
@[simp] theorem lim_C (n:Nat) (l:List Cls):limL n (l.map oC)=true:=Qib (fun n x=>by simp[oC,V.lim,limL]) n l
def cntM(x:Mth):Nat:=7+5*x.code.length+4*x.hdls.length
def mkM(k:Nat)(x:Mth):Mth:=⟨Qtu k,Qtu (k+1),decide ((k+2)%3=0),decide ((k+3)%3=0),decide ((k+4)%3=0),((k+5:Nat):Int),((k+6:Nat):Int),mks mkI 5 (k+7) x.code.length,mks mkH 4 (k+7+5*x.code.length) x.hdls.length⟩
def mkMs(k:Nat):List Mth→List Mth
 |[]=>[]
 |x::l=>mkM k x::mkMs (k+cntM x) l
theorem Qr6: ∀{l:List Mth} {k:Nat},(mkMs k l).length=l.length
 |[],_=>rfl
 |x::l,k=>by simp[mkMs,Qr6]
theorem Q11u{α:Type}{f:Nat→α}{e:α→V}{c k n:Nat}:((mks f c k n).map e).take n=(mks f c k n).map e:=List.take_of_length_le (by simp[Qv6])
theorem Q10d{l:List Mth}{k:Nat}:((mkMs k l).map oM).take l.length=(mkMs k l).map oM:=List.take_of_length_le (by simp[Qr6])
attribute [simp] Go.Ev.seen
theorem Qol{α:Type}{f:α→V}(h: ∀x,(f x).solid=true): ∀l:List α,solidL (l.map f)=true
 |[]=>rfl
 |x::l=>by simp[solidL,h x,Qol h l]
@[simp] theorem solidL_T (l:List Typ):solidL (l.map eT)=true:=Qol (fun _=>rfl) l
@[simp] theorem nn5 {a b c d e:Nat}:(0≤1+(a:Int)+3*(b:Int)+3*(c:Int)+3*(d:Int)+3*(e:Int))=True:=by simp;omega
attribute [simp] Qv6 Q11u Qr6 Q10d
def Q1o(t:Str):Typ:=
 if Q1n t=true then (if t=[73] then ⟨1,[],0⟩ else if t=[91,73] then ⟨4,[],0⟩ else if Q23 t 0 91=true then ⟨5,Q1c t,0⟩ else ⟨3,Q1c t,0⟩) else zT
theorem Qe2{t:Str}(h:Q1n t=true)(h1:t≠[73])(h2:t≠[91,73]):Q1c t≠[]:=by
 obtain ⟨a,b,e⟩:=Qkp h h1 h2
 rw[e]
 intro hn
 have hl:([]:Str).length=0:=rfl
 rw[←hn] at hl
 split at hl
 ·rename_i h9
  have:=b h9
  simp[seg] at hl
  omega
 ·simp[seg] at hl
  omega
theorem Qe1{t:Str}(h:Q1c t≠[]):Q1n t=true∧t≠[73]∧t≠[91,73]:=by
 have: ¬(Q1n t=true→(t=[73]∨t=[91,73])):=fun h1=>h (Qko h1)
 refine ⟨?_,?_,?_⟩
 ·by_cases h1:Q1n t=true
  ·exact h1
  ·exact absurd (fun h2=>absurd h2 h1) this
 ·exact fun h1=>this (fun _=> .inl h1)
 ·exact fun h1=>this (fun _=> .inr h1)
theorem Qw7{t:Str}(h:Q1c t=[])(h1:t≠[73])(h2:t≠[91,73]):Q1o t=zT:=by
 unfold Q1o
 rw[if_neg (fun e=>Qe2 e h1 h2 h)]
theorem is91{t:Str}(h:0<t.length):(Q23 t 0 91=true)↔(atD t 0).toNat=91:=by rw[Q2r h,Qr h];simp
theorem Q15m{t:Str}:(1≤t.length∧t.take 1=[91])↔Q23 t 0 91=true:=by
 cases t with
 |nil=>simp[Q23]
 |cons a l=>
  rw[Q2r Z3]
  simp[←UInt8.toNat_inj]
theorem Qz4:Q1n [73]=true:=by decide
theorem Qz5:Q1n [91,73]=true:=by decide
def Q4p(n:Str)(m:Mth):List Typ:=if m.static=true then [] else [if m.name=Qn then ⟨7,[],0⟩ else ⟨3,n,0⟩]
def Qii(n:Nat)(b:List Typ):List Typ:=b++List.replicate (n-b.length) zT
def Qe3(n:Str)(ps:List Str)(m:Mth):List Typ:=Qii m.locals.toNat (Q4p n m++ps.map Q1o)
theorem Q4l(n:Str)(m:Mth):(Q4p n m).length≤1:=by unfold Q4p;split<;>simp
theorem Qi6{n:Nat}{b:List Typ}(h:b.length<n):Qii n (b++[zT])=Qii n b:=by
 unfold Qii
 obtain ⟨k,hk⟩: ∃k,n-b.length=k+1:=⟨n-b.length-1,by omega⟩
 rw[List.length_append,List.length_singleton,show n-(b.length+1)=k from by omega,hk,List.replicate_succ,List.append_assoc];rfl
theorem Qd0{n:Nat}{b:List Typ}(h:n≤b.length):Qii n b=b:=by
 unfold Qii;rw[show n-b.length=0 from by omega];simp
theorem Qd6{ps:List Str}{i:Nat}(h:i<ps.length):(ps.take (i+1)).map Q1o=(ps.take i).map Q1o++[Q1o ps[i]]:=by
 rw[List.take_succ_eq_append_getElem h,List.map_append];rfl
def Q5c(l:List Cls)(c m:Int):Bool:=decide (0≤c∧c<l.length)&&decide (0≤m∧m<(atL l c.toNat).methods.length)
theorem Qok(l:List Cls)(c m:Int):
  (¬0≤c∧True∧Q5c l c m=false)∨(∃i:Nat,c=i∧ ¬i<l.length∧True∧Q5c l i m=false)∨
  (∃i:Nat,c=i∧ ∃h:i<l.length,¬0≤m∧Q5c l i m=false)∨
  (∃i j:Nat,c=i∧m=j∧ ∃h:i<l.length,¬j<l[i].methods.length∧Q5c l i j=false)∨
  (∃i j:Nat,c=i∧m=j∧ ∃h:i<l.length,j<l[i].methods.length∧Q5c l i j=true):=by
 by_cases hc:0≤c
 ·obtain ⟨i,rfl⟩: ∃i:Nat,c=i:=⟨c.toNat,by omega⟩
  by_cases hi:i<l.length
  ·by_cases hm:0≤m
   ·obtain ⟨j,rfl⟩: ∃j:Nat,m=j:=⟨m.toNat,by omega⟩
    by_cases hj:j<l[i].methods.length
    ·exact .inr (.inr (.inr (.inr ⟨i,j,rfl,rfl,hi,hj,by simp[Q5c,hi,Qa hi,hj]⟩)))
    ·exact .inr (.inr (.inr (.inl ⟨i,j,rfl,rfl,hi,hj,by simp[Q5c,hi,Qa hi];omega⟩)))
   ·exact .inr (.inr (.inl ⟨i,rfl,hi,hm,by simp[Q5c,hm]⟩))
  ·exact .inr (.inl ⟨i,rfl,hi,trivial,by simp[Q5c,hi]⟩)
 ·exact .inl ⟨hc,trivial,by simp[Q5c,hc]⟩
def Qzq(l:List Cls)(c m:Int):Cls:=if Q5c l c m=true then atL l c.toNat else zC
def Qd4(l:List Cls)(c m:Int):Mth:=if Q5c l c m=true then (atL l c.toNat).methods.getD m.toNat zM else zM
theorem Q6s{l:List Cls}(h:Qs l=true){i j:Nat}(hi:i<l.length)(hj:j<l[i].methods.length):Q2t l[i].methods[j]=true:=by
 have:=(Q98 h).1 i hi
 simp only[Q5d,Qa hi] at this
 split at this
 ·rename_i h1
  simp only[Q3l,Bool.and_eq_true] at h1
  exact (Qmv h1.2.2 _ (List.getElem_mem hj)).1
 ·cases this
theorem Q8a{m:Mth}(h:Q2t m=true):Q39 m=true:=by
 by_cases h1:Q39 m=true
 ·exact h1
 ·rw[Qby Z6y] at h;cases h
theorem Qie{m:Mth}(h:Q39 m=true):m.desc.length≤20000∧Qd m.desc=Qy m.desc:=by
 simp only[Q39,Bool.and_eq_true,decide_eq_true_eq] at h
 have h2:=h.1.2
 by_cases h3:20000<m.desc.length
 ·unfold Qd at h2;rw[if_pos h3] at h2;cases h2
 ·exact ⟨by omega,by unfold Qd;rw[if_neg h3]⟩
theorem Qbz{l:List Cls}{i j:Nat}(hT:Q5c l i j=true)(hi:i<l.length)(hj:j<l[i].methods.length):Qd4 l i j=l[i].methods[j]:=by
 unfold Qd4;rw[if_pos hT];simp[Qa hi,hj]
theorem Qoy{l:List Cls}{i j:Nat}(hT:Q5c l i j=true)(hi:i<l.length):Qzq l i j=l[i]:=by
 unfold Qzq;rw[if_pos hT];simp[Qa hi]
theorem Qwu{l:List Cls}{i:Nat}(h:i<l.length):l[i].methods.length≤Q1w l:=by
 have:=Q46 h
 simp only[Q1r] at this
 omega
@[simp] theorem nn1 {a:Nat}:(0≤1+(a:Int))=True:=by simp;omega
end Go.Proofs
