/- Part 8 of what the proofs lean on: what the functions of the program and of the reference compute. Conditions: none. -/
import Derived.Test.YtkjgmpccmpmmiaaGreatK06
set_option linter.all false
set_option linter.unusedVariables false
set_option linter.unusedSimpArgs false
set_option maxHeartbeats 2000000
set_option maxRecDepth 100000
namespace Go.Proofs
open Go Go.Ev
structure AlO where
 cls:Int
 mth:Int
 at':Int
 k:Int
 deriving DecidableEq
def eAl(x:AlO):V:= .agg [.int .i64 x.cls,.int .i64 x.mth,.int .i64 x.at',.int .i64 x.k]
attribute [simp] eAl
def caM(l:List Cls)(c:Cls)(i:Nat):List Mth→Nat→Option AlO
 |[],_=>none
 |m::ms,j=>if m.abstr=true∨(ckW l c m).k=0 then caM l c i ms (j+1) else some ⟨i,j,(ckW l c m).at',(ckW l c m).k⟩
def caC(l:List Cls):List Cls→Nat→Option AlO
 |[],_=>none
 |c::cs,i=>match caM l c i c.methods 0 with
  |some x=>some x
  |none=>caC l cs (i+1)
def caW(l:List Cls):AlO:=if 400<l.length then ⟨0,0,0,2⟩ else if (Q31 l).2=0 then (caC l l 0).getD ⟨0,0,0,0⟩ else ⟨(Q31 l).1,0,0,(Q31 l).2⟩
section
variable {l:List Cls} {c:Cls} {i j:Nat}
theorem Qhs{ms:List Mth}(h:j<ms.length)(h2:ms[j].abstr=true∨(ckW l c ms[j]).k=0):caM l c i (ms.drop j) j=caM l c i (ms.drop (j+1)) (j+1):=by
 rw[List.drop_eq_getElem_cons h,caM,if_pos h2]
theorem Q13a{ms:List Mth}(h:j<ms.length)(h1:ms[j].abstr=false)(h2: ¬(ckW l c ms[j]).k=0):caM l c i (ms.drop j) j=some ⟨i,j,(ckW l c ms[j]).at',(ckW l c ms[j]).k⟩:=by
 rw[List.drop_eq_getElem_cons h,caM,if_neg (by rw[h1];exact fun e=>e.elim (fun e=>by cases e) h2)]
theorem Qzw{ms:List Mth}(h:ms.length≤j):caM l c i (ms.drop j) j=none:=by rw[List.drop_eq_nil_of_le h];rfl
theorem Q13c{cs:List Cls}(h:i<cs.length)(h2:caM l cs[i] i cs[i].methods 0=none):caC l (cs.drop i) i=caC l (cs.drop (i+1)) (i+1):=by
 rw[List.drop_eq_getElem_cons h,caC,h2]
theorem Q13b{cs:List Cls}(h:i<cs.length){x:AlO}(h2:caM l cs[i] i cs[i].methods 0=some x):caC l (cs.drop i) i=some x:=by
 rw[List.drop_eq_getElem_cons h,caC,h2]
theorem Qzx{cs:List Cls}(h:cs.length≤i):caC l (cs.drop i) i=none:=by rw[List.drop_eq_nil_of_le h];rfl
end
theorem Qpt:Q6 Tryz.prog 164:=jcb Tryz.func164
theorem Qpf{x:Fld}{z:Int}(h:bigF x)(h0:0≤z)(h1:z≤1099511627776):Ct Tryz.prog 164 [eF x,.int .i64 z] [] (.int .i64 (sub z (Q7e x))) []:=by
 simp only[bigF] at h
 obtain ⟨g0,g1⟩:=h
 refine jbS Tryz.func164 20 fun X hX=> ?_
 refine jq [1,2] ?_
 refine Q0 [1,2] (jh hX Z9) ?_
 refine Q4 (jq [1,2,11] ?_)
 refine jd (fun h2=> ?_) (fun h2=> ?_)
 ·try simp at h2
  refine jq [4] ?_
  refine Q5 (je Zw ?_)
  simp[sub,Q7e] at*;omega
 ·try simp at h2
  refine Q3 (Q0 [1] (jh hX Z37) ?_)
  refine Q4 (jq [1,18] ?_)
  refine jd (fun h5=> ?_) (fun h5=> ?_)
  ·try simp at h5
   refine jq [4] ?_
   refine Q5 (je Z35 ?_)
   simp[sub,Q7e] at*;omega
  ·try simp at h5
   refine Q3 (jq [4] ?_)
   refine Q5 (je Z35 ?_)
   simp[sub,Q7e] at*;omega
theorem Qo5:Q6 Tryz.prog 104:=jcb Tryz.func104
theorem Qni{l:List Fld}{z:Int}(h:l.length<4611686018427387904)(hb: ∀y∈l,bigF y)(h0:0≤z)(h1:z≤1099511627776):Ct Tryz.prog 104 [.lst false 3 (l.map eF),.int .i64 z] [] (.int .i64 (sub z (l.length+(l.map Q7e).sum))) []:=by
 refine jbS Tryz.func104 27 fun X hX=> ?_
 refine jq [0,1] ?_
 refine Q0 [0,1] (jh hX Z9) ?_
 refine Q4 (jq [0,1,11] ?_)
 refine jd (fun h2=> ?_) (fun h2=> ?_)
 ·try simp at h2
  refine jq [4] ?_
  refine Q5 (je Zw ?_)
  grind [sub]
 ·try simp at h2
  refine Q3 (Q4 (jq [0,1,5] ?_))
  refine Q7 (Qh (α:=Nat×Int) [0,1,5] (fun p=>[(1,.int .i64 p.2),(5,.int .i64 p.1)]) (fun p=>[]) (fun p=>p.1≤l.length∧0≤p.2∧p.2≤1099511627776∧sub p.2 ((l.drop p.1).map Q7e).sum=sub z (l.length+(l.map Q7e).sum)) (fun p=>l.length-p.1) ((0,z-l.length)) (fun p=>by simp;rfl) Z3 ?_ ?_)
  ·exact ⟨by simp,by simp;omega,by simp;omega,by simp[sub];grind⟩
  rintro ⟨i,y⟩ ⟨hi,hy0,hy1,hI⟩
  simp only at hi hy0 hy1 hI
  refine Q4 (Q0 [0,1,5,15] (jh hX Zw) ?_)
  refine jd (fun h5=> ?_) (fun h5=> ?_)
  ·try simp at h5
   rw[List.drop_eq_getElem_cons h5] at hI
   simp only[List.map_cons,List.sum_cons] at hI
   refine Q3 (Q4 (Q7 (Q0 [0,1,5] (js hX 5 Z35 (jc [] (c:=(by apply Qpf<;>exact Z3o)) (a:=Qpt) (k:=jr))) ?_)))
   refine jq [0,1,5,25] ?_
   refine jd (fun h8=> ?_) (fun h8=> ?_)
   ·try simp at h8
    refine jq [4] ?_
    refine Q5 (je Z4z ?_)
    grind [sub]
   ·try simp at h8
    refine Q3 (Qb (jh hX Z9) ?_)
    refine Qo ((i+1,sub y (Q7e l[i]))) [0,1,5] Z46 ?_ ?_
    ·exact ⟨by simp;omega,by simp;grind [sub],by simp;grind [sub],by grind [sub]⟩
    ·simp;omega
  ·try simp at h5
   refine Ql (jq [4] ?_)
   refine Q5 (je Z35 ?_)
   grind [sub]
theorem Qta:Q6 Tryz.prog 296:=jcb Tryz.func296
theorem Qt3{x:Ins}{z:Int}(h:bigI x)(h0:0≤z)(h1:z≤1099511627776):Ct Tryz.prog 296 [eI x,.int .i64 z] [] (.int .i64 (sub z (Q73 x))) []:=by
 simp only[bigI] at h
 obtain ⟨g0,g1,g2⟩:=h
 refine jbS Tryz.func296 27 fun X hX=> ?_
 refine jq [1,2] ?_
 refine Q0 [1,2] (jh hX Z9) ?_
 refine Q4 (jq [1,2,11] ?_)
 refine jd (fun h2=> ?_) (fun h2=> ?_)
 ·try simp at h2
  refine jq [4] ?_
  refine Q5 (je Zw ?_)
  simp[sub,Q73] at*;omega
 ·try simp at h2
  refine Q3 (Q0 [1,2] (jh hX Z37) ?_)
  refine Q4 (jq [1,2,18] ?_)
  refine jd (fun h5=> ?_) (fun h5=> ?_)
  ·try simp at h5
   refine jq [4] ?_
   refine Q5 (je Z35 ?_)
   simp[sub,Q73] at*;omega
  ·try simp at h5
   refine Q3 (Q0 [1] (jh hX Z7e) ?_)
   refine Q4 (jq [1,25] ?_)
   refine jd (fun h8=> ?_) (fun h8=> ?_)
   ·try simp at h8
    refine jq [4] ?_
    refine Q5 (je Z4z ?_)
    simp[sub,Q73] at*;omega
   ·try simp at h8
    refine Q3 (jq [4] ?_)
    refine Q5 (je Z4z ?_)
    simp[sub,Q73] at*;omega
theorem Qsf:Q6 Tryz.prog 234:=jcb Tryz.func234
theorem Qs2{l:List Ins}{z:Int}(h:l.length<4611686018427387904)(hb: ∀y∈l,bigI y)(h0:0≤z)(h1:z≤1099511627776):Ct Tryz.prog 234 [.lst false 5 (l.map eI),.int .i64 z] [] (.int .i64 (sub z (l.length+(l.map Q73).sum))) []:=by
 refine jbS Tryz.func234 27 fun X hX=> ?_
 refine jq [0,1] ?_
 refine Q0 [0,1] (jh hX Z9) ?_
 refine Q4 (jq [0,1,11] ?_)
 refine jd (fun h2=> ?_) (fun h2=> ?_)
 ·try simp at h2
  refine jq [4] ?_
  refine Q5 (je Zw ?_)
  grind [sub]
 ·try simp at h2
  refine Q3 (Q4 (jq [0,1,5] ?_))
  refine Q7 (Qh (α:=Nat×Int) [0,1,5] (fun p=>[(1,.int .i64 p.2),(5,.int .i64 p.1)]) (fun p=>[]) (fun p=>p.1≤l.length∧0≤p.2∧p.2≤1099511627776∧sub p.2 ((l.drop p.1).map Q73).sum=sub z (l.length+(l.map Q73).sum)) (fun p=>l.length-p.1) ((0,z-l.length)) (fun p=>by simp;rfl) Z3 ?_ ?_)
  ·exact ⟨by simp,by simp;omega,by simp;omega,by simp[sub];grind⟩
  rintro ⟨i,y⟩ ⟨hi,hy0,hy1,hI⟩
  simp only at hi hy0 hy1 hI
  refine Q4 (Q0 [0,1,5,15] (jh hX Zw) ?_)
  refine jd (fun h5=> ?_) (fun h5=> ?_)
  ·try simp at h5
   rw[List.drop_eq_getElem_cons h5] at hI
   simp only[List.map_cons,List.sum_cons] at hI
   refine Q3 (Q4 (Q7 (Q0 [0,1,5] (js hX 5 Z35 (jc [] (c:=(by apply Qt3<;>exact Z3o)) (a:=Qta) (k:=jr))) ?_)))
   refine jq [0,1,5,25] ?_
   refine jd (fun h8=> ?_) (fun h8=> ?_)
   ·try simp at h8
    refine jq [4] ?_
    refine Q5 (je Z4z ?_)
    grind [sub]
   ·try simp at h8
    refine Q3 (Qb (jh hX Z9) ?_)
    refine Qo ((i+1,sub y (Q73 l[i]))) [0,1,5] Z46 ?_ ?_
    ·exact ⟨by simp;omega,by simp;grind [sub],by simp;grind [sub],by grind [sub]⟩
    ·simp;omega
  ·try simp at h5
   refine Ql (jq [4] ?_)
   refine Q5 (je Z35 ?_)
   grind [sub]
theorem Qm9:Q6 Tryz.prog 297:=jcb Tryz.func297
theorem Qlm{x:Hdl}{z:Int}(h:bigH x)(h0:0≤z)(h1:z≤1099511627776):Ct Tryz.prog 297 [eH x,.int .i64 z] [] (.int .i64 (sub z (Qf0 x))) []:=by
 simp only[bigH] at h
 refine jbS Tryz.func297 13 fun X hX=> ?_
 refine jq [1,2] ?_
 refine Q0 [1] (jh hX Z9) ?_
 refine Q4 (jq [1,11] ?_)
 refine jd (fun h2=> ?_) (fun h2=> ?_)
 ·try simp at h2
  refine jq [4] ?_
  refine Q5 (je Zw ?_)
  simp[sub,Qf0] at*;omega
 ·try simp at h2
  refine Q3 (jq [4] ?_)
  refine Q5 (je Zw ?_)
  simp[sub,Qf0] at*;omega
theorem Qka:Q6 Tryz.prog 235:=jcb Tryz.func235
theorem Qju{l:List Hdl}{z:Int}(h:l.length<4611686018427387904)(hb: ∀y∈l,bigH y)(h0:0≤z)(h1:z≤1099511627776):Ct Tryz.prog 235 [.lst false 4 (l.map eH),.int .i64 z] [] (.int .i64 (sub z (l.length+(l.map Qf0).sum))) []:=by
 refine jbS Tryz.func235 27 fun X hX=> ?_
 refine jq [0,1] ?_
 refine Q0 [0,1] (jh hX Z9) ?_
 refine Q4 (jq [0,1,11] ?_)
 refine jd (fun h2=> ?_) (fun h2=> ?_)
 ·try simp at h2
  refine jq [4] ?_
  refine Q5 (je Zw ?_)
  grind [sub]
 ·try simp at h2
  refine Q3 (Q4 (jq [0,1,5] ?_))
  refine Q7 (Qh (α:=Nat×Int) [0,1,5] (fun p=>[(1,.int .i64 p.2),(5,.int .i64 p.1)]) (fun p=>[]) (fun p=>p.1≤l.length∧0≤p.2∧p.2≤1099511627776∧sub p.2 ((l.drop p.1).map Qf0).sum=sub z (l.length+(l.map Qf0).sum)) (fun p=>l.length-p.1) ((0,z-l.length)) (fun p=>by simp;rfl) Z3 ?_ ?_)
  ·exact ⟨by simp,by simp;omega,by simp;omega,by simp[sub];grind⟩
  rintro ⟨i,y⟩ ⟨hi,hy0,hy1,hI⟩
  simp only at hi hy0 hy1 hI
  refine Q4 (Q0 [0,1,5,15] (jh hX Zw) ?_)
  refine jd (fun h5=> ?_) (fun h5=> ?_)
  ·try simp at h5
   rw[List.drop_eq_getElem_cons h5] at hI
   simp only[List.map_cons,List.sum_cons] at hI
   refine Q3 (Q4 (Q7 (Q0 [0,1,5] (js hX 5 Z35 (jc [] (c:=(by apply Qlm<;>exact Z3o)) (a:=Qm9) (k:=jr))) ?_)))
   refine jq [0,1,5,25] ?_
   refine jd (fun h8=> ?_) (fun h8=> ?_)
   ·try simp at h8
    refine jq [4] ?_
    refine Q5 (je Z4z ?_)
    grind [sub]
   ·try simp at h8
    refine Q3 (Qb (jh hX Z9) ?_)
    refine Qo ((i+1,sub y (Qf0 l[i]))) [0,1,5] Z46 ?_ ?_
    ·exact ⟨by simp;omega,by simp;grind [sub],by simp;grind [sub],by grind [sub]⟩
    ·simp;omega
  ·try simp at h5
   refine Ql (jq [4] ?_)
   refine Q5 (je Z35 ?_)
   grind [sub]
theorem Qo4:Q6 Tryz.prog 165:=jcb Tryz.func165
theorem Qnh{x:Mth}{z:Int}(h:Qsk x)(h0:0≤z)(h1:z≤1099511627776):Ct Tryz.prog 165 [eM x,.int .i64 z] [] (.int .i64 (sub z (Q3q x))) []:=by
 simp only[Qsk] at h
 obtain ⟨g0,g1,g2,g3,g4,g5⟩:=h
 refine jbS Tryz.func165 32 fun X hX=> ?_
 refine jq [1,2] ?_
 refine Q0 [1,2] (jh hX Z9) ?_
 refine Q4 (jq [1,2,11] ?_)
 refine jd (fun h2=> ?_) (fun h2=> ?_)
 ·try simp at h2
  refine jq [4] ?_
  refine Q5 (je Zw ?_)
  grind [sub,Q3q]
 ·try simp at h2
  refine Q3 (Q0 [1,2] (jh hX Z37) ?_)
  refine Q4 (jq [1,2,18] ?_)
  refine jd (fun h5=> ?_) (fun h5=> ?_)
  ·try simp at h5
   refine jq [4] ?_
   refine Q5 (je Z35 ?_)
   grind [sub,Q3q]
  ·try simp at h5
   refine Q3 (Q0 [1,2] (js hX 3 Z35 (jc [] (c:=(by apply Qs2<;>exact Z9m)) (a:=Qsf) (k:=jr))) ?_)
   refine Q4 (jq [1,2,24] ?_)
   refine jd (fun h8=> ?_) (fun h8=> ?_)
   ·try simp at h8
    refine jq [4] ?_
    refine Q5 (je Z4z ?_)
    grind [sub,Q3q]
   ·try simp at h8
    refine Q3 (Q0 [1] (js hX 3 Z4z (jc [] (c:=(by apply Qju<;>exact Z9m)) (a:=Qka) (k:=jr))) ?_)
    refine Q4 (jq [1,30] ?_)
    refine jd (fun h11=> ?_) (fun h11=> ?_)
    ·try simp at h11
     refine jq [4] ?_
     refine Q5 (je Za7 ?_)
     grind [sub,Q3q]
    ·try simp at h11
     refine Q3 (jq [4] ?_)
     refine Q5 (je Za7 ?_)
     grind [sub,Q3q]
theorem Qm8:Q6 Tryz.prog 105:=jcb Tryz.func105
theorem Qll{l:List Mth}{z:Int}(h:l.length<4611686018427387904)(hb: ∀y∈l,Qsk y)(h0:0≤z)(h1:z≤1099511627776):Ct Tryz.prog 105 [.lst false 9 (l.map eM),.int .i64 z] [] (.int .i64 (sub z (l.length+(l.map Q3q).sum))) []:=by
 refine jbS Tryz.func105 27 fun X hX=> ?_
 refine jq [0,1] ?_
 refine Q0 [0,1] (jh hX Z9) ?_
 refine Q4 (jq [0,1,11] ?_)
 refine jd (fun h2=> ?_) (fun h2=> ?_)
 ·try simp at h2
  refine jq [4] ?_
  refine Q5 (je Zw ?_)
  grind [sub]
 ·try simp at h2
  refine Q3 (Q4 (jq [0,1,5] ?_))
  refine Q7 (Qh (α:=Nat×Int) [0,1,5] (fun p=>[(1,.int .i64 p.2),(5,.int .i64 p.1)]) (fun p=>[]) (fun p=>p.1≤l.length∧0≤p.2∧p.2≤1099511627776∧sub p.2 ((l.drop p.1).map Q3q).sum=sub z (l.length+(l.map Q3q).sum)) (fun p=>l.length-p.1) ((0,z-l.length)) (fun p=>by simp;rfl) Z3 ?_ ?_)
  ·exact ⟨by simp,by simp;omega,by simp;omega,by simp[sub];grind⟩
  rintro ⟨i,y⟩ ⟨hi,hy0,hy1,hI⟩
  simp only at hi hy0 hy1 hI
  refine Q4 (Q0 [0,1,5,15] (jh hX Zw) ?_)
  refine jd (fun h5=> ?_) (fun h5=> ?_)
  ·try simp at h5
   rw[List.drop_eq_getElem_cons h5] at hI
   simp only[List.map_cons,List.sum_cons] at hI
   refine Q3 (Q4 (Q7 (Q0 [0,1,5] (js hX 5 Z35 (jc [] (c:=(by apply Qnh<;>exact Z3o)) (a:=Qo4) (k:=jr))) ?_)))
   refine jq [0,1,5,25] ?_
   refine jd (fun h8=> ?_) (fun h8=> ?_)
   ·try simp at h8
    refine jq [4] ?_
    refine Q5 (je Z4z ?_)
    grind [sub]
   ·try simp at h8
    refine Q3 (Qb (jh hX Z9) ?_)
    refine Qo ((i+1,sub y (Q3q l[i]))) [0,1,5] Z46 ?_ ?_
    ·exact ⟨by simp;omega,by simp;grind [sub],by simp;grind [sub],by grind [sub]⟩
    ·simp;omega
  ·try simp at h5
   refine Ql (jq [4] ?_)
   refine Q5 (je Z35 ?_)
   grind [sub]
theorem Qpu:Q6 Tryz.prog 52:=jcb Tryz.func52
theorem Qpg{x:Cls}{z:Int}(h:Qpz x)(h0:0≤z)(h1:z≤1099511627776):Ct Tryz.prog 52 [eC x,.int .i64 z] [] (.int .i64 (sub z (Q1r x))) []:=by
 simp only[Qpz] at h
 obtain ⟨g0,g1,g2,g3,g4,g5⟩:=h
 refine jbS Tryz.func52 32 fun X hX=> ?_
 refine jq [1,2] ?_
 refine Q0 [1,2] (jh hX Z9) ?_
 refine Q4 (jq [1,2,11] ?_)
 refine jd (fun h2=> ?_) (fun h2=> ?_)
 ·try simp at h2
  refine jq [4] ?_
  refine Q5 (je Zw ?_)
  grind [sub,Q1r]
 ·try simp at h2
  refine Q3 (Q0 [1,2] (jh hX Z37) ?_)
  refine Q4 (jq [1,2,18] ?_)
  refine jd (fun h5=> ?_) (fun h5=> ?_)
  ·try simp at h5
   refine jq [4] ?_
   refine Q5 (je Z35 ?_)
   grind [sub,Q1r]
  ·try simp at h5
   refine Q3 (Q0 [1,2] (js hX 3 Z35 (jc [] (c:=(by apply Qni<;>exact Z9m)) (a:=Qo5) (k:=jr))) ?_)
   refine Q4 (jq [1,2,24] ?_)
   refine jd (fun h8=> ?_) (fun h8=> ?_)
   ·try simp at h8
    refine jq [4] ?_
    refine Q5 (je Z4z ?_)
    grind [sub,Q1r]
   ·try simp at h8
    refine Q3 (Q0 [1] (js hX 3 Z4z (jc [] (c:=(by apply Qll<;>exact Z9m)) (a:=Qm8) (k:=jr))) ?_)
    refine Q4 (jq [1,30] ?_)
    refine jd (fun h11=> ?_) (fun h11=> ?_)
    ·try simp at h11
     refine jq [4] ?_
     refine Q5 (je Za7 ?_)
     grind [sub,Q1r]
    ·try simp at h11
     refine Q3 (jq [4] ?_)
     refine Q5 (je Za7 ?_)
     grind [sub,Q1r]
theorem Qo6:Q6 Tryz.prog 10:=jcb Tryz.func10
theorem Qnj{l:List Cls}{z:Int}(h:l.length<4611686018427387904)(hb: ∀y∈l,Qpz y)(h0:0≤z)(h1:z≤1099511627776):Ct Tryz.prog 10 [.lst false 6 (l.map eC),.int .i64 z] [] (.int .i64 (sub z (l.length+(l.map Q1r).sum))) []:=by
 refine jbS Tryz.func10 27 fun X hX=> ?_
 refine jq [0,1] ?_
 refine Q0 [0,1] (jh hX Z9) ?_
 refine Q4 (jq [0,1,11] ?_)
 refine jd (fun h2=> ?_) (fun h2=> ?_)
 ·try simp at h2
  refine jq [4] ?_
  refine Q5 (je Zw ?_)
  grind [sub]
 ·try simp at h2
  refine Q3 (Q4 (jq [0,1,5] ?_))
  refine Q7 (Qh (α:=Nat×Int) [0,1,5] (fun p=>[(1,.int .i64 p.2),(5,.int .i64 p.1)]) (fun p=>[]) (fun p=>p.1≤l.length∧0≤p.2∧p.2≤1099511627776∧sub p.2 ((l.drop p.1).map Q1r).sum=sub z (l.length+(l.map Q1r).sum)) (fun p=>l.length-p.1) ((0,z-l.length)) (fun p=>by simp;rfl) Z3 ?_ ?_)
  ·exact ⟨by simp,by simp;omega,by simp;omega,by simp[sub];grind⟩
  rintro ⟨i,y⟩ ⟨hi,hy0,hy1,hI⟩
  simp only at hi hy0 hy1 hI
  refine Q4 (Q0 [0,1,5,15] (jh hX Zw) ?_)
  refine jd (fun h5=> ?_) (fun h5=> ?_)
  ·try simp at h5
   rw[List.drop_eq_getElem_cons h5] at hI
   simp only[List.map_cons,List.sum_cons] at hI
   refine Q3 (Q4 (Q7 (Q0 [0,1,5] (js hX 5 Z35 (jc [] (c:=(by apply Qpg<;>exact Z3o)) (a:=Qpu) (k:=jr))) ?_)))
   refine jq [0,1,5,25] ?_
   refine jd (fun h8=> ?_) (fun h8=> ?_)
   ·try simp at h8
    refine jq [4] ?_
    refine Q5 (je Z4z ?_)
    grind [sub]
   ·try simp at h8
    refine Q3 (Qb (jh hX Z9) ?_)
    refine Qo ((i+1,sub y (Q1r l[i]))) [0,1,5] Z46 ?_ ?_
    ·exact ⟨by simp;omega,by simp;grind [sub],by simp;grind [sub],by grind [sub]⟩
    ·simp;omega
  ·try simp at h5
   refine Ql (jq [4] ?_)
   refine Q5 (je Z35 ?_)
   grind [sub]
theorem Qpr:Q6 Tryz.prog 176:=jcb Tryz.func176
theorem Qpd{x:Fld}:Ct Tryz.prog 176 [eF x] [] (eF x) []:=by
 refine jbS Tryz.func176 14 fun X hX=> ?_
 refine jq [1,2] ?_
 refine jq [1,2,3] ?_
 refine jq [1,2,3] ?_
 refine jq [1,2,3] ?_
 refine jq [2,3] ?_
 refine jq [2] ?_
 refine Q5 (je0 ?_)
 simp
theorem Qo3:Q6 Tryz.prog 109:=jcb Tryz.func109
theorem Qnf{l:List Fld}(q1:l.length≤1099511627776):Ct Tryz.prog 109 [.lst false 3 (l.map eF)] [] (.lst true 3 (l.map eF)) []:=by
 have w1:40*(l.length:Int)≤281474976710656:=by omega
 have w2:(l.length:Int)≤9223372036854775807:=by omega
 refine jbS Tryz.func109 23 fun X hX=> ?_
 refine Q0 [0] (jh hX Zy) ?_
 refine Q0 [0,3] (jh hX Zy) ?_
 refine Q4 (Q0 [0,3,4] (jh hX Zy) ?_)
 refine Q7 (Qh (α:=Nat) [0,3,4] (fun i=>[(4,.int .i64 i)]) (fun i=>[(0,some (3,Q7w eF (.agg [.str [],.str [],.bool false]) l i))]) (fun i=>i≤l.length) (fun i=>l.length-i) (0) (fun i=>by simp;rfl) Zbq ?_ ?_)
 ·simp
 rintro i hi
 refine Q4 (Q0 [0,3,4,11] (jh hX Zy) ?_)
 refine jd (fun h3=> ?_) (fun h3=> ?_)
 ·try simp at h3
  refine Q3 (Q4 (Q7 (Qb (js hX 6 Z23 (Q8.call [] rfl Z3 rfl Zy Z7 (by apply Qpd<;>exact Z6) Qpr Z3 Z3 Zy (jh hX Z23))) ?_)))
  refine Qb (jh hX Z28) ?_
  refine Qo (i+1) [0,3,4] Z3p ?_ ?_
  ·omega
  ·omega
 ·try simp at h3
  have hil:i=l.length:=by omega
  subst hil
  rw[Qb5]
  refine Ql (Q0 [2] (jh hX Zy) ?_)
  refine Q5 (je Z23 ?_)
  simp
theorem Qt9:Q6 Tryz.prog 299:=jcb Tryz.func299
theorem Qt2{x:Ins}:Ct Tryz.prog 299 [eI x] [] (eI x) []:=by
 refine jbS Tryz.func299 20 fun X hX=> ?_
 refine jq [1,2] ?_
 refine jq [1,2,3] ?_
 refine jq [1,2,3] ?_
 refine jq [1,2,3] ?_
 refine jq [1,2,3] ?_
 refine jq [1,2,3] ?_
 refine jq [2,3] ?_
 refine jq [2] ?_
 refine Q5 (je0 ?_)
 simp
theorem Qse:Q6 Tryz.prog 249:=jcb Tryz.func249
theorem Qs1{l:List Ins}(q1:l.length≤1099511627776):Ct Tryz.prog 249 [.lst false 5 (l.map eI)] [] (.lst true 5 (l.map eI)) []:=by
 have w1:64*(l.length:Int)≤281474976710656:=by omega
 have w2:(l.length:Int)≤9223372036854775807:=by omega
 refine jbS Tryz.func249 23 fun X hX=> ?_
 refine Q0 [0] (jh hX Zy) ?_
 refine Q0 [0,3] (jh hX Zy) ?_
 refine Q4 (Q0 [0,3,4] (jh hX Zy) ?_)
 refine Q7 (Qh (α:=Nat) [0,3,4] (fun i=>[(4,.int .i64 i)]) (fun i=>[(0,some (5,Q7w eI (.agg [.int .i64 0,.int .i64 0,.str [],.str [],.str []]) l i))]) (fun i=>i≤l.length) (fun i=>l.length-i) (0) (fun i=>by simp;rfl) Zbq ?_ ?_)
 ·simp
 rintro i hi
 refine Q4 (Q0 [0,3,4,11] (jh hX Zy) ?_)
 refine jd (fun h3=> ?_) (fun h3=> ?_)
 ·try simp at h3
  refine Q3 (Q4 (Q7 (Qb (js hX 6 Z23 (Q8.call [] rfl Z3 rfl Zy Z7 (by apply Qt2<;>exact Z6) Qt9 Z3 Z3 Zy (jh hX Z23))) ?_)))
  refine Qb (jh hX Z28) ?_
  refine Qo (i+1) [0,3,4] Z3p ?_ ?_
  ·omega
  ·omega
 ·try simp at h3
  have hil:i=l.length:=by omega
  subst hil
  rw[Qb5]
  refine Ql (Q0 [2] (jh hX Zy) ?_)
  refine Q5 (je Z23 ?_)
  simp
theorem Qm7:Q6 Tryz.prog 300:=jcb Tryz.func300
theorem Qlk{x:Hdl}:Ct Tryz.prog 300 [eH x] [] (eH x) []:=by
 refine jbS Tryz.func300 17 fun X hX=> ?_
 refine jq [1,2] ?_
 refine jq [1,2,3] ?_
 refine jq [1,2,3] ?_
 refine jq [1,2,3] ?_
 refine jq [1,2,3] ?_
 refine jq [2,3] ?_
 refine jq [2] ?_
 refine Q5 (je0 ?_)
 simp
theorem Qk9:Q6 Tryz.prog 250:=jcb Tryz.func250
theorem Qjt{l:List Hdl}(q1:l.length≤1099511627776):Ct Tryz.prog 250 [.lst false 4 (l.map eH)] [] (.lst true 4 (l.map eH)) []:=by
 have w1:40*(l.length:Int)≤281474976710656:=by omega
 have w2:(l.length:Int)≤9223372036854775807:=by omega
 refine jbS Tryz.func250 23 fun X hX=> ?_
 refine Q0 [0] (jh hX Zy) ?_
 refine Q0 [0,3] (jh hX Zy) ?_
 refine Q4 (Q0 [0,3,4] (jh hX Zy) ?_)
 refine Q7 (Qh (α:=Nat) [0,3,4] (fun i=>[(4,.int .i64 i)]) (fun i=>[(0,some (4,Q7w eH (.agg [.int .i64 0,.int .i64 0,.int .i64 0,.str []]) l i))]) (fun i=>i≤l.length) (fun i=>l.length-i) (0) (fun i=>by simp;rfl) Zbq ?_ ?_)
 ·simp
 rintro i hi
 refine Q4 (Q0 [0,3,4,11] (jh hX Zy) ?_)
 refine jd (fun h3=> ?_) (fun h3=> ?_)
 ·try simp at h3
  refine Q3 (Q4 (Q7 (Qb (js hX 6 Z23 (Q8.call [] rfl Z3 rfl Zy Z7 (by apply Qlk<;>exact Z6) Qm7 Z3 Z3 Zy (jh hX Z23))) ?_)))
  refine Qb (jh hX Z28) ?_
  refine Qo (i+1) [0,3,4] Z3p ?_ ?_
  ·omega
  ·omega
 ·try simp at h3
  have hil:i=l.length:=by omega
  subst hil
  rw[Qb5]
  refine Ql (Q0 [2] (jh hX Zy) ?_)
  refine Q5 (je Z23 ?_)
  simp
theorem Qo2:Q6 Tryz.prog 177:=jcb Tryz.func177
theorem Qne{x:Mth}(h:Q3q x≤1099511627776):Ct Tryz.prog 177 [eM x] [] (oM x) []:=by
 simp only[Q3q] at h
 refine jbS Tryz.func177 34 fun X hX=> ?_
 refine jq [1,2] ?_
 refine jq [1,2,3] ?_
 refine jq [1,2,3] ?_
 refine jq [1,2,3] ?_
 refine jq [1,2,3] ?_
 refine jq [1,2,3] ?_
 refine jq [1,2,3] ?_
 refine jq [1,2,3] ?_
 refine jq [1,2,3] ?_
 refine Q0 [1,2,3] (jt 2 (k:=(jc [] (c:=(by apply Qs1<;>exact Zcs)) (a:=Qse) (k:=jr)))) ?_
 refine Q0 [2,3] (jt 2 (k:=(jc [] (c:=(by apply Qjt<;>exact Zcs)) (a:=Qk9) (k:=jr)))) ?_
 refine jq [2] ?_
 refine Q5 (je0 ?_)
 simp[oM]
theorem Qm6:Q6 Tryz.prog 110:=jcb Tryz.func110
theorem Qlj{l:List Mth}(q1:l.length≤1099511627776)(hb: ∀y∈l,Q3q y≤1099511627776):Ct Tryz.prog 110 [.lst false 9 (l.map eM)] [] (.lst true 9 (l.map oM)) []:=by
 have w1:104*(l.length:Int)≤281474976710656:=by omega
 have w2:(l.length:Int)≤9223372036854775807:=by omega
 refine jbS Tryz.func110 23 fun X hX=> ?_
 refine Q0 [0] (jh hX Zy) ?_
 refine Q0 [0,3] (jh hX Zy) ?_
 refine Q4 (Q0 [0,3,4] (jh hX Zy) ?_)
 refine Q7 (Qh (α:=Nat) [0,3,4] (fun i=>[(4,.int .i64 i)]) (fun i=>[(0,some (9,Q7w oM (.agg [.str [],.str [],.bool false,.bool false,.bool false,.int .i64 0,.int .i64 0,.raw (.slice none 0 0),.raw (.slice none 0 0)]) l i))]) (fun i=>i≤l.length) (fun i=>l.length-i) (0) (fun i=>by simp;rfl) Zbq ?_ ?_)
 ·simp
 rintro i hi
 refine Q4 (Q0 [0,3,4,11] (jh hX Zy) ?_)
 refine jd (fun h3=> ?_) (fun h3=> ?_)
 ·try simp at h3
  refine Q3 (Q4 (Q7 (Qb (js hX 6 Z23 (Q8.call [] rfl Z3 rfl Zy Z7 (by apply Qne<;>exact Z3o) Qo2 Z3 Z3 Zy (jh hX Z23))) ?_)))
  refine Qb (jh hX Z28) ?_
  refine ⟨i+1,Le.trans (Le.keep [0,3,4] _) (Le.trans (Le.absorb 0 i 7 Z9x) (Le.trans (Le.absorb 0 i 8 Z9x) (Le.trans (Le.trim 1 Z1r _ Z3) (Le.of_eq Z4g)))),?_,?_⟩
  ·omega
  ·omega
 ·try simp at h3
  have hil:i=l.length:=by omega
  subst hil
  rw[Qb5]
  refine Ql (Q0 [2] (jh hX Zy) ?_)
  refine Q5 (je Z23 ?_)
  simp
theorem Qps:Q6 Tryz.prog 56:=jcb Tryz.func56
theorem Qpe{x:Cls}(h:Q1r x≤1099511627776):Ct Tryz.prog 56 [eC x] [] (oC x) []:=by
 simp only[Q1r] at h
 refine jbS Tryz.func56 25 fun X hX=> ?_
 refine jq [1,2] ?_
 refine jq [1,2,3] ?_
 refine jq [1,2,3] ?_
 refine jq [1,2,3] ?_
 refine jq [1,2,3] ?_
 refine jq [1,2,3] ?_
 refine Q0 [1,2,3] (jt 2 (k:=(jc [] (c:=(by apply Qnf<;>exact Zcs)) (a:=Qo3) (k:=jr)))) ?_
 refine Q0 [2,3] (jt 2 (k:=(jc [] (c:=(by apply Qlj<;>exact Zcs)) (a:=Qm6) (k:=jr)))) ?_
 refine jq [2] ?_
 refine Q5 (je0 ?_)
 simp[oC]
theorem Q9f:Q6 Tryz.prog 13:=jcb Tryz.func13
theorem Qng{l:List Cls}(q1:l.length≤1099511627776)(hb: ∀y∈l,Q1r y≤1099511627776):Ct Tryz.prog 13 [.lst false 6 (l.map eC)] [] (.lst true 6 (l.map oC)) []:=by
 have w1:88*(l.length:Int)≤281474976710656:=by omega
 have w2:(l.length:Int)≤9223372036854775807:=by omega
 refine jbS Tryz.func13 23 fun X hX=> ?_
 refine Q0 [0] (jh hX Zy) ?_
 refine Q0 [0,3] (jh hX Zy) ?_
 refine Q4 (Q0 [0,3,4] (jh hX Zy) ?_)
 refine Q7 (Qh (α:=Nat) [0,3,4] (fun i=>[(4,.int .i64 i)]) (fun i=>[(0,some (6,Q7w oC (.agg [.str [],.str [],.bool false,.bool false,.raw (.slice none 0 0),.raw (.slice none 0 0)]) l i))]) (fun i=>i≤l.length) (fun i=>l.length-i) (0) (fun i=>by simp;rfl) Zbq ?_ ?_)
 ·simp
 rintro i hi
 refine Q4 (Q0 [0,3,4,11] (jh hX Zy) ?_)
 refine jd (fun h3=> ?_) (fun h3=> ?_)
 ·try simp at h3
  refine Q3 (Q4 (Q7 (Qb (js hX 6 Z23 (Q8.call [] rfl Z3 rfl Zy Z7 (by apply Qpe<;>exact Z3o) Qps Z3 Z3 Zy (jh hX Z23))) ?_)))
  refine Qb (jh hX Z28) ?_
  refine ⟨i+1,Le.trans (Le.keep [0,3,4] _) (Le.trans (Le.absorb 0 i 4 Z9x) (Le.trans (Le.absorb 0 i 5 Z9x) (Le.trans (Le.trim 1 Z1r _ Z3) (Le.of_eq Z4g)))),?_,?_⟩
  ·omega
  ·omega
 ·try simp at h3
  have hil:i=l.length:=by omega
  subst hil
  rw[Qb5]
  refine Ql (Q0 [2] (jh hX Zy) ?_)
  refine Q5 (je Z23 ?_)
  simp
theorem Qpv:Q6 Tryz.prog 190:=jcb Tryz.func190
theorem Qph{x y:Fld}:Ct Tryz.prog 190 [eF x,eF y] [] (.bool (decide (x=y))) []:=by
 refine jbS Tryz.func190 20 fun X hX=> ?_
 refine jq [2,3] ?_
 refine Q4 (jq [2,3,9] ?_)
 refine jd (fun h1=> ?_) (fun h1=> ?_)
 ·try simp at h1
  refine jq [4] ?_
  refine Q5 (je0 ?_)
  (try simp at*)<;>cases x<;>cases y<;>simp_all
 ·try simp at h1
  refine Q3 (Q4 (jq [2,3,14] ?_))
  refine jd (fun h3=> ?_) (fun h3=> ?_)
  ·try simp at h3
   refine jq [4] ?_
   refine Q5 (je0 ?_)
   (try simp at*)<;>cases x<;>cases y<;>simp_all
  ·try simp at h3
   refine Q3 (Q4 (jq [19] ?_))
   refine jd (fun h5=> ?_) (fun h5=> ?_)
   ·try simp at h5
    refine jq [4] ?_
    refine Q5 (je0 ?_)
    (try simp at*)<;>cases x<;>cases y<;>simp_all
   ·try simp at h5
    refine Q3 (jq [4] ?_)
    refine Q5 (je0 ?_)
    (try simp at*)<;>cases x<;>cases y<;>simp_all
theorem Qo8:Q6 Tryz.prog 118:=jcb Tryz.func118
theorem Qnl{l1 l2:List Fld}(q1:l1.length<4611686018427387904)(q2:l2.length<4611686018427387904):Ct Tryz.prog 118 [.lst false 3 (l1.map eF),.lst false 3 (l2.map eF)] [] (.bool (decide (l1=l2))) []:=by
 refine jbS Tryz.func118 27 fun X hX=> ?_
 refine jq [0,1] ?_
 refine Q4 (jq [0,1,10] ?_)
 refine jd (fun h1=> ?_) (fun h1=> ?_)
 ·try simp at h1
  replace h1: ¬l1.length=l2.length:=by omega
  refine jq [4] ?_
  refine Q5 (je0 ?_)
  have: ¬l1=l2:=fun e=>h1 (by rw[e])
  simp[this]
 ·try simp at h1
  replace h1:l1.length=l2.length:=by omega
  refine Q3 (Q4 (jq [0,1,5] ?_))
  refine Q7 (Qh (α:=Nat) [0,1,5] (fun i=>[(5,.int .i64 i)]) (fun i=>[]) (fun i=>i≤l1.length∧(l1.drop i=l2.drop i↔l1=l2)) (fun i=>l1.length-i) (0) (fun i=>by simp;rfl) Z3 ?_ ?_)
  ·simp
  rintro i ⟨hi,hI⟩
  refine Q4 (jq [0,1,5,14] ?_)
  refine jd (fun h4=> ?_) (fun h4=> ?_)
  ·try simp at h4
   have h4b:i<l1.length:=by omega
   have h4c:i<l2.length:=by omega
   rw[List.drop_eq_getElem_cons h4b,List.drop_eq_getElem_cons h4c,List.cons.injEq] at hI
   refine Q3 (Q4 (Q7 (jD [0,1,5,26] (jS 8 Z58 (jC (c:=by apply Qph<;>exact Z32) (a:=Qpv) (k:=(jQ Z7)))) ?_)))
   refine jd (fun h6=> ?_) (fun h6=> ?_)
   ·try simp at h6
    refine jq [4] ?_
    refine Q5 (je Z58 ?_)
    simp_all
   ·try simp at h6
    refine Q3 (Qb (jh hX Z9) ?_)
    refine Qo (i+1) [0,1,5] Z44 ?_ ?_
    ·exact ⟨by omega,by simp_all⟩
    ·omega
  ·try simp at h4
   refine Ql (jq [4] ?_)
   refine Q5 (je Z7f ?_)
   have:l1.drop i=[]:=List.drop_eq_nil_of_le Zb
   have e2:l2.drop i=[]:=List.drop_eq_nil_of_le Zb
   simp_all
theorem Qtb:Q6 Tryz.prog 304:=jcb Tryz.func304
theorem Qt4{x y:Ins}:Ct Tryz.prog 304 [eI x,eI y] [] (.bool (decide (x=y))) []:=by
 refine jbS Tryz.func304 30 fun X hX=> ?_
 refine jq [2,3] ?_
 refine Q4 (jq [2,3,9] ?_)
 refine jd (fun h1=> ?_) (fun h1=> ?_)
 ·try simp at h1
  refine jq [4] ?_
  refine Q5 (je0 ?_)
  (try simp at*)<;>cases x<;>cases y<;>simp_all
 ·try simp at h1
  refine Q3 (Q4 (jq [2,3,14] ?_))
  refine jd (fun h3=> ?_) (fun h3=> ?_)
  ·try simp at h3
   refine jq [4] ?_
   refine Q5 (je0 ?_)
   (try simp at*)<;>cases x<;>cases y<;>simp_all
  ·try simp at h3
   refine Q3 (Q4 (jq [2,3,19] ?_))
   refine jd (fun h5=> ?_) (fun h5=> ?_)
   ·try simp at h5
    refine jq [4] ?_
    refine Q5 (je0 ?_)
    (try simp at*)<;>cases x<;>cases y<;>simp_all
   ·try simp at h5
    refine Q3 (Q4 (jq [2,3,24] ?_))
    refine jd (fun h7=> ?_) (fun h7=> ?_)
    ·try simp at h7
     refine jq [4] ?_
     refine Q5 (je0 ?_)
     (try simp at*)<;>cases x<;>cases y<;>simp_all
    ·try simp at h7
     refine Q3 (Q4 (jq [29] ?_))
     refine jd (fun h9=> ?_) (fun h9=> ?_)
     ·try simp at h9
      refine jq [4] ?_
      refine Q5 (je0 ?_)
      (try simp at*)<;>cases x<;>cases y<;>simp_all
     ·try simp at h9
      refine Q3 (jq [4] ?_)
      refine Q5 (je0 ?_)
      (try simp at*)<;>cases x<;>cases y<;>simp_all
theorem Qsg:Q6 Tryz.prog 267:=jcb Tryz.func267
theorem Qs3{l1 l2:List Ins}(q1:l1.length<4611686018427387904)(q2:l2.length<4611686018427387904):Ct Tryz.prog 267 [.lst false 5 (l1.map eI),.lst false 5 (l2.map eI)] [] (.bool (decide (l1=l2))) []:=by
 refine jbS Tryz.func267 27 fun X hX=> ?_
 refine jq [0,1] ?_
 refine Q4 (jq [0,1,10] ?_)
 refine jd (fun h1=> ?_) (fun h1=> ?_)
 ·try simp at h1
  replace h1: ¬l1.length=l2.length:=by omega
  refine jq [4] ?_
  refine Q5 (je0 ?_)
  have: ¬l1=l2:=fun e=>h1 (by rw[e])
  simp[this]
 ·try simp at h1
  replace h1:l1.length=l2.length:=by omega
  refine Q3 (Q4 (jq [0,1,5] ?_))
  refine Q7 (Qh (α:=Nat) [0,1,5] (fun i=>[(5,.int .i64 i)]) (fun i=>[]) (fun i=>i≤l1.length∧(l1.drop i=l2.drop i↔l1=l2)) (fun i=>l1.length-i) (0) (fun i=>by simp;rfl) Z3 ?_ ?_)
  ·simp
  rintro i ⟨hi,hI⟩
  refine Q4 (jq [0,1,5,14] ?_)
  refine jd (fun h4=> ?_) (fun h4=> ?_)
  ·try simp at h4
   have h4b:i<l1.length:=by omega
   have h4c:i<l2.length:=by omega
   rw[List.drop_eq_getElem_cons h4b,List.drop_eq_getElem_cons h4c,List.cons.injEq] at hI
   refine Q3 (Q4 (Q7 (jD [0,1,5,26] (jS 8 Z58 (jC (c:=by apply Qt4<;>exact Z32) (a:=Qtb) (k:=(jQ Z7)))) ?_)))
   refine jd (fun h6=> ?_) (fun h6=> ?_)
   ·try simp at h6
    refine jq [4] ?_
    refine Q5 (je Z58 ?_)
    simp_all
   ·try simp at h6
    refine Q3 (Qb (jh hX Z9) ?_)
    refine Qo (i+1) [0,1,5] Z44 ?_ ?_
    ·exact ⟨by omega,by simp_all⟩
    ·omega
  ·try simp at h4
   refine Ql (jq [4] ?_)
   refine Q5 (je Z7f ?_)
   have:l1.drop i=[]:=List.drop_eq_nil_of_le Zb
   have e2:l2.drop i=[]:=List.drop_eq_nil_of_le Zb
   simp_all
theorem Qmb:Q6 Tryz.prog 305:=jcb Tryz.func305
theorem Qlo{x y:Hdl}:Ct Tryz.prog 305 [eH x,eH y] [] (.bool (decide (x=y))) []:=by
 refine jbS Tryz.func305 25 fun X hX=> ?_
 refine jq [2,3] ?_
 refine Q4 (jq [2,3,9] ?_)
 refine jd (fun h1=> ?_) (fun h1=> ?_)
 ·try simp at h1
  refine jq [4] ?_
  refine Q5 (je0 ?_)
  (try simp at*)<;>cases x<;>cases y<;>simp_all
 ·try simp at h1
  refine Q3 (Q4 (jq [2,3,14] ?_))
  refine jd (fun h3=> ?_) (fun h3=> ?_)
  ·try simp at h3
   refine jq [4] ?_
   refine Q5 (je0 ?_)
   (try simp at*)<;>cases x<;>cases y<;>simp_all
  ·try simp at h3
   refine Q3 (Q4 (jq [2,3,19] ?_))
   refine jd (fun h5=> ?_) (fun h5=> ?_)
   ·try simp at h5
    refine jq [4] ?_
    refine Q5 (je0 ?_)
    (try simp at*)<;>cases x<;>cases y<;>simp_all
   ·try simp at h5
    refine Q3 (Q4 (jq [24] ?_))
    refine jd (fun h7=> ?_) (fun h7=> ?_)
    ·try simp at h7
     refine jq [4] ?_
     refine Q5 (je0 ?_)
     (try simp at*)<;>cases x<;>cases y<;>simp_all
    ·try simp at h7
     refine Q3 (jq [4] ?_)
     refine Q5 (je0 ?_)
     (try simp at*)<;>cases x<;>cases y<;>simp_all
theorem Qkb:Q6 Tryz.prog 268:=jcb Tryz.func268
theorem Qjv{l1 l2:List Hdl}(q1:l1.length<4611686018427387904)(q2:l2.length<4611686018427387904):Ct Tryz.prog 268 [.lst false 4 (l1.map eH),.lst false 4 (l2.map eH)] [] (.bool (decide (l1=l2))) []:=by
 refine jbS Tryz.func268 27 fun X hX=> ?_
 refine jq [0,1] ?_
 refine Q4 (jq [0,1,10] ?_)
 refine jd (fun h1=> ?_) (fun h1=> ?_)
 ·try simp at h1
  replace h1: ¬l1.length=l2.length:=by omega
  refine jq [4] ?_
  refine Q5 (je0 ?_)
  have: ¬l1=l2:=fun e=>h1 (by rw[e])
  simp[this]
 ·try simp at h1
  replace h1:l1.length=l2.length:=by omega
  refine Q3 (Q4 (jq [0,1,5] ?_))
  refine Q7 (Qh (α:=Nat) [0,1,5] (fun i=>[(5,.int .i64 i)]) (fun i=>[]) (fun i=>i≤l1.length∧(l1.drop i=l2.drop i↔l1=l2)) (fun i=>l1.length-i) (0) (fun i=>by simp;rfl) Z3 ?_ ?_)
  ·simp
  rintro i ⟨hi,hI⟩
  refine Q4 (jq [0,1,5,14] ?_)
  refine jd (fun h4=> ?_) (fun h4=> ?_)
  ·try simp at h4
   have h4b:i<l1.length:=by omega
   have h4c:i<l2.length:=by omega
   rw[List.drop_eq_getElem_cons h4b,List.drop_eq_getElem_cons h4c,List.cons.injEq] at hI
   refine Q3 (Q4 (Q7 (jD [0,1,5,26] (jS 8 Z58 (jC (c:=by apply Qlo<;>exact Z32) (a:=Qmb) (k:=(jQ Z7)))) ?_)))
   refine jd (fun h6=> ?_) (fun h6=> ?_)
   ·try simp at h6
    refine jq [4] ?_
    refine Q5 (je Z58 ?_)
    simp_all
   ·try simp at h6
    refine Q3 (Qb (jh hX Z9) ?_)
    refine Qo (i+1) [0,1,5] Z44 ?_ ?_
    ·exact ⟨by omega,by simp_all⟩
    ·omega
  ·try simp at h4
   refine Ql (jq [4] ?_)
   refine Q5 (je Z7f ?_)
   have:l1.drop i=[]:=List.drop_eq_nil_of_le Zb
   have e2:l2.drop i=[]:=List.drop_eq_nil_of_le Zb
   simp_all
theorem Qo7:Q6 Tryz.prog 191:=jcb Tryz.func191
theorem Qnk{x y:Mth}(hx:Qsk x)(hy:Qsk y):Ct Tryz.prog 191 [eM x,eM y] [] (.bool (decide (x=y))) []:=by
 simp only[Qsk] at hx hy
 obtain ⟨p0,p1,p2,p3,p4,p5⟩:=hx
 obtain ⟨q0,q1,q2,q3,q4,q5⟩:=hy
 refine jbS Tryz.func191 52 fun X hX=> ?_
 refine jq [2,3] ?_
 refine Q4 (jq [2,3,9] ?_)
 refine jd (fun h1=> ?_) (fun h1=> ?_)
 ·try simp at h1
  refine jq [4] ?_
  refine Q5 (je0 ?_)
  (try simp at*)<;>cases x<;>cases y<;>simp_all
 ·try simp at h1
  refine Q3 (Q4 (jq [2,3,14] ?_))
  refine jd (fun h3=> ?_) (fun h3=> ?_)
  ·try simp at h3
   refine jq [4] ?_
   refine Q5 (je0 ?_)
   (try simp at*)<;>cases x<;>cases y<;>simp_all
  ·try simp at h3
   refine Q3 (Q4 (jq [2,3,19] ?_))
   refine jd (fun h5=> ?_) (fun h5=> ?_)
   ·try simp at h5
    refine jq [4] ?_
    refine Q5 (je0 ?_)
    (try simp at*)<;>cases x<;>cases y<;>simp_all
   ·try simp at h5
    refine Q3 (Q4 (jq [2,3,24] ?_))
    refine jd (fun h7=> ?_) (fun h7=> ?_)
    ·try simp at h7
     refine jq [4] ?_
     refine Q5 (je0 ?_)
     (try simp at*)<;>cases x<;>cases y<;>simp_all
    ·try simp at h7
     refine Q3 (Q4 (jq [2,3,29] ?_))
     refine jd (fun h9=> ?_) (fun h9=> ?_)
     ·try simp at h9
      refine jq [4] ?_
      refine Q5 (je0 ?_)
      (try simp at*)<;>cases x<;>cases y<;>simp_all
     ·try simp at h9
      refine Q3 (Q4 (jq [2,3,34] ?_))
      refine jd (fun h11=> ?_) (fun h11=> ?_)
      ·try simp at h11
       refine jq [4] ?_
       refine Q5 (je0 ?_)
       (try simp at*)<;>cases x<;>cases y<;>simp_all
      ·try simp at h11
       refine Q3 (Q4 (jq [2,3,39] ?_))
       refine jd (fun h13=> ?_) (fun h13=> ?_)
       ·try simp at h13
        refine jq [4] ?_
        refine Q5 (je0 ?_)
        (try simp at*)<;>cases x<;>cases y<;>simp_all
       ·try simp at h13
        refine Q3 (Q4 (Q0 [2,3,45] (jt 4 (k:=(jc [] (c:=(by apply Qs3<;>exact Z1i)) (a:=Qsg) (k:=jr)))) ?_))
        refine jd (fun h15=> ?_) (fun h15=> ?_)
        ·try simp at h15
         refine jq [4] ?_
         refine Q5 (je0 ?_)
         (try simp at*)<;>cases x<;>cases y<;>simp_all
        ·try simp at h15
         refine Q3 (Q4 (Q0 [51] (jt 4 (k:=(jc [] (c:=(by apply Qjv<;>exact Z1i)) (a:=Qkb) (k:=jr)))) ?_))
         refine jd (fun h17=> ?_) (fun h17=> ?_)
         ·try simp at h17
          refine jq [4] ?_
          refine Q5 (je0 ?_)
          (try simp at*)<;>cases x<;>cases y<;>simp_all
         ·try simp at h17
          refine Q3 (jq [4] ?_)
          refine Q5 (je0 ?_)
          (try simp at*)<;>cases x<;>cases y<;>simp_all
theorem Qma:Q6 Tryz.prog 119:=jcb Tryz.func119
theorem Qln{l1 l2:List Mth}(q1:l1.length<4611686018427387904)(q2:l2.length<4611686018427387904)(hb1: ∀y∈l1,Qsk y)(hb2: ∀y∈l2,Qsk y):Ct Tryz.prog 119 [.lst false 9 (l1.map eM),.lst false 9 (l2.map eM)] [] (.bool (decide (l1=l2))) []:=by
 refine jbS Tryz.func119 27 fun X hX=> ?_
 refine jq [0,1] ?_
 refine Q4 (jq [0,1,10] ?_)
 refine jd (fun h1=> ?_) (fun h1=> ?_)
 ·try simp at h1
  replace h1: ¬l1.length=l2.length:=by omega
  refine jq [4] ?_
  refine Q5 (je0 ?_)
  have: ¬l1=l2:=fun e=>h1 (by rw[e])
  simp[this]
 ·try simp at h1
  replace h1:l1.length=l2.length:=by omega
  refine Q3 (Q4 (jq [0,1,5] ?_))
  refine Q7 (Qh (α:=Nat) [0,1,5] (fun i=>[(5,.int .i64 i)]) (fun i=>[]) (fun i=>i≤l1.length∧(l1.drop i=l2.drop i↔l1=l2)) (fun i=>l1.length-i) (0) (fun i=>by simp;rfl) Z3 ?_ ?_)
  ·simp
  rintro i ⟨hi,hI⟩
  refine Q4 (jq [0,1,5,14] ?_)
  refine jd (fun h4=> ?_) (fun h4=> ?_)
  ·try simp at h4
   have h4b:i<l1.length:=by omega
   have h4c:i<l2.length:=by omega
   rw[List.drop_eq_getElem_cons h4b,List.drop_eq_getElem_cons h4c,List.cons.injEq] at hI
   refine Q3 (Q4 (Q7 (jD [0,1,5,26] (jS 8 Z58 (jC (c:=by apply Qnk<;>exact Z32) (a:=Qo7) (k:=(jQ Z7)))) ?_)))
   refine jd (fun h6=> ?_) (fun h6=> ?_)
   ·try simp at h6
    refine jq [4] ?_
    refine Q5 (je Z58 ?_)
    simp_all
   ·try simp at h6
    refine Q3 (Qb (jh hX Z9) ?_)
    refine Qo (i+1) [0,1,5] Z44 ?_ ?_
    ·exact ⟨by omega,by simp_all⟩
    ·omega
  ·try simp at h4
   refine Ql (jq [4] ?_)
   refine Q5 (je Z7f ?_)
   have:l1.drop i=[]:=List.drop_eq_nil_of_le Zb
   have e2:l2.drop i=[]:=List.drop_eq_nil_of_le Zb
   simp_all
theorem Qpw:Q6 Tryz.prog 60:=jcb Tryz.func60
theorem Qpi{x y:Cls}(hx:Qpz x)(hy:Qpz y):Ct Tryz.prog 60 [eC x,eC y] [] (.bool (decide (x=y))) []:=by
 simp only[Qpz] at hx hy
 obtain ⟨p0,p1,p2,p3,p4,p5⟩:=hx
 obtain ⟨q0,q1,q2,q3,q4,q5⟩:=hy
 refine jbS Tryz.func60 37 fun X hX=> ?_
 refine jq [2,3] ?_
 refine Q4 (jq [2,3,9] ?_)
 refine jd (fun h1=> ?_) (fun h1=> ?_)
 ·try simp at h1
  refine jq [4] ?_
  refine Q5 (je0 ?_)
  (try simp at*)<;>cases x<;>cases y<;>simp_all
 ·try simp at h1
  refine Q3 (Q4 (jq [2,3,14] ?_))
  refine jd (fun h3=> ?_) (fun h3=> ?_)
  ·try simp at h3
   refine jq [4] ?_
   refine Q5 (je0 ?_)
   (try simp at*)<;>cases x<;>cases y<;>simp_all
  ·try simp at h3
   refine Q3 (Q4 (jq [2,3,19] ?_))
   refine jd (fun h5=> ?_) (fun h5=> ?_)
   ·try simp at h5
    refine jq [4] ?_
    refine Q5 (je0 ?_)
    (try simp at*)<;>cases x<;>cases y<;>simp_all
   ·try simp at h5
    refine Q3 (Q4 (jq [2,3,24] ?_))
    refine jd (fun h7=> ?_) (fun h7=> ?_)
    ·try simp at h7
     refine jq [4] ?_
     refine Q5 (je0 ?_)
     (try simp at*)<;>cases x<;>cases y<;>simp_all
    ·try simp at h7
     refine Q3 (Q4 (Q0 [2,3,30] (jt 4 (k:=(jc [] (c:=(by apply Qnl<;>exact Z1i)) (a:=Qo8) (k:=jr)))) ?_))
     refine jd (fun h9=> ?_) (fun h9=> ?_)
     ·try simp at h9
      refine jq [4] ?_
      refine Q5 (je0 ?_)
      (try simp at*)<;>cases x<;>cases y<;>simp_all
     ·try simp at h9
      refine Q3 (Q4 (Q0 [36] (jt 4 (k:=(jc [] (c:=(by apply Qln<;>exact Z1i)) (a:=Qma) (k:=jr)))) ?_))
      refine jd (fun h11=> ?_) (fun h11=> ?_)
      ·try simp at h11
       refine jq [4] ?_
       refine Q5 (je0 ?_)
       (try simp at*)<;>cases x<;>cases y<;>simp_all
      ·try simp at h11
       refine Q3 (jq [4] ?_)
       refine Q5 (je0 ?_)
       (try simp at*)<;>cases x<;>cases y<;>simp_all
theorem Qo9:Q6 Tryz.prog 17:=jcb Tryz.func17
theorem Qnm{l1 l2:List Cls}(q1:l1.length<4611686018427387904)(q2:l2.length<4611686018427387904)(hb1: ∀y∈l1,Qpz y)(hb2: ∀y∈l2,Qpz y):Ct Tryz.prog 17 [.lst false 6 (l1.map eC),.lst false 6 (l2.map eC)] [] (.bool (decide (l1=l2))) []:=by
 refine jbS Tryz.func17 27 fun X hX=> ?_
 refine jq [0,1] ?_
 refine Q4 (jq [0,1,10] ?_)
 refine jd (fun h1=> ?_) (fun h1=> ?_)
 ·try simp at h1
  replace h1: ¬l1.length=l2.length:=by omega
  refine jq [4] ?_
  refine Q5 (je0 ?_)
  have: ¬l1=l2:=fun e=>h1 (by rw[e])
  simp[this]
 ·try simp at h1
  replace h1:l1.length=l2.length:=by omega
  refine Q3 (Q4 (jq [0,1,5] ?_))
  refine Q7 (Qh (α:=Nat) [0,1,5] (fun i=>[(5,.int .i64 i)]) (fun i=>[]) (fun i=>i≤l1.length∧(l1.drop i=l2.drop i↔l1=l2)) (fun i=>l1.length-i) (0) (fun i=>by simp;rfl) Z3 ?_ ?_)
  ·simp
  rintro i ⟨hi,hI⟩
  refine Q4 (jq [0,1,5,14] ?_)
  refine jd (fun h4=> ?_) (fun h4=> ?_)
  ·try simp at h4
   have h4b:i<l1.length:=by omega
   have h4c:i<l2.length:=by omega
   rw[List.drop_eq_getElem_cons h4b,List.drop_eq_getElem_cons h4c,List.cons.injEq] at hI
   refine Q3 (Q4 (Q7 (jD [0,1,5,26] (jS 8 Z58 (jC (c:=by apply Qpi<;>exact Z32) (a:=Qpw) (k:=(jQ Z7)))) ?_)))
   refine jd (fun h6=> ?_) (fun h6=> ?_)
   ·try simp at h6
    refine jq [4] ?_
    refine Q5 (je Z58 ?_)
    simp_all
   ·try simp at h6
    refine Q3 (Qb (jh hX Z9) ?_)
    refine Qo (i+1) [0,1,5] Z44 ?_ ?_
    ·exact ⟨by omega,by simp_all⟩
    ·omega
  ·try simp at h4
   refine Ql (jq [4] ?_)
   refine Q5 (je Z7f ?_)
   have:l1.drop i=[]:=List.drop_eq_nil_of_le Zb
   have e2:l2.drop i=[]:=List.drop_eq_nil_of_le Zb
   simp_all
attribute [simp] St.swap gSw swp
section
variable {X:Ctx} {ops:Array Oper} {ls:List Oper} {st s s1 s2 s3:St} {o:Oper} {n0:Nat} {L:List Nat} {Q:Exit→St→Prop}
theorem jT{id:Nat}{y:Code}(n:Nat)(t:Tm)(ks L:List Nat)(hX:X.n0=n0)(hH:Q52 Tryz.prog TT n0 ls.toArray L t st s2)(h2:Q8 Tryz.prog X ls.toArray (ls.drop n) s2 s3)(hk:W Tryz.prog X y (s3.keep ks) Q)
  (hB:Qss .any ls.toArray n t=true:=by kernel_rfl):W Tryz.prog X (.seq (.region id ls.toArray true) y) st Q:=Q18f n t ks L hmo hB tok hX hH h2 hk
theorem jTr{id:Nat}(n:Nat)(t:Tm)(L:List Nat)(hX:X.n0=n0)(hH:Q52 Tryz.prog TT n0 ls.toArray L t st s2)(h2:Q8 Tryz.prog X ls.toArray (ls.drop n) s2 s3)(hq:Q .normal s3)
  (hB:Qss .any ls.toArray n t=true:=by kernel_rfl):W Tryz.prog X (.region id ls.toArray true) st Q:=Q15w hmo hB tok hX hH h2 hq
theorem jTp(A:List Nat)(r:Tm)(h:Q4q TT n0 ops L A s=some s1)(k:Q52 Tryz.prog TT n0 ops L r s1 s2):Q52 Tryz.prog TT n0 ops L (Q17 A r) s s2:= .pur h rfl k
theorem jTa(i:Nat){t r:Tm}{s':St}(ho:ops[i]? =some o:=by rfl)(hL: ∀id∈L,id<s.ob.length:=by simp)(p: ∀X:Ctx,X.n0=s.ob.length→Q8 Tryz.prog X ops [o] ⟨s.tm,hid L s.ob⟩ s')(he:(⟨s'.tm,unh s.ob L s'.ob⟩:St)=s1:=by (try simp);(try rfl))
  (k:Q52 Tryz.prog TT n0 ops L t s1 s2) (kr:Q52 Tryz.prog TT n0 ops L r s s2):Q52 Tryz.prog TT n0 ops L (.alt i t r) s s2:= .alt ho hL p he k kr
theorem jTw(a b:Nat){t:Tm}(he:s.swap a b=s1)(k:Q52 Tryz.prog TT n0 ops L t s1 s2)(hb:n0≤a∧n0≤b∧a<s.ob.length∧b<s.ob.length:=by simp)(hl:a∉L∧b∉L:=by decide):Q52 Tryz.prog TT n0 ops L t s s2:= .sw hb hl he k
theorem jFz{l:List Oper}{x r r':V}{st2:St}{ob2:List Ob}{z:Option (V×St)}{z2:Option (V×List Ob)}(h:opB TT 0 ⟨fzL st.tm,[]⟩ o.op=z:=by simp;rfl)(hz:z=some (x,st2):=by rfl)(ht:Q88 0 st2.ob x=z2:=by simp;rfl)(hz2:z2=some (r,ob2):=by rfl)
  (hl:r.lim 0=true:=by simp) (hr:r.fz=r':=by simp;rfl) (hg:gd ops st o.guard=some true:=by simp) (k:Q8 Tryz.prog X ops l ⟨Q2l o.dst r' st.tm,st.ob⟩ s2):Q8 Tryz.prog X ops (o::l) st s2:=Q8.frz tok (h.trans hz) (ht.trans hz2) hl hr hg k
end
theorem Q78:Q6 Tryz.prog 212:=jcb Tryz.func212
theorem Qin{c:UInt8}{f:Bool}:Ct Tryz.prog 212 [.int .u8 c.toNat,.bool f] [] (.bool (Q47 c f)) []:=by
 refine jbS Tryz.func212 33 fun X hX=> ?_
 refine jq [0,1] ?_
 refine Q4 (Q0 [0,1,22] (jt 3 (k:=(jm 3 7 [0,1,10] (p:=Zcb) (q:=Zcb) (k:=(jt 1 (k:=(jm 7 11 [0,1,18] (p:=Zcb) (q:=by intro b;(try simp at b);exact (js hX 3 Z1 (jm 3 14 [0,1,11,17] (p:=Zcb) (q:=Zcb) (k:=(jh hX Z1))))) (k:=(jt 1 (k:=(jm 3 19 [0,1,22] (p:=Zcb) (q:=Zcb) (k:=jf)))))))))))) ?_)
 refine jd (fun h1=> ?_) (fun h1=> ?_)
 ·try simp at h1
  refine jq [4] ?_
  refine Q5 (je Zs ?_)
  (try simp_all[Q47])<;>grind [Q47]
 ·try simp at h1
  refine Q3 (Q0 [4] (jt 3 (k:=(jm 3 25 [0,28] (p:=Zcb) (q:=Zcb) (k:=(jt 1 (k:=(jm 3 29 [32] (p:=Zcb) (q:=Zcb) (k:=jr)))))))) ?_)
  refine Q5 (je Zs ?_)
  (try simp_all[Q47])<;>grind [Q47]
theorem Q3c:Q6 Tryz.prog 132:=jcb Tryz.func132
theorem Q8f{t:Str}(ht:t.length≤1099511627776):Ct Tryz.prog 132 [.str t] [] (.bool (Q2j t)) []:=by
 refine jbS Tryz.func132 25 fun X hX=> ?_
 refine jq [0] ?_
 refine Q4 (Q0 [0,11] (jt 4 (k:=(jm 4 7 [0,11] (p:=fun b1_4=>by (try simp at b1_4);exact (jh hX Z1)) (q:=fun b1_4=>by (try simp at b1_4);exact (jh hX Z69)) (k:=jf)))) ?_)
 refine jd (fun h1=> ?_) (fun h1=> ?_)
 ·try simp at h1
  refine jq [2] ?_
  refine Q5 (je Zs ?_)
  grind [Q2j]
 ·try simp at h1
  refine Q3 (Q4 (jq [0,3] ?_))
  refine Q7 (Qh (α:=Nat) [0,3] (fun i=>[(3,.int .i64 i)]) (fun i=>[]) (fun i=>i≤t.length∧Q7f (decide (i=0)) (t.drop i)=Q7f true t) (fun i=>t.length-i) (0) (fun i=>by simp;rfl) Z3 ?_ ?_)
  ·simp
  rintro i ⟨hi,hI⟩
  refine Q4 (Q0 [0,3,15] (jh hX Zs) ?_)
  refine jd (fun h4=> ?_) (fun h4=> ?_)
  ·try simp at h4
   rw[List.drop_eq_getElem_cons h4] at hI
   simp only[Q7f] at hI
   refine Q3 (Q4 (Q7 (Q0 [0,3,24] (js hX 5 Z5r (jc [] (c:=Z4s) (a:=Q78) (k:=jr))) ?_)))
   refine jd (fun h6=> ?_) (fun h6=> ?_)
   ·try simp at h6
    refine jq [2] ?_
    refine Q5 (je Z5r ?_)
    grind [Q2j]
   ·try simp at h6
    refine Q3 (Qb (jh hX Z9) ?_)
    refine Qo (i+1) [0,3] Z9y ?_ ?_
    ·exact ⟨by omega,by simp_all⟩
    ·omega
  ·try simp at h4
   rw[List.drop_eq_nil_of_le h4] at hI
   simp only[Q7f] at hI
   refine Ql (jq [2] ?_)
   refine Q5 (je Z5r ?_)
   grind [Q2j]
theorem Q7l:Q6 Tryz.prog 213:=jcb Tryz.func213
theorem Qlh{t:Str}{p:Nat}(ht:t.length≤1099511627776)(hp:p≤t.length):Ct Tryz.prog 213 [.str t,.int .i64 p,.bool true] [] (.tup [.int .i64 (Q5b t p).1,.bool (Q5b t p).2]) []:=by
 refine jbS Tryz.func213 85 fun X hX=> ?_
 refine jq [0,1,2] ?_
 refine Q4 (jq [0,1,2,13] ?_)
 refine jd (fun h1=> ?_) (fun h1=> ?_)
 ·try simp at h1
  refine jq [6,7] ?_
  refine Q5 (je Zs ?_)
  simp_all[tyP,Q5b,nmP,Q2r,Q5x]
 ·try simp at h1
  refine Q3 (Q4 (Q7 (Q0 [0,1,2,15] (jh hX Zs) ?_)))
  refine jd (fun h3=> ?_) (fun h3=> ?_)
  ·try simp at h3
   refine Q0 [6,7] (jh hX Z9) ?_
   refine Q5 (je Zs ?_)
   simp_all[tyP,Q5b,nmP,Q2r,Q5x]
  ·try simp at h3
   refine Q0 [0,1,22] (js hX 5 Zs (jm 3 27 [0,1,30] (p:=Zcb) (q:=Zcb) (k:=jr))) ?_
   refine jd (fun h5=> ?_) (fun h5=> ?_)
   ·try simp at h5
   ·try simp at h5
    refine Q0 [0,1,37] (jh hX Zs) ?_
    refine jd (fun h7=> ?_) (fun h7=> ?_)
    ·try simp at h7
     refine Q0 [0,8] (jh hX Z9) ?_
     refine jq [0,8,9] ?_
     refine Q4 (Q7 (Qh (α:=Nat) [0,8,9] (fun i=>[(9,.int .i64 i)]) (fun i=>[]) (fun i=>p+1≤i∧i≤t.length∧i-(p+1)≤20∧i+Q2m (20-(i-(p+1))) (decide (i=p+1)) (t.drop i)=p+1+Q2m 20 true (t.drop (p+1))) (fun i=>t.length-i) (p+1) (fun i=>by simp;rfl) Z3 ?_ ?_))
     ·simp;omega
     rintro i ⟨h0i,hi,hn,hI⟩
     refine Q4 (Q0 [0,8,9,63] (js hX 5 Zs (jm 5 49 [0,8,9,54] (p:=by intro b;(try simp at b);exact (jh hX Z6a)) (q:=Zcb) (k:=(jt 1 (k:=(jm 8 55 [0,8,9,63] (p:=fun b10_11=>by (try simp at b10_11);exact (js hX 6 (by simp[-Qr,-Qa,h1,b10_11];rfl) (Q8.call [] rfl Z3 rfl Z1 Z7 Z4s Q78 Z3 Z3 Z1 (jh hX Z1)))) (q:=fun b10_11=>by (try simp at b10_11);exact (jh hX Z1)) (k:=jf))))))) ?_)
     have hge:t.length≤i→Q2m (20-(i-(p+1))) (decide (i=p+1)) (t.drop i)=0:=fun h=>by rw[List.drop_eq_nil_of_le h];simp[Q2m]
     have hg2:i-(p+1)=20→Q2m (20-(i-(p+1))) (decide (i=p+1)) (t.drop i)=0:=fun h=>by rw[h];simp[Q2m]
     have hg3:=fun h1 h2=> @Qeg t i (p+1) h1 h2 h0i
     refine jd (fun h10=> ?_) (fun h10=> ?_)
     ·try simp at h10
      have ⟨⟨h10a,h10b⟩,h10c⟩:=h10
      rw[Qr h10a] at h10c
      rw[hg3 h10a Zb,if_pos h10c] at hI
      refine Q3 (Q7 (Qb (jh hX Z9) ?_))
      refine Qo (i+1) [0,8,9] Z9r ?_ ?_
      ·exact ⟨by omega,by omega,by omega,by omega⟩
      ·omega
     ·try simp at h10
      have hI2:i=p+1+Q2m 20 true (t.drop (p+1)):=by
       rcases Nat.lt_or_ge i t.length with hl|hl
       ·by_cases hk:i-(p+1)=20
        ·have:=hg2 hk;omega
        ·rw[hg3 hl Zb] at hI
         have:Q47 t[i] (decide (i=p+1))=false:=by
          rw[←Qr hl];exact h10 hl Zb
         rw[this] at hI;simpa using hI
       ·have:=hge hl;omega
      have hnm:nmP t (p+1)=if (Q23 t i 59&& !decide (i=p+1)) then (i+1,true) else (i,false):=by simp only[nmP,←hI2]
      have hty:Q5b t p=nmP t (p+1):=by simp[Q5b,Q2r h1,h3,h7]
      clear hI hI2 hg2 hg3 hge
      refine Ql (Q4 (Q0 [9,80] (js hX 5 Z9h (jm 5 70 [8,9,75] (p:=Zcb) (q:=Z5f) (k:=(jt 1 (k:=(jm 4 76 [9,80] (p:=Zcb) (q:=Zcb) (k:=jf))))))) ?_))
      refine jd (fun h12=> ?_) (fun h12=> ?_)
      ·try simp at h12
       refine jq [6,7] ?_
       refine Q5 (je Z9h ?_)
       rw[hty,hnm]
       have:(Q23 t i 59&& !decide (i=p+1))=false:=by grind [Q2r,Q5x,Qr]
       simp[this]
      ·try simp at h12
       refine Q3 (Q0 [6,7] (jh hX Z9) ?_)
       refine Q5 (je Z9h ?_)
       rw[hty,hnm]
       have:(Q23 t i 59&& !decide (i=p+1))=true:=by grind [Q2r,Q5x,Qr]
       simp[this]
    ·try simp at h7
     refine Q3 (jq [6,7] ?_)
     refine Q5 (je Zs ?_)
     simp_all[tyP,Q5b,nmP,Q2r,Q5x]
theorem Qf4{t:Str}{p:Nat}(ht:t.length≤1099511627776)(hp:p≤t.length):Ct Tryz.prog 213 [.str t,.int .i64 p,.bool false] [] (.tup [.int .i64 (tyP t p).1,.bool (tyP t p).2]) []:=by
 refine jbS Tryz.func213 85 fun X hX=> ?_
 refine jq [0,1,2] ?_
 refine Q4 (jq [0,1,2,13] ?_)
 refine jd (fun h1=> ?_) (fun h1=> ?_)
 ·try simp at h1
  refine jq [6,7] ?_
  refine Q5 (je Zs ?_)
  simp_all[tyP,Q5b,nmP,Q2r,Q5x]
 ·try simp at h1
  refine Q3 (Q4 (Q7 (Q0 [0,1,2,15] (jh hX Zs) ?_)))
  refine jd (fun h3=> ?_) (fun h3=> ?_)
  ·try simp at h3
   refine Q0 [6,7] (jh hX Z9) ?_
   refine Q5 (je Zs ?_)
   simp_all[tyP,Q5b,nmP,Q2r,Q5x]
  ·try simp at h3
   refine Q0 [0,1,22] (js hX 5 Zs (jm 3 27 [0,1,30] (p:=Zcb) (q:=Zcb) (k:=jr))) ?_
   refine jd (fun h5=> ?_) (fun h5=> ?_)
   ·try simp at h5
    refine Q0 [6,7] (js hX 3 Z9 (jc [] (c:=(by apply Qlh<;>exact Z6)) (a:=Q7l) (k:=jr))) ?_
    refine Q5 (je Zs ?_)
    simp_all[tyP,Q5b,nmP,Q2r,Q5x]
   ·try simp at h5
    refine Q0 [0,1,37] (jh hX Zs) ?_
    refine jd (fun h7=> ?_) (fun h7=> ?_)
    ·try simp at h7
     refine Q0 [0,8] (jh hX Z9) ?_
     refine jq [0,8,9] ?_
     refine Q4 (Q7 (Qh (α:=Nat) [0,8,9] (fun i=>[(9,.int .i64 i)]) (fun i=>[]) (fun i=>p+1≤i∧i≤t.length∧i-(p+1)≤20∧i+Q2m (20-(i-(p+1))) (decide (i=p+1)) (t.drop i)=p+1+Q2m 20 true (t.drop (p+1))) (fun i=>t.length-i) (p+1) (fun i=>by simp;rfl) Z3 ?_ ?_))
     ·simp;omega
     rintro i ⟨h0i,hi,hn,hI⟩
     refine Q4 (Q0 [0,8,9,63] (js hX 5 Zs (jm 5 49 [0,8,9,54] (p:=by intro b;(try simp at b);exact (jh hX Z6a)) (q:=Zcb) (k:=(jt 1 (k:=(jm 8 55 [0,8,9,63] (p:=fun b10_11=>by (try simp at b10_11);exact (js hX 6 (by simp[-Qr,-Qa,h1,b10_11];rfl) (Q8.call [] rfl Z3 rfl Z1 Z7 Z4s Q78 Z3 Z3 Z1 (jh hX Z1)))) (q:=fun b10_11=>by (try simp at b10_11);exact (jh hX Z1)) (k:=jf))))))) ?_)
     have hge:t.length≤i→Q2m (20-(i-(p+1))) (decide (i=p+1)) (t.drop i)=0:=fun h=>by rw[List.drop_eq_nil_of_le h];simp[Q2m]
     have hg2:i-(p+1)=20→Q2m (20-(i-(p+1))) (decide (i=p+1)) (t.drop i)=0:=fun h=>by rw[h];simp[Q2m]
     have hg3:=fun h1 h2=> @Qeg t i (p+1) h1 h2 h0i
     refine jd (fun h10=> ?_) (fun h10=> ?_)
     ·try simp at h10
      have ⟨⟨h10a,h10b⟩,h10c⟩:=h10
      rw[Qr h10a] at h10c
      rw[hg3 h10a Zb,if_pos h10c] at hI
      refine Q3 (Q7 (Qb (jh hX Z9) ?_))
      refine Qo (i+1) [0,8,9] Z9r ?_ ?_
      ·exact ⟨by omega,by omega,by omega,by omega⟩
      ·omega
     ·try simp at h10
      have hI2:i=p+1+Q2m 20 true (t.drop (p+1)):=by
       rcases Nat.lt_or_ge i t.length with hl|hl
       ·by_cases hk:i-(p+1)=20
        ·have:=hg2 hk;omega
        ·rw[hg3 hl Zb] at hI
         have:Q47 t[i] (decide (i=p+1))=false:=by
          rw[←Qr hl];exact h10 hl Zb
         rw[this] at hI;simpa using hI
       ·have:=hge hl;omega
      have hnm:nmP t (p+1)=if (Q23 t i 59&& !decide (i=p+1)) then (i+1,true) else (i,false):=by simp only[nmP,←hI2]
      have hty:tyP t p=nmP t (p+1):=by simp_all[tyP,Q5b,Q2r h1]
      clear hI hI2 hg2 hg3 hge
      refine Ql (Q4 (Q0 [9,80] (js hX 5 Z9h (jm 5 70 [8,9,75] (p:=Zcb) (q:=Z5f) (k:=(jt 1 (k:=(jm 4 76 [9,80] (p:=Zcb) (q:=Zcb) (k:=jf))))))) ?_))
      refine jd (fun h12=> ?_) (fun h12=> ?_)
      ·try simp at h12
       refine jq [6,7] ?_
       refine Q5 (je Z9h ?_)
       rw[hty,hnm]
       have:(Q23 t i 59&& !decide (i=p+1))=false:=by grind [Q2r,Q5x,Qr]
       simp[this]
      ·try simp at h12
       refine Q3 (Q0 [6,7] (jh hX Z9) ?_)
       refine Q5 (je Z9h ?_)
       rw[hty,hnm]
       have:(Q23 t i 59&& !decide (i=p+1))=true:=by grind [Q2r,Q5x,Qr]
       simp[this]
    ·try simp at h7
     refine Q3 (jq [6,7] ?_)
     refine Q5 (je Zs ?_)
     simp_all[tyP,Q5b,nmP,Q2r,Q5x]
theorem Q8o:Q6 Tryz.prog 133:=jcb Tryz.func133
theorem Qc6{t:Str}(ht:t.length≤1099511627776):Ct Tryz.prog 133 [.str t] [] (.bool (Q1n t)) []:=by
 refine jbS Tryz.func133 20 fun X hX=> ?_
 refine jq [0] ?_
 refine Q4 (jq [0,7] ?_)
 refine jd (fun h1=> ?_) (fun h1=> ?_)
 ·try simp at h1
  refine jq [2] ?_
  refine Q5 (je Zs ?_)
  (try simp_all[Q1n])<;>grind
 ·try simp at h1
  refine Q3 (Q0 [0,3,4] (jt 1 (k:=(jc [] (c:=(by apply Qf4<;>exact Z6)) (a:=Q7l) (k:=jr)))) ?_)
  refine Q0 [2] (jt 2 (k:=(jm 5 14 [19] (p:=Zcw) (q:=Zcb) (k:=jr)))) ?_
  refine Q5 (je Zs ?_)
  (try simp_all[Q1n])<;>grind
theorem Q3p:Q6 Tryz.prog 224:=jcb Tryz.func224
theorem Qn9{n:Int}:Ct Tryz.prog 224 [.int .i64 n] [] (.agg [.raw (.slice none 0 0),.str [],.int .i64 n,.int .i64 3]) []:=by
 refine jbS Tryz.func224 5 fun X hX=> ?_
 refine jq [0,2] ?_
 refine jq [2] ?_
 refine Q5 (je0 ?_)
 rfl
theorem Q34:Q6 Tryz.prog 155:=jcb Tryz.func155
theorem Q5j{t:Str}(ht:t.length≤1099511627776):Ct Tryz.prog 155 [.str t] [] (eDO (Qd t)) []:=by
 refine jbS Tryz.func155 104 fun X hX=> ?_
 refine jq [0,2] ?_
 refine Q4 (jq [0,2,11] ?_)
 refine jd (fun h1=> ?_) (fun h1=> ?_)
 ·try simp at h1
  refine Q0 [2] (jh hX Zs) ?_
  refine Q5 (Q1b Zs ?_ rfl)
  rw[show Qd t=⟨[],[],0,2⟩ from by unfold Qd;rw[if_pos Zb]]
  exact Q2s _ _ _
 ·try simp at h1
  have h1c:Qd t=Qy t:=by unfold Qd;rw[if_neg Zb]
  rw[h1c]
  refine Q3 (Q4 (Q0 [0,2,20] (js hX 4 Zs (jm 4 16 [0,2,20] (p:=fun b3_4=>by (try simp at b3_4);exact (jh hX Z1)) (q:=fun b3_4=>by (try simp at b3_4);(have hlt:0<t.length:=List.length_pos_iff.2 b3_4);exact (jh hX (by simp[-Qr,-Qa,h1,hlt];rfl))) (k:=jf))) ?_))
  refine jd (fun h3=> ?_) (fun h3=> ?_)
  ·try simp at h3
   refine Q0 [2] (jc [] (c:=Z3a) (a:=Q3p) (k:=(jh hX Zs))) ?_
   refine Q5 (Q1b Zs ?_ rfl)
   rw[show Qy t=Q4f 0 from by unfold Qy;rw[if_neg];rcases h3 with rfl|h3;simp[Q23];simp only[Q23];split<;>simp_all[atD]]
   exact Q2s _ _ _
  ·try simp at h3
   have h3c:0<t.length:=List.length_pos_iff.2 h3.1
   have h3b:Q23 t 0 40=true:=by rw[Q2r h3c,←Qr h3c];simpa using h3.2
   refine Q3 (Q0 [0,2,3] (jh hX Zs) ?_)
   refine jq [0,2,3,4] ?_
   refine Q4 (Q7 (Q15 (Le.nilC 1 0 0 1 Z7) ?_))
   refine Qh (α:=List Str×Nat) [0,2,3,4] (fun a=>[(4,.int .i64 a.2)]) (fun a=>[(1,some (2,[.agg [.arr 2 0 a.1.length,.str []]])),(2,some (1,a.1.map V.str))]) (fun a=>a.2≤t.length∧a.1.length≤8∧Q30 t (8-a.1.length) a.2 a.1=Q30 t 8 1 []) (fun a=>8-a.1.length) (([],1)) (fun a=>by simp;rfl) Z3 ?_ ?_
   ·exact ⟨by simp;omega,by simp,rfl⟩
   rintro ⟨ps,p⟩ ⟨hp,hn,hI⟩
   simp only at hp hn hI
   refine Q4 (Q0 [0,2,3,4,32] (js hX 5 Zs (jm 5 27 [0,2,3,4,32] (p:=fun b7_5=>by (try simp at b7_5);exact (jh hX (by simp[-Qr,-Qa,h1,b7_5];rfl))) (q:=fun b7_5=>by (try simp at b7_5);exact (jh hX Z1)) (k:=jf))) ?_)
   refine jd (fun h7=> ?_) (fun h7=> ?_)
   ·try simp at h7
    have h7a:=h7.1
    have h7b:Q23 t p 41=false:=by rw[Q2r h7a,←Qr h7a];simpa using h7.2
    refine Q3 (Q7 (Q4 (Q0 [0,2,3,4,36] (jh hX Z8a) ?_)))
    refine jd (fun h8=> ?_) (fun h8=> ?_)
    ·try simp at h8
     have h8b:8-ps.length=0:=by omega
     rw[h8b,Q30,if_neg (by simp[h7b])] at hI
     refine Q0 [2] (jt 1 (k:=(jc [] (c:=Z3a) (a:=Q3p) (k:=(jh hX Z8a))))) ?_
     refine Q5 (Q1b Z8a ?_ rfl)
     rw[Qdg h3b hI.symm]
     exact Q2s _ _ _
    ·try simp at h8
     have h8b:8-ps.length=(8-(ps.length+1))+1:=by omega
     rw[h8b,Q30,if_neg (by simp[h7b])] at hI
     obtain ⟨hge,hle,hgt,_⟩:=Qmm hp
     have w1:(ps.length+1)*16≤140737488355328:=by omega
     have w2:ps.length≤1099511627775:=by omega
     refine Q3 (Q0 [0,2,3,4,5,6] (jt 2 (k:=(jc [] (c:=Zam) (a:=Q7l) (k:=jr)))) ?_)
     refine Q4 (jq [0,2,3,4,5,46] ?_)
     refine jd (fun h11=> ?_) (fun h11=> ?_)
     ·try simp at h11
      rw[if_neg (by simp[h11])] at hI
      refine Q0 [2] (jt 1 (k:=(jc [] (c:=Z3a) (a:=Q3p) (k:=(jh hX (by simp[h1,h7,w1,w2];rfl)))))) ?_
      refine Q5 (Q1b (by simp[h1,h7,w1,w2];rfl) ?_ rfl)
      rw[Qdg h3b hI.symm]
      exact Q2s _ _ _
     ·try simp at h11
      rw[if_pos h11] at hI
      have hI3:Q30 t (8-(ps++[seg t p (tyP t p).1]).length) (tyP t p).1 (ps++[seg t p (tyP t p).1])=Q30 t 8 1 []:=by simpa using hI
      refine Q3 (jL 7 [0,1,2,3,4,5] [6] [0,2,3,5] ([1]) hX (by simp[h1,h7,w1,w2,hge,hle];rfl) (jH (p:=fun X hX=>jr) (k:=.nil)) (jh hX (by simp[h1,h7,w1,w2,hge,hle];rfl)) ?_)
      refine Qb jr ?_
      refine Qm ((ps++[seg t p (tyP t p).1],(tyP t p).1)) [0,2,3,4] 3 Z1r Z3 (by simp[seg,h11];try (simp (disch:=omega) only[Qc])) ?_ ?_
      ·exact ⟨hle,by simp;omega,hI3⟩
      ·simp;omega
   ·try simp at h7
    have h7b:p<t.length→Q23 t p 41=true:=fun h=>by rw[Q2r h,←Qr h];simpa using h7 h
    refine Ql (Q4 (Q0 [0,2,3,4,62] (jh hX Z8a) ?_))
    refine jd (fun h15=> ?_) (fun h15=> ?_)
    ·try simp at h15
     refine Q0 [2] (jt 1 (k:=(jc [] (c:=Z3a) (a:=Q3p) (k:=(jh hX Z8a))))) ?_
     refine Q5 (Q1b Z8a ?_ rfl)
     have hpl:p=t.length:=h15
     rw[show Qy t=Q4f p from Qdg h3b (by rw[←hI];cases 8-ps.length<;>simp[Q30,Q5x (show t.length≤p from by omega),tyP,Q5b]),hpl]
     exact Q2s _ _ _
    ·try simp at h15
     have h7d:=h7b Zb
     have hd:Qy t=Q1t t ps p:=Qxb h3b (by rw[←hI];cases 8-ps.length<;>simp[Q30,h7d])
     rw[hd]
     have w0:p+1≤t.length:=by omega
     have wp:ps.length≤ps.length:=Nat.le_refl _
     refine Q3 (Q0 [0,2,3,4] (jh hX Z9) ?_)
     refine Q4 (Q0 [0,2,3,4,76] (js hX 5 (by simp[h1,h7,w0];rfl) (jm 5 71 [0,2,3,4,76] (p:=fun b18_5=>by (try simp at b18_5);exact (jh hX (by simp[-Qr,-Qa,h1,h7,w0,b18_5];rfl))) (q:=fun b18_5=>by (try simp at b18_5);exact (jh hX Z1)) (k:=jf))) ?_)
     refine jd (fun h18=> ?_) (fun h18=> ?_)
     ·try simp at h18
      have h18b:Q23 t (p+1) 86=true:=by rw[Q2r h18.1,←Qr h18.1];simpa using h18.2
      refine Q0 [0,2,3,4] (jh hX (by simp[h1,h7,w0,h18];rfl)) ?_
      refine Qb (jh hX Z9) ?_
      refine Q4 (Q0 [2,3,4,99] (jh hX (by simp[h1,h7,w0,h18];rfl)) ?_)
      refine jd (fun h26=> ?_) (fun h26=> ?_)
      ·try simp at h26
       refine Q0 [2] (jt 1 (k:=(jc [] (c:=Z3a) (a:=Q3p) (k:=(jh hX Z90))))) ?_
       refine Q5 (Q1b Z90 ?_ rfl)
       first
        |(rw[show Q1t t ps p=Q4f (p+2) from by simp only[Q1t,h18b,if_true];rw[if_pos Zb],show ((p:Int)+1+1)=((p+2:Nat):Int) from by omega];exact Q2s _ _ _)
        |(rw[show Q1t t ps p=Q4f (tyP t (p+1)).1 from by simp only[Q1t,h18b,h22,if_true];simp;omega];exact Q2s _ _ _)
      ·try simp at h26
       refine Q3 (Q0 [2] (jh hX Z90) ?_)
       refine Q5 (Q1b Z90 ?_ rfl)
       first
        |(rw[show Q1t t ps p=⟨ps,[86],0,0⟩ from by simp only[Q1t,h18b,if_true];rw[if_neg Zb]];exact Wk.refl _)
        |(rw[show Q1t t ps p=⟨ps,seg t (p+1) (tyP t (p+1)).1,0,0⟩ from by simp only[Q1t,h18b,h22];simp;omega];exact Wk.refl _)
     ·try simp at h18
      have h18b:Q23 t (p+1) 86=false:=by
       rcases Nat.lt_or_ge (p+1) t.length with h|h
       ·rw[Q2r h,←Qr h];simpa using h18 h
       ·exact Q5x h
      obtain ⟨hge,hle,hgt,_⟩:=Qmm w0
      refine Q0 [0,2,3,4,7,8] (jt 2 (k:=(jc [] (c:=Zam) (a:=Q7l) (k:=jr)))) ?_
      refine Q4 (jq [0,2,3,4,7,87] ?_)
      refine jd (fun h22=> ?_) (fun h22=> ?_)
      ·try simp at h22
       refine Q0 [2] (jt 1 (k:=(jc [] (c:=Z3a) (a:=Q3p) (k:=(jh hX Z8e))))) ?_
       refine Q5 (Q1b Z8e ?_ rfl)
       rw[show Q1t t ps p=Q4f (tyP t (p+1)).1 from by simp[Q1t,h18b,h22]]
       exact Q2s _ _ _
      ·try simp at h22
       refine Q3 (Q0 [0,2,3,7] (jh hX Z8e) ?_)
       refine Qb jr ?_
       refine Q4 (Q0 [2,3,4,99] (jh hX Z8e) ?_)
       refine jd (fun h26=> ?_) (fun h26=> ?_)
       ·try simp at h26
        refine Q0 [2] (jt 1 (k:=(jc [] (c:=Z3a) (a:=Q3p) (k:=(jh hX Z7g))))) ?_
        refine Q5 (Q1b Z7g ?_ rfl)
        first
         |(rw[show Q1t t ps p=Q4f (p+2) from by simp only[Q1t,h18b,if_true];rw[if_pos Zb],show ((p:Int)+1+1)=((p+2:Nat):Int) from by omega];exact Q2s _ _ _)
         |(rw[show Q1t t ps p=Q4f (tyP t (p+1)).1 from by simp only[Q1t,h18b,h22,if_true];simp;omega];exact Q2s _ _ _)
       ·try simp at h26
        refine Q3 (Q0 [2] (jh hX Z7g) ?_)
        refine Q5 (Q1b Z7g ?_ rfl)
        first
         |(rw[show Q1t t ps p=⟨ps,[86],0,0⟩ from by simp only[Q1t,h18b,if_true];rw[if_neg Zb]];exact Wk.refl _)
         |(rw[show Q1t t ps p=⟨ps,seg t (p+1) (tyP t (p+1)).1,0,0⟩ from by simp only[Q1t,h18b,h22];simp;omega];exact Wk.refl _)
theorem Qsb:Q6 Tryz.prog 290:=jcb Tryz.func290
theorem Qry:Ct Tryz.prog 290 [] [] (.lst true 1 (Qwg.map V.str)) []:=by
 refine jbS Tryz.func290 2 fun X hX=> ?_
 refine jq [] ?_
 refine jq [0] ?_
 refine Q5 (je0 ?_)
 rfl
theorem Qny:Q6 Tryz.prog 291:=jcb Tryz.func291
theorem Qna{t:Str}{c:UInt8}(ht:t.length≤1048576):Ct Tryz.prog 291 [.str t,.int .u8 c.toNat] [] (.lst true 1 ((Q7n c t).map V.str)) []:=by
 refine jbS Tryz.func291 35 fun X hX=> ?_
 refine jq [0,1] ?_
 refine jq [0,1,5] ?_
 refine jq [0,1,5,6] ?_
 refine Q4 (jq [0,1,5,6,7] ?_)
 refine Q7 (Qh (α:=List Str×Nat×Nat) [0,1,5,6,7] (fun a=>[(5,.arr 0 0 a.1.length),(6,.int .i64 a.2.1),(7,.int .i64 a.2.2)]) (fun a=>[(0,some (1,a.1.map V.str))]) (fun a=>a.2.1≤a.2.2∧a.2.2≤t.length∧a.1.length≤a.2.2∧(∀x∈(t.drop a.2.1).take (a.2.2-a.2.1),x≠c)∧a.1++Q7n c (t.drop a.2.1)=Q7n c t) (fun a=>t.length-a.2.2) (([],0,0)) (fun a=>by simp;rfl) Z3 ?_ ?_)
 ·simp
 rintro ⟨ps,f,i⟩ ⟨hf,hi,hp,hn,hI⟩
 simp only at hf hi hp hn hI
 have w1:(ps.length+1)*16≤140737488355328:=by omega
 have w2:ps.length≤1099511627775:=by omega
 refine Q4 (Q0 [0,1,5,6,7,12] (jh hX (by simp[w1,w2,hf,hi];rfl)) ?_)
 refine jd (fun h4=> ?_) (fun h4=> ?_)
 ·try simp at h4
  have hdi:i-f<(t.drop f).length:=by simp;omega
  have hde:(t.drop f)[i-f]=t[i]:=by simp[Nat.add_sub_cancel' hf]
  refine Q3 (Q4 (Q7 (Q0 [0,1,5,6,7,19] (jh hX (by simp[w1,w2,hf,hi,h4];rfl)) ?_)))
  refine jd (fun h6=> ?_) (fun h6=> ?_)
  ·try simp at h6
   have hs:=Qqq hdi hn (by rw[hde];exact UInt8.toNat_inj.1 h6)
   rw[List.drop_drop,show f+(i-f+1)=i+1 from by omega] at hs
   have hI2:(ps++[seg t f i])++Q7n c (t.drop (i+1))=Q7n c t:=by rw[←hI,hs,seg,List.drop_take];simp
   refine Q0 [0,1,5,7] (jh hX (by simp[w1,w2,hf,hi,h4];rfl)) ?_
   refine Qb (jh hX Z9) ?_
   refine Qb (jh hX Z9) ?_
   refine Qm (if t[i].toNat=c.toNat then (ps++[seg t f i],i+1,i+1) else (ps,f,i+1)) [0,1,5,6,7] 1 Z1r Z3 Z9a ?_ ?_
   ·first
    |(rw[if_pos h6];exact ⟨Nat.le_refl _,h4,by simp;omega,by simp,hI2⟩)
    |(rw[if_neg h6];exact ⟨by simp;omega,h4,by simp;omega,hn2,hI⟩)
   ·first|(rw[if_pos h6];simp;omega)|(rw[if_neg h6];simp;omega)
  ·try simp at h6
   have h6c:t[i]≠c:=fun e=>h6 (by rw[e])
   have hn2: ∀x∈(t.drop f).take (i+1-f),x≠c:=by
    rw[show i+1-f=(i-f)+1 from by omega,List.take_succ_eq_append_getElem hdi,hde]
    intro x hx
    rcases List.mem_append.1 hx with hx|hx
    ·exact hn x hx
    ·simp at hx;rw[hx];exact h6c
   refine Q3 (Qb (jh hX Z9) ?_)
   refine Qm (if t[i].toNat=c.toNat then (ps++[seg t f i],i+1,i+1) else (ps,f,i+1)) [0,1,5,6,7] 1 Z1r Z3 Z9a ?_ ?_
   ·first
    |(rw[if_pos h6];exact ⟨Nat.le_refl _,h4,by simp;omega,by simp,hI2⟩)
    |(rw[if_neg h6];exact ⟨by simp;omega,h4,by simp;omega,hn2,hI⟩)
   ·first|(rw[if_pos h6];simp;omega)|(rw[if_neg h6];simp;omega)
 ·try simp at h4
  have hfl:f≤t.length:=by omega
  refine Ql (Q0 [4] (jh hX (by simp[w1,w2,hf,hi,h4,hfl];rfl)) ?_)
  refine Q5 (Q1b (by simp[w1,w2,hf,hi,h4,hfl];rfl) ?_ rfl)
  have hil:i=t.length:=by omega
  subst hil
  rw[Qti (by rw[List.take_of_length_le Z3] at hn;exact hn)] at hI
  rw[←hI]
  simp
  exact Wk.refl _
theorem Qbd:Q6 Tryz.prog 215:=jcb Tryz.func215
theorem Qh2{op:Int}:Ct Tryz.prog 215 [.int .i64 op] [] (.str (Q67 op)) []:=by
 have hol:Qwg.length=45:=rfl
 refine jbS Tryz.func215 25 fun X hX=> ?_
 refine jq [0] ?_
 refine Q0 [0,3] (jF (c:=(by apply Qry<;>exact Z6)) (a:=Qsb) (k:=jr)) ?_
 refine Q4 (Q0 [0,3,13] (jt 3 (k:=(jm 5 8 [0,3,13] (p:=fun b2_3=>by (try simp at b2_3);exact (jh hX Z1)) (q:=fun b2_3=>by (try simp at b2_3);exact (jh hX Zan)) (k:=jf)))) ?_)
 refine jd (fun h2=> ?_) (fun h2=> ?_)
 ·try simp at h2
  have hx:Q67 op=[33]:=by simp only[Q67];rw[if_pos (by simp[hol] at h2;omega)]
  refine jq [2] ?_
  refine Q5 (je Zw ?_)
  simp_all[Qvi]
 ·try simp at h2
  simp only[hol] at h2
  obtain ⟨k,rfl⟩: ∃k:Nat,op=(k:Int):=⟨op.toNat,by omega⟩
  have hk:k<Qwg.length:=by rw[hol];omega
  have hf:=Qyh ⟨k,by omega⟩ Z3l
  have hl:Qwg[k].length≤1048576:=Nat.le_trans (Q10r ⟨k,by omega⟩) Z3w
  have hof:Q67 k=Qu2.getD (k-1) []:=by simp only[Q67];rw[if_neg Zb];congr 1;omega
  have hge:Qwg.getD k []=Qwg[k]:=by simp[hk]
  simp only[hge] at hf
  rw[hof,←hf]
  clear hf hof hge
  refine Q3 (Q0 [4] (js hX 4 (by simp[h2,hk];rfl) (jF (c:=(by apply (Qna (c:=32))<;>exact Z6)) (a:=Qny) (k:=jr))) ?_)
  refine Q4 (Q0 [4,21] (jh hX (by simp[h2,hk];rfl)) ?_)
  refine jd (fun h5=> ?_) (fun h5=> ?_)
  ·try simp at h5
   skip
   refine Q0 [2] (jh hX (by simp[h2,hk,h5];rfl)) ?_
   refine Q5 (je (by simp[h2,hk,h5];rfl) ?_)
   simp_all[Qvi]
  ·try simp at h5
   refine Q3 (jq [2] ?_)
   refine Q5 (je (by simp[h2,hk];rfl) ?_)
   simp_all[Qvi]
theorem Q9e:Q6 Tryz.prog 288:=jcb Tryz.func288
theorem Qn8{x:Ins}:Ct Tryz.prog 288 [eI x] [] (.bool (decide (x.cls=[]∧x.name=[]∧x.desc=[]))) []:=by
 refine jbS Tryz.func288 16 fun X hX=> ?_
 refine jq [1] ?_
 refine Q0 [2] (jt 4 (k:=(jm 4 6 [1,10] (p:=Zcb) (q:=Zcb) (k:=(jt 1 (k:=(jm 4 11 [15] (p:=Zcb) (q:=Zcb) (k:=jr)))))))) ?_
 refine Q5 (je0 ?_)
 (try simp_all)<;>grind
theorem Qsd:Q6 Tryz.prog 289:=jcb Tryz.func289
theorem Qs0{n:Int}:Ct Tryz.prog 289 [.int .i64 n] [] (.bool (decide (-2147483648≤n∧n≤2147483647))) []:=by
 refine jbS Tryz.func289 9 fun X hX=> ?_
 refine jq [0] ?_
 refine Q0 [2] (jt 3 (k:=(jm 3 5 [8] (p:=Zcb) (q:=Zcb) (k:=jr)))) ?_
 refine Q5 (je0 ?_)
 (try simp_all)<;>grind
theorem Qnz:Q6 Tryz.prog 214:=jcb Tryz.func214
theorem Qnb{x:Ins}(h:Q73 x≤1099511627776):Ct Tryz.prog 214 [eI x] [] (.bool (Q1l x)) []:=by
 simp only[Q73] at h
 refine jbS Tryz.func214 145 fun X hX=> ?_
 refine jq [1] ?_
 refine Q4 (Q0 [1,5] (jt 2 (k:=(jc [] (c:=Z7x) (a:=Qbd) (k:=jf)))) ?_)
 refine Q7 (jq [1,5,6] ?_)
 refine jd (fun h2=> ?_) (fun h2=> ?_)
 ·try simp at h2
  refine Q0 [2] (jt 4 (k:=(jm 3 11 [14] (p:=Zd2) (q:=Zcb) (k:=jr)))) ?_
  refine Q5 (je0 ?_)
  (try simp_all[Q1l,Q2u,Q8c,Qn])<;>grind
 ·try simp at h2
  refine jq [1,5,15] ?_
  refine jd (fun h4=> ?_) (fun h4=> ?_)
  ·try simp at h4
   refine Q0 [2] (jt 2 (k:=(jc [] (c:=(by apply Qs0<;>exact Z6)) (a:=Qsd) (k:=(jt 1 (k:=(jm 3 20 [23] (p:=Zd2) (q:=Zcb) (k:=jr)))))))) ?_
   refine Q5 (je0 ?_)
   (try simp_all[Q1l,Q2u,Q8c,Qn])<;>grind
  ·try simp at h4
   refine jq [1,5,24] ?_
   refine jd (fun h6=> ?_) (fun h6=> ?_)
   ·try simp at h6
    refine Q0 [2] (jt 4 (k:=(jm 4 29 [1,33] (p:=fun b7_4=>by (try simp at b7_4);exact (jh hX (by simp[-Qr,-Qa,b7_4];rfl))) (q:=fun b7_4=>by (try simp at b7_4);exact (jh hX Z1)) (k:=(jt 1 (k:=(jm 3 34 [37] (p:=fun b7_9=>by (try simp at b7_9);exact (js hX 1 (by simp[-Qr,-Qa,b7_9];rfl) (Q8.call [] rfl Z3 rfl Z1 Z7 Z3u Q9e Z3 Z3 Z1 (jh hX Z1)))) (q:=fun b7_9=>by (try simp at b7_9);exact (jh hX Z1)) (k:=jr)))))))) ?_
    refine Q5 (je0 ?_)
    (try simp_all[Q1l,Q2u,Q8c,Qn])<;>grind
   ·try simp at h6
    refine jq [1,5,38] ?_
    refine jd (fun h8=> ?_) (fun h8=> ?_)
    ·try simp at h8
     refine Q0 [2] (jt 4 (k:=(jm 4 43 [1,47] (p:=fun b9_4=>by (try simp at b9_4);exact (jh hX (by simp[-Qr,-Qa,b9_4];rfl))) (q:=fun b9_4=>by (try simp at b9_4);exact (jh hX Z1)) (k:=(jt 1 (k:=(jm 3 48 [51] (p:=fun b9_9=>by (try simp at b9_9);exact (js hX 1 (by simp[-Qr,-Qa,b9_9];rfl) (Q8.call [] rfl Z3 rfl Z1 Z7 Z3u Q9e Z3 Z3 Z1 (jh hX Z1)))) (q:=fun b9_9=>by (try simp at b9_9);exact (jh hX Z1)) (k:=jr)))))))) ?_
     refine Q5 (je0 ?_)
     (try simp_all[Q1l,Q2u,Q8c,Qn])<;>grind
    ·try simp at h8
     refine jq [1,5,52] ?_
     refine jd (fun h10=> ?_) (fun h10=> ?_)
     ·try simp at h10
      refine Q0 [2] (jt 4 (k:=(jm 4 57 [1,61] (p:=Zcp) (q:=Zcb) (k:=(jt 1 (k:=(jm 4 62 [1,66] (p:=Zcb) (q:=Zcb) (k:=(jt 1 (k:=(jm 4 67 [71] (p:=Zcb) (q:=Zcb) (k:=jr)))))))))))) ?_
      refine Q5 (je0 ?_)
      (try simp_all[Q1l,Q2u,Q8c,Qn])<;>grind
     ·try simp at h10
      refine jq [1,5,72] ?_
      refine jd (fun h12=> ?_) (fun h12=> ?_)
      ·try simp at h12
       refine Q0 [2] (jt 4 (k:=(jm 4 77 [1,81] (p:=Zcb) (q:=Zcb) (k:=(jt 1 (k:=(jm 4 82 [1,86] (p:=Zcb) (q:=Zcb) (k:=(jt 1 (k:=(jm 4 87 [1,91] (p:=Zd1) (q:=Zcb) (k:=(jt 1 (k:=(jm 5 92 [97] (p:=fun b13_19=>by (try simp at b13_19);(have hlt:=(Q2e b13_19.2).1;have hat:=Q2r (n:=91) hlt);exact (jh hX Zav)) (q:=fun b13_19=>by (try simp at b13_19);exact (jh hX Z1)) (k:=jr)))))))))))))))) ?_
       refine Q5 (je0 ?_)
       by_cases hd:Q1n x.desc=true
       ·have hlt:=(Q2e hd).1
        have hat:=Q2r (n:=91) hlt
        have had:=Qr hlt
        (try simp_all[Q1l,Q2u])<;>grind
       ·(try simp_all[Q1l,Q2u])<;>grind
      ·try simp at h12
       refine jq [1,5,98] ?_
       refine jd (fun h14=> ?_) (fun h14=> ?_)
       ·try simp at h14
        refine Q0 [2] (jt 4 (k:=(jm 4 103 [1,107] (p:=Zcp) (q:=Zcb) (k:=(jt 1 (k:=(jm 4 108 [1,112] (p:=Zcp) (q:=Zcb) (k:=(jt 1 (k:=(jm 4 113 [117] (p:=Zd1) (q:=Zcb) (k:=jr)))))))))))) ?_
        refine Q5 (je0 ?_)
        (try simp_all[Q1l,Q2u,Q8c,Qn])<;>grind
       ·try simp at h14
        refine jq [1,118] ?_
        refine jd (fun h16=> ?_) (fun h16=> ?_)
        ·try simp at h16
         refine Q0 [2] (jt 4 (k:=(jm 4 123 [1,127] (p:=Zcp) (q:=Zcb) (k:=(jt 1 (k:=(jm 9 128 [1,137] (p:=by intro b;(try simp at b);exact (js hX 2 Z1 (Q8.call [] rfl Z3 rfl Z1 Z7 Z2m Q3c Z3 Z3 Z1 (js hX 1 Z1 (jm 4 132 [1,128,136] (p:=Zcb) (q:=Zcb) (k:=(jh hX Z1))))))) (q:=Zcb) (k:=(jt 1 (k:=(jm 6 138 [144] (p:=by intro b;(try simp at b);exact (js hX 2 Z1 (Q8.callF rfl Z3 rfl Z1 (by apply Q5j<;>exact Z6) Q34 Z8w (jh hX Z1)))) (q:=Zcb) (k:=jr)))))))))))) ?_
         refine Q5 (je0 ?_)
         (try simp_all[Q1l,Q2u,Q8c,Qn])<;>grind
        ·try simp at h16
         refine Q3 (jq [2] ?_)
         refine Q5 (je0 ?_)
         (try simp_all[Q1l,Q2u,Q8c,Qn])<;>grind
theorem Qk6:Q6 Tryz.prog 216:=jcb Tryz.func216
theorem Qjq{x:Hdl}{n:Int}(h:x.cls.length≤1099511627776):Ct Tryz.prog 216 [eH x,.int .i64 n] [] (.bool (Q3v n x)) []:=by
 refine jbS Tryz.func216 37 fun X hX=> ?_
 refine jq [1,2] ?_
 refine Q0 [4] (jt 4 (k:=(jm 6 8 [1,2,14] (p:=fun b1_4=>by (try simp at b1_4);exact (jh hX Z69)) (q:=fun b1_4=>by (try simp at b1_4);exact (jh hX Z1)) (k:=(jt 1 (k:=(jm 5 15 [1,2,20] (p:=fun b1_11=>by (try simp at b1_11);exact (jh hX (by simp[-Qr,-Qa,b1_11];rfl))) (q:=fun b1_11=>by (try simp at b1_11);exact (jh hX Z1)) (k:=(jt 1 (k:=(jm 4 21 [1,2,25] (p:=fun b1_17=>by (try simp at b1_17);exact (jh hX (by simp[-Qr,-Qa,b1_17];rfl))) (q:=fun b1_17=>by (try simp at b1_17);exact (jh hX Z1)) (k:=(jt 1 (k:=(jm 5 26 [2,31] (p:=fun b1_22=>by (try simp at b1_22);exact (jh hX (by simp[-Qr,-Qa,b1_22];rfl))) (q:=fun b1_22=>by (try simp at b1_22);exact (jh hX Z1)) (k:=(jt 1 (k:=(jm 4 32 [36] (p:=fun b1_28=>by (try simp at b1_28);exact (js hX 2 (by simp[-Qr,-Qa,b1_28];rfl) (Q8.call [] rfl Z3 rfl Z1 Z7 Z2m Q3c Z3 Z3 Z1 (jh hX Z1)))) (q:=fun b1_28=>by (try simp at b1_28);exact (jh hX Z1)) (k:=jr)))))))))))))))))))) ?_
 refine Q5 (je0 ?_)
 (try simp_all[Q3v])<;>grind
theorem Qiz:Q6 Tryz.prog 134:=jcb Tryz.func134
theorem Qio{x:Mth}(h:Q3q x≤1099511627776):Ct Tryz.prog 134 [eM x] [] (.bool (Q2t x)) []:=by
 simp only[Q3q] at h
 refine jbS Tryz.func134 180 fun X hX=> ?_
 refine jq [1] ?_
 refine Q0 [1,3] (jt 2 (k:=(jF (c:=(by apply Q5j<;>exact Zcf)) (a:=Q34) (k:=jr)))) ?_
 refine Q4 (Q0 [1,3,44] (jt 2 (k:=(jc [] (c:=(by apply Q8f<;>exact Zcf)) (a:=Q3c) (k:=(jt 2 (k:=(jm 4 15 [1,3,19] (p:=Zcb) (q:=Zcb) (k:=(jt 1 (k:=(jm 4 20 [1,3,24] (p:=Zcb) (q:=Zcb) (k:=(jt 1 (k:=(jm 4 25 [1,3,29] (p:=Zcb) (q:=Zcb) (k:=(jt 1 (k:=(jm 4 30 [1,3,34] (p:=fun b2_20=>by (try simp at b2_20);exact (jh hX Z1)) (q:=fun b2_20=>by (try simp at b2_20);exact (jh hX (by simp[-Qr,-Qa,b2_20];rfl))) (k:=(jt 1 (k:=(jm 4 35 [1,3,39] (p:=fun b2_25=>by (try simp at b2_25);exact (jh hX Z1)) (q:=fun b2_25=>by (try simp at b2_25);exact (jh hX (by simp[-Qr,-Qa,b2_25];rfl))) (k:=(jt 1 (k:=(jm 4 40 [1,3,44] (p:=fun b2_30=>by (try simp at b2_30);exact (jh hX Z1)) (q:=fun b2_30=>by (try simp at b2_30);exact (jh hX (by simp[-Qr,-Qa,b2_30];rfl))) (k:=jf)))))))))))))))))))))))))))) ?_)
 refine jd (fun h2=> ?_) (fun h2=> ?_)
 ·try simp at h2
  have hh:Q39 x=false:=by unfold Q39 Qn;grind
  refine jq [2] ?_
  refine Q5 (je Zw ?_)
  rw[Qby hh]
 ·try simp at h2
  have hh:Q39 x=true:=by unfold Q39 Qn;grind
  refine Q3 (Q4 (Q0 [1,3,46] (jh hX Zw) ?_))
  refine jd (fun h4=> ?_) (fun h4=> ?_)
  ·try simp at h4
   refine Q0 [2] (js hX 4 Zw (jm 4 50 [1,54] (p:=Zcx) (q:=Zcb) (k:=(jt 1 (k:=(jm 5 55 [1,60] (p:=Zcx) (q:=Zcb) (k:=(jt 1 (k:=(jm 5 61 [1,66] (p:=Zcx) (q:=Zcb) (k:=(jt 1 (k:=(jm 4 67 [1,71] (p:=Zcx) (q:=Zcb) (k:=(jt 1 (k:=(jm 4 72 [1,76] (p:=Zcx) (q:=Zcb) (k:=(jt 1 (k:=(jm 4 77 [81] (p:=Zcx) (q:=Zcb) (k:=jr))))))))))))))))))))))) ?_
   refine Q5 (je Zw ?_)
   rw[Q6t hh h4]
   simp[Qn];grind
  ·try simp at h4
   refine Q3 (Q0 [1,3,4] (jh hX Zw) ?_)
   refine Q0 [1,3,4,5] (jh hX Zw) ?_
   refine Q4 (Q0 [1,3,4,5,91] (jh hX Zw) ?_)
   refine' Qbi [1,3,4,5] Z7 Z15 (fun h8=> ?a1_1) (fun h8=> ?a0_1) ?ak_1
   case a1_1=>
    try simp at h8
    refine Qb (jh hX Z9) ?_
    exact ⟨rfl,Eq.trans Z22 Z15⟩
   case a0_1=>
    try simp at h8
    refine Q3 ?_
    exact ⟨rfl,Eq.trans Z22 Z15⟩
   case ak_1=>
    refine Q15 (Le.of_eq Z7) ?_
    have hpl:=Q7x x.desc
    have hw:IntKind.i64.wrap (((Qd x.desc).params.length:Int)+1)=(Qd x.desc).params.length+1:=Qc Zb Zb
    simp only[hw]
    refine Q4 (Q0 [1,3,4,111] (jt 3 (k:=(jm 3 96 [1,3,4,5,99] (p:=Zcb) (q:=Zcb) (k:=(jt 1 (k:=(jm 5 100 [1,3,4,105] (p:=fun b10_7=>by (try simp at b10_7);exact (jh hX Z1)) (q:=fun b10_7=>by (try simp at b10_7);exact (jh hX (by simp[-Qr,-Qa,h2,b10_7];rfl))) (k:=(jt 1 (k:=(jm 5 106 [1,3,4,111] (p:=fun b10_13=>by (try simp at b10_13);exact (jh hX Z1)) (q:=fun b10_13=>by (try simp at b10_13);exact (jh hX (by simp[-Qr,-Qa,h2,b10_13];rfl))) (k:=jf)))))))))))) ?_)
    refine jd (fun h10=> ?_) (fun h10=> ?_)
    ·try simp at h10
     rw[Ql1 h4 (by unfold Qgi;grind)]
     refine jq [2] ?_
     refine Q5 (je (by simp[h2,h10];rfl) ?_)
     rfl
    ·try simp at h10
     rw[Qor hh h4 (by unfold Qgi;grind)]
     refine Q3 (Q4 (jq [1,3,4,6] ?_))
     refine Q7 (Qh (α:=Nat) [1,3,4,6] (fun i=>[(6,.int .i64 i)]) (fun i=>[]) (fun i=>i≤x.code.length∧(x.code.drop i).all (Q69 x.code.length)=x.code.all (Q69 x.code.length)) (fun i=>x.code.length-i) (0) (fun i=>by simp;rfl) Z3 ?_ ?_)
     ·simp
     rintro i ⟨hi,hI⟩
     refine Q4 (Q0 [1,3,4,6,116] (jh hX (by simp[h2,h10];rfl)) ?_)
     refine jd (fun h13=> ?_) (fun h13=> ?_)
     ·try simp at h13
      rw[Q5r h13] at hI
      refine Q3 (Q4 (Q7 (Q0 [1,3,4,6,145] (js hX 5 (by simp[h2,h10,h13];rfl) (jc [] (c:=(by apply Qnb<;>exact Zcf)) (a:=Qnz) (k:=(jt 2 (k:=(jm 19 126 [1,3,4,6,145] (p:=Zcb) (q:=by intro b;(try simp at b);exact (js hX 6 (by simp[-Qr,-Qa,h2,h10,h13];rfl) (Q8.call [] rfl Z3 rfl Z1 Z7 (by apply Qh2<;>exact Zcf) Qbd Z3 Z3 Z1 (js hX 2 Z1 (jm 9 135 [1,3,4,6,126,144] (p:=by intro b;(try simp at b);exact (jh hX (by simp[-Qr,-Qa,h2,h10,h13];rfl))) (q:=Zcb) (k:=(jh hX Z1))))))) (k:=jf))))))) ?_)))
      refine jd (fun h15=> ?_) (fun h15=> ?_)
      ·try simp at h15
       refine jq [2] ?_
       refine Q5 (je (by simp[h2,h10,h13,h15];rfl) ?_)
       simp only[Qa h13] at h15
       have:Q69 x.code.length x.code[i]=false:=by unfold Q69;grind
       simp[←hI,this]
      ·try simp at h15
       simp only[Qa h13] at h15
       have h15b:Q69 x.code.length x.code[i]=true:=by unfold Q69;grind
       rw[h15b,Bool.true_and] at hI
       refine Q3 (Qb (jh hX Z9) ?_)
       refine Qo (i+1) [1,3,4,6] (by simp[h2,h10,h13,h15];try (simp (disch:=omega) only[Qc])) ?_ ?_
       ·exact ⟨by omega,hI⟩
       ·omega
     ·try simp at h13
      rw[List.drop_eq_nil_of_le h13] at hI
      refine Ql (Q4 (jq [1,3,4,7] ?_))
      refine Q7 (Qh (α:=Nat) [1,3,4,7] (fun i=>[(7,.int .i64 i)]) (fun i=>[]) (fun i=>i≤x.hdls.length∧(x.hdls.drop i).all (Q3v x.code.length)=x.hdls.all (Q3v x.code.length)) (fun i=>x.hdls.length-i) (0) (fun i=>by simp;rfl) Z3 ?_ ?_)
      ·simp
      rintro i ⟨hi2,hI2⟩
      refine Q4 (Q0 [1,3,4,7,150] (jh hX (by simp[h2,h10,h13];rfl)) ?_)
      refine jd (fun h18=> ?_) (fun h18=> ?_)
      ·try simp at h18
       rw[Q5r h18] at hI2
       refine Q3 (Q4 (Q7 (Q0 [1,3,4,7,160] (js hX 6 Z9n (jc [] (c:=(by apply Qjq<;>exact Zcf)) (a:=Qk6) (k:=jr))) ?_)))
       refine jd (fun h20=> ?_) (fun h20=> ?_)
       ·try simp at h20
        refine jq [2] ?_
        refine Q5 (je Z9n ?_)
        simp[←hI2,h20]
       ·try simp at h20
        rw[h20,Bool.true_and] at hI2
        refine Q3 (Qb (jh hX Z9) ?_)
        refine Qo (i+1) [1,3,4,7] (by simp[h2,h10,h13,h18];try (simp (disch:=omega) only[Qc])) ?_ ?_
        ·exact ⟨by omega,hI2⟩
        ·omega
      ·try simp at h18
       rw[List.drop_eq_nil_of_le h18] at hI2
       refine Ql (Q0 [2] (js hX 4 Z9n (jm 15 164 [179] (p:=Zcb) (q:=by intro b;(try simp at b);exact (js hX 4 Z8q (jm 4 168 [3,164,172] (p:=by intro b;(try simp at b);exact (jh hX Z8q)) (q:=Zcb) (k:=(js hX 1 Z1 (jm 5 173 [164,178] (p:=by intro b;(try simp at b);exact (jh hX Z8q)) (q:=Zcb) (k:=(jh hX Z1)))))))) (k:=jr))) ?_)
       refine Q5 (je Z9n ?_)
       simp[←hI,←hI2,Qn];grind
theorem Qk8:Q6 Tryz.prog 72:=jcb Tryz.func72
theorem Qjs{x:Cls}(h:Q1r x≤1099511627776):Ct Tryz.prog 72 [eC x] [] (.bool (Q3l x)) []:=by
 simp only[Q1r] at h
 refine jbS Tryz.func72 137 fun X hX=> ?_
 refine jq [1] ?_
 refine Q4 (Q0 [1,44] (jt 2 (k:=(jc [] (c:=Z26) (a:=Q3c) (k:=(jt 2 (k:=(jm 5 12 [1,17] (p:=Zcb) (q:=by intro b;(try simp at b);exact (js hX 2 Z1 (Q8.call [] rfl Z3 rfl Z1 Z7 Z26 Q3c Z3 Z3 Z1 (jh hX Z1)))) (k:=(jt 1 (k:=(jm 6 18 [1,24] (p:=Zcb) (q:=Zcb) (k:=(jt 1 (k:=(jm 7 25 [1,32] (p:=Zcb) (q:=by intro b;(try simp at b);exact (js hX 3 Z1 (jm 3 28 [1,25,31] (p:=Zcb) (q:=Zcb) (k:=(jh hX Z1))))) (k:=(jt 1 (k:=(jm 5 33 [1,38] (p:=Zcb) (q:=Zcb) (k:=(jt 1 (k:=(jm 5 39 [1,44] (p:=fun b1_32=>by (try simp at b1_32);exact (jh hX Z1)) (q:=fun b1_32=>by (try simp at b1_32);exact (jh hX (by simp[-Qr,-Qa,b1_32];rfl))) (k:=jf)))))))))))))))))))))))) ?_)
 refine jd (fun h1=> ?_) (fun h1=> ?_)
 ·try simp at h1
  have hh:Q9l x=false:=by unfold Q9l;grind
  refine jq [2] ?_
  refine Q5 (je Zs ?_)
  simp[Q3l,hh]
 ·try simp at h1
  have hh:Q9l x=true:=by unfold Q9l;grind
  rw[show Q3l x=(Qc3 [] x.fields&&Qbx x.abstr [] x.methods) from by simp[Q3l,hh]]
  refine Q3 (Q4 (jq [1,3] ?_))
  refine Q7 (Qh (α:=Nat) [1,3] (fun i=>[(3,.int .i64 i)]) (fun i=>[]) (fun i=>i≤x.fields.length∧Qc3 (x.fields.take i) (x.fields.drop i)=Qc3 [] x.fields) (fun i=>x.fields.length-i) (0) (fun i=>by simp;rfl) Z3 ?_ ?_)
  ·simp
  rintro i ⟨hi,hI⟩
  refine Q4 (Q0 [1,3,49] (jh hX Zs) ?_)
  refine jd (fun h4=> ?_) (fun h4=> ?_)
  ·try simp at h4
   rw[List.drop_eq_getElem_cons h4] at hI
   simp only[Qc3] at hI
   refine Q3 (Q4 (Q7 (Q4 (Q0 [1,3,69] (js hX 6 Z5r (jc [] (c:=Z26) (a:=Q3c) (k:=(jt 2 (k:=(jm 9 60 [1,3,69] (p:=Zcb) (q:=by intro b;(try simp at b);exact (js hX 6 Zae (Q8.call [] rfl Z3 rfl Z1 Z7 (by apply Qc6<;>exact Z1j) Q8o Z3 Z3 Z1 (jh hX Z1)))) (k:=jf))))))) ?_))))
   refine jd (fun h6=> ?_) (fun h6=> ?_)
   ·try simp at h6
    refine jq [2] ?_
    refine Q5 (je Z5r ?_)
    have h6b:(Q2j x.fields[i].name&&Q1n x.fields[i].type)=false:=by simp only[Qa h4] at h6;grind
    simp[←hI,h6b]
   ·try simp at h6
    have h6b:(Q2j x.fields[i].name&&Q1n x.fields[i].type)=true:=by simp only[Qa h4] at h6;grind
    refine Q3 (jq [1,3,4] ?_)
    refine Q7 (Qh (α:=Nat) [1,3,4] (fun k=>[(4,.int .i64 k)]) (fun k=>[]) (fun k=>k≤i∧((x.fields.take i).drop k).all (fun g=> !decide (g.name=x.fields[i].name))=(x.fields.take i).all (fun g=> !decide (g.name=x.fields[i].name))) (fun k=>i-k) (0) (fun k=>by simp;rfl) Z3 ?_ ?_)
    ·simp
    rintro k ⟨hk,hK⟩
    refine Q4 (jq [1,3,4,72] ?_)
    refine jd (fun h9=> ?_) (fun h9=> ?_)
    ·try simp at h9
     have hkl:k<(x.fields.take i).length:=by simp;omega
     have hkf:k<x.fields.length:=by omega
     rw[Q5r hkl,List.getElem_take] at hK
     refine Q3 (Q4 (Q7 (jD [1,3,4,87] (jQ (by simp[h1,h4,h9,hkf];rfl)) ?_)))
     refine jd (fun h11=> ?_) (fun h11=> ?_)
     ·try simp at h11
      refine jq [2] ?_
      refine Q5 (je (by simp[h1,h4,h9,hkf];rfl) ?_)
      simp[←hI,←hK,h11]
     ·try simp at h11
      simp only[h11,decide_false,Bool.not_false,Bool.true_and] at hK
      refine Q3 (Qb (jh hX Z9) ?_)
      refine Qo (k+1) [1,3,4] (by simp[h1,h4,h9,hkf];try (simp (disch:=omega) only[Qc])) ?_ ?_
      ·exact ⟨by omega,hK⟩
      ·omega
    ·try simp at h9
     rw[List.drop_eq_nil_of_le Z3l] at hK
     simp only[List.all_nil] at hK
     refine Ql (Qb (jh hX Z9) ?_)
     refine Qo (i+1) [1,3] (by simp[h1,h4,h9];try (simp (disch:=omega) only[Qc])) ?_ ?_
     ·exact ⟨by omega,by rw[List.take_succ_eq_append_getElem h4,←hI,h6b,←hK];simp⟩
     ·omega
  ·try simp at h4
   rw[List.drop_eq_nil_of_le h4] at hI
   simp only[Qc3] at hI
   rw[←hI,Bool.true_and]
   refine Ql (Q4 (jq [1,5] ?_))
   refine Q7 (Qh (α:=Nat) [1,5] (fun i=>[(5,.int .i64 i)]) (fun i=>[]) (fun i=>i≤x.methods.length∧Qbx x.abstr (x.methods.take i) (x.methods.drop i)=Qbx x.abstr [] x.methods) (fun i=>x.methods.length-i) (0) (fun i=>by simp;rfl) Z3 ?_ ?_)
   ·simp
   rintro i ⟨hi2,hI2⟩
   refine Q4 (Q0 [1,5,92] (jh hX Z5r) ?_)
   refine jd (fun h14=> ?_) (fun h14=> ?_)
   ·try simp at h14
    rw[List.drop_eq_getElem_cons h14] at hI2
    simp only[Qbx] at hI2
    refine Q3 (Q4 (Q7 (Q0 [1,5,6] (jh hX Zb5) ?_)))
    refine Q4 (Q0 [1,5,6,111] (js hX 1 Zb5 (jc [] (c:=(by apply Qio<;>exact Z1j)) (a:=Qiz) (k:=(jt 2 (k:=(jm 8 103 [1,5,6,111] (p:=Zcb) (q:=by intro b;(try simp at b);exact (js hX 3 (by simp[-Qr,-Qa,h1,h4,h14];rfl) (jm 4 106 [1,5,6,103,110] (p:=by intro b;(try simp at b);exact (jh hX (by simp[-Qr,-Qa,h1,h4,h14];rfl))) (q:=Zcb) (k:=(jh hX Z1))))) (k:=jf))))))) ?_)
    refine jd (fun h17=> ?_) (fun h17=> ?_)
    ·try simp at h17
     refine jq [2] ?_
     refine Q5 (je Zb5 ?_)
     have h17b:(Q2t x.methods[i]&& !(x.methods[i].abstr&& !x.abstr))=false:=by grind
     rw[←hI2,h17b,Bool.false_and,Bool.false_and]
    ·try simp at h17
     have h17b:(Q2t x.methods[i]&& !(x.methods[i].abstr&& !x.abstr))=true:=by grind
     refine Q3 (jq [1,5,6,7] ?_)
     refine Q7 (Qh (α:=Nat) [1,5,6,7] (fun k=>[(7,.int .i64 k)]) (fun k=>[]) (fun k=>k≤i∧((x.methods.take i).drop k).all (fun g=> !(decide (g.name=x.methods[i].name)&&decide (g.desc=x.methods[i].desc)))=(x.methods.take i).all (fun g=> !(decide (g.name=x.methods[i].name)&&decide (g.desc=x.methods[i].desc)))) (fun k=>i-k) (0) (fun k=>by simp;rfl) Z3 ?_ ?_)
     ·simp
     rintro k ⟨hk2,hK2⟩
     refine Q4 (jq [1,5,6,7,114] ?_)
     refine jd (fun h20=> ?_) (fun h20=> ?_)
     ·try simp at h20
      have hkl:k<(x.methods.take i).length:=by simp;omega
      have hkf:k<x.methods.length:=by omega
      rw[Q5r hkl,List.getElem_take] at hK2
      refine Q3 (Q4 (Q7 (jD [1,5,6,7,136] (jS 10 (by simp[h1,h4,h14,h20,hkf];rfl) (jM 10 126 [1,5,6,7,136] (p:=by intro b;(try simp at b);exact (jQ (by simp[-Qr,-Qa,h1,h4,h14,h20,hkf];rfl))) (q:=Zcj) (k:=(Q18.fin Z22)))) ?_)))
      refine jd (fun h22=> ?_) (fun h22=> ?_)
      ·try simp at h22
       refine jq [2] ?_
       refine Q5 (je (by simp[h1,h4,h14,h20,hkf];rfl) ?_)
       simp only[Qa hkf] at h22
       rw[←hI2,←hK2,decide_eq_true h22.1,decide_eq_true h22.2]
       simp
      ·try simp at h22
       simp only[Qa hkf] at h22
       have h22b:(!(decide (x.methods[k].name=x.methods[i].name)&&decide (x.methods[k].desc=x.methods[i].desc)))=true:=by simp;exact Decidable.not_or_of_imp h22
       rw[h22b,Bool.true_and] at hK2
       refine Q3 (Qb (jh hX Z9) ?_)
       refine Qo (k+1) [1,5,6,7] (by simp[h1,h4,h14,h20,hkf];try (simp (disch:=omega) only[Qc])) ?_ ?_
       ·exact ⟨by omega,hK2⟩
       ·omega
     ·try simp at h20
      rw[List.drop_eq_nil_of_le Z3l] at hK2
      simp only[List.all_nil] at hK2
      refine Ql (Qb (jh hX Z9) ?_)
      refine Qm (i+1) [1,5] 1 Z1r Z3 (by simp[h1,h4,h14,h20];try (simp (disch:=omega) only[Qc])) ?_ ?_
      ·exact ⟨by omega,by rw[List.take_succ_eq_append_getElem h14,←hI2,h17b,←hK2];simp⟩
      ·omega
   ·try simp at h14
    rw[List.drop_eq_nil_of_le h14] at hI2
    simp only[Qbx] at hI2
    rw[←hI2]
    refine Ql (jq [2] ?_)
    refine Q5 (je Zb5 ?_)
    simp
theorem Qpq:Q6 Tryz.prog 135:=jcb Tryz.func135
theorem Qpc:Ct Tryz.prog 135 [] [] (.lst true 1 (Q3k.map V.str)) []:=by
 refine jbS Tryz.func135 2 fun X hX=> ?_
 refine jq [] ?_
 refine jq [0] ?_
 refine Q5 (je0 ?_)
 simp[Q3k]
theorem Q5p:Q6 Tryz.prog 73:=jcb Tryz.func73
theorem Q9b{n:Str}:Ct Tryz.prog 73 [.str n] [] (.int .i64 (Q1u n)) []:=by
 have hbl:=Qhu
 refine jbS Tryz.func73 19 fun X hX=> ?_
 refine jq [0] ?_
 refine Q0 [0,3] (jc [] (c:=(by apply Qpc<;>exact Z6)) (a:=Qpq) (k:=jr)) ?_
 refine Q4 (jq [0,3,4] ?_)
 refine Q7 (Qh (α:=Nat) [0,3,4] (fun i=>[(4,.int .i64 i)]) (fun i=>[]) (fun i=>i≤8∧Q74 n (Q3k.drop i) i=Q1u n) (fun i=>8-i) (0) (fun i=>by simp;rfl) Z3 ?_ ?_)
 ·simp[Q1u]
 rintro i ⟨hi,hI⟩
 refine Q4 (jq [0,3,4,9] ?_)
 refine jd (fun h3=> ?_) (fun h3=> ?_)
 ·try simp at h3
  rw[List.drop_eq_getElem_cons h3] at hI
  simp only[Q74] at hI
  refine Q3 (Q4 (Q7 (Q0 [0,3,4,17] (jh hX Z3i) ?_)))
  refine jd (fun h5=> ?_) (fun h5=> ?_)
  ·try simp at h5
   refine jq [2] ?_
   refine Q5 (je Z3i ?_)
   simp[←hI,h5]
  ·try simp at h5
   refine Q3 (Qb (jh hX Z9) ?_)
   refine Qo (i+1) [0,3,4] Z82 ?_ ?_
   ·exact ⟨by omega,by simp[←hI,h5]⟩
   ·omega
 ·try simp at h3
  refine Ql (jq [2] ?_)
  refine Q5 (je Z3i ?_)
  simp[←hI,List.drop_eq_nil_of_le h3,Q74]
theorem Q1m:Q6 Tryz.prog 74:=jcb Tryz.func74
theorem Q4m{l:List Cls}{n:Str}(hl:l.length≤1099511627776):Ct Tryz.prog 74 [.lst false 6 (l.map eC),.str n] [] (.int .i64 (Qi n l 0)) []:=by
 refine jbS Tryz.func74 20 fun X hX=> ?_
 refine jq [0,1] ?_
 refine Q4 (jq [0,1,5] ?_)
 refine Q7 (Qh (α:=Nat) [0,1,5] (fun i=>[(5,.int .i64 i)]) (fun i=>[]) (fun i=>i≤l.length∧Qi n (l.drop i) i=Qi n l 0) (fun i=>l.length-i) (0) (fun i=>by simp;rfl) Z3 ?_ ?_)
 ·simp
 rintro i ⟨hi,hI⟩
 refine Q4 (jq [0,1,5,9] ?_)
 refine jd (fun h2=> ?_) (fun h2=> ?_)
 ·try simp at h2
  rw[List.drop_eq_getElem_cons h2] at hI
  simp only[Qi] at hI
  refine Q3 (Q4 (Q7 (Q0 [0,1,5,18] (jh hX Zw) ?_)))
  refine jd (fun h4=> ?_) (fun h4=> ?_)
  ·try simp at h4
   refine jq [4] ?_
   refine Q5 (je Zw ?_)
   simp[←hI,h4]
  ·try simp at h4
   refine Q3 (Qb (jh hX Z9) ?_)
   refine Qo (i+1) [0,1,5] Z1x ?_ ?_
   ·exact ⟨by omega,by simp[←hI,h4]⟩
   ·omega
 ·try simp at h2
  refine Ql (jq [4] ?_)
  refine Q5 (je Zw ?_)
  simp[←hI,List.drop_eq_nil_of_le h2,Qi]
theorem Q5o:Q6 Tryz.prog 75:=jcb Tryz.func75
theorem Q5i{l:List Cls}{n:Str}(hl:l.length≤1099511627776):Ct Tryz.prog 75 [.lst false 6 (l.map eC),.str n] [] (.bool (isKnown l n)) []:=by
 refine jbS Tryz.func75 14 fun X hX=> ?_
 refine jq [0,1] ?_
 refine Q0 [4] (jt 1 (k:=(jc [] (c:=Z7m) (a:=Q5p) (k:=(jt 2 (k:=(jm 5 8 [13] (p:=Zcb) (q:=by intro b;(try simp at b);exact (js hX 2 Z1 (Q8.call [] rfl Z3 rfl Z1 Z7 Z7t Q1m Z3 Z3 Z1 (jh hX Z1)))) (k:=jr)))))))) ?_
 refine Q5 (je0 ?_)
 (try simp_all[isKnown])
theorem Q8p:Q6 Tryz.prog 217:=jcb Tryz.func217
theorem Qc7{t:Str}(ht:t.length≤1099511627776):Ct Tryz.prog 217 [.str t] [] (.str (Q1c t)) []:=by
 refine jbS Tryz.func217 24 fun X hX=> ?_
 refine jq [0] ?_
 refine Q4 (Q0 [0,10] (jt 4 (k:=(jm 4 6 [0,10] (p:=Zcb) (q:=by intro b;(try simp at b);exact (js hX 1 Z1 (Q8.call [] rfl Z3 rfl Z1 Z7 Z50 Q8o Z3 Z3 Z1 (jh hX Z1)))) (k:=jf)))) ?_)
 refine jd (fun h1=> ?_) (fun h1=> ?_)
 ·try simp at h1
  have hx:Q1c t=[]:=by
   rw[Q1c,if_neg]
   rintro e
   have:=(Q2e e).2
   rcases h1 with h1|h1
   ·omega
   ·rw[h1] at e;cases e
  refine jq [2] ?_
  refine Q5 (je Zs ?_)
  rw[hx]
 ·try simp at h1
  have hlt:=(Q2e h1.2).1
  have hlt1:1≤t.length:=hlt
  have hlong:=Qg8 h1.2
  refine Q3 (Q4 (Q0 [0,13] (jh hX (by simp[h1,hlt,hlt1];rfl)) ?_))
  refine' Qbi [0] Z7 Z15 (fun h3=> ?a1_1) (fun h3=> ?a0_1) ?ak_1
  case a1_1=>
   try simp at h3
   refine Qb (jh hX (by simp[h1,hlt,hlt1];rfl)) ?_
   exact ⟨rfl,Eq.trans Z22 Z15⟩
  case a0_1=>
   try simp at h3
   refine Q3 ?_
   exact ⟨rfl,Eq.trans Z22 Z15⟩
  case ak_1=>
   refine Q15 (Le.of_eq Z7) ?_
   generalize hu:(bif _ then _ else t)=u
   have hu2:u=if Q23 t 0 91 then t.drop 1 else t:=by rw[←hu,Q2r hlt];simp[cond_eq_ite]
   have hx:Q1c t=Qjg u:=by rw[Q1c,if_pos h1.2,hu2];split<;>rfl
   rw[hx]
   clear hu hx
   have hu0:0<u.length:=by
    rw[hu2]
    split
    ·rename_i hb
     have:=hlong.1 hb
     simp;omega
    ·exact hlt
   have hul:u.length≤t.length:=by rw[hu2];split<;>simp
   have hu3:Q23 u 0 73=false→2<u.length:=by
    intro hb
    rw[hu2] at hb⊢
    split at hb
    ·rename_i hc
     rw[Qtz] at hb
     have:=hlong.2.1 hc hb
     rw[if_pos hc];simp;omega
    ·rename_i hc
     rw[if_neg hc]
     exact hlong.2.2 (by simpa using hc) hb
   have hat:=Q2r (n:=73) hu0
   refine Q4 (Q0 [0,18] (jh hX (by simp[h1,hlt,hlt1,hu0];rfl)) ?_)
   refine jd (fun h5=> ?_) (fun h5=> ?_)
   ·try simp at h5
    refine jq [2] ?_
    refine Q5 (je (by simp[h1,hlt,hlt1,hu0];rfl) ?_)
    rw[Qjg,if_pos (by rw[hat];simpa using h5)]
   ·try simp at h5
    have hat2:Q23 u 0 73=false:=by rw[hat];simpa using h5
    have hu4:=hu3 hat2
    have hs1:0≤(u.length:Int)-1:=by omega
    have hs2:((u.length:Int)-1).toNat=u.length-1:=by omega
    have hs3:u.length-1≤u.length:=by omega
    have hs4:1≤u.length-1:=by omega
    have hs5:1≤u.length:=hu0
    refine Q3 (Q0 [2] (jh hX (by simp[h1,hlt,hlt1,hu0,hs1,hs2,hs3,hs4,hs5];(try (simp (disch:=omega) only[Qc];(try simp[h1,hlt,hlt1,hu0,hs1,hs2,hs3,hs4,hs5])));rfl)) ?_)
    refine Q5 (je (by simp[h1,hlt,hlt1,hu0,hs1,hs2,hs3,hs4,hs5];rfl) ?_)
    rw[Qjg,if_neg (by simp[hat2])]
    simp[seg]
theorem Qa4:Q6 Tryz.prog 136:=jcb Tryz.func136
theorem Qf3{l:List Cls}{t:Str}(hl:l.length≤1099511627776)(ht:t.length≤1099511627776):Ct Tryz.prog 136 [.lst false 6 (l.map eC),.str t] [] (.bool (Q53 l t)) []:=by
 refine jbS Tryz.func136 15 fun X hX=> ?_
 refine jq [0,1] ?_
 refine Q0 [0,5] (jt 1 (k:=(jc [] (c:=Z7h) (a:=Q8p) (k:=jr)))) ?_
 refine Q0 [4] (jt 3 (k:=(jm 4 10 [14] (p:=Zcb) (q:=by intro b;(try simp at b);exact (js hX 2 Z1 (Q8.call [] rfl Z3 rfl Z1 Z7 (by apply Q5i<;>exact Z6) Q5o Z3 Z3 Z1 (jh hX Z1)))) (k:=jr)))) ?_
 refine Q5 (je0 ?_)
 (try simp_all[Q53])
theorem Qpp:Q6 Tryz.prog 137:=jcb Tryz.func137
theorem Qpb{l:List Cls}{t:Str}(hl:l.length≤1099511627776)(ht:t.length≤1099511627776):Ct Tryz.prog 137 [.lst false 6 (l.map eC),.str t] [] (.bool (Qgv l t)) []:=by
 have hpl:=Q7x t
 have hps:=Q6k t
 refine jbS Tryz.func137 29 fun X hX=> ?_
 refine jq [0,1] ?_
 refine Q0 [0,5] (jt 1 (k:=(jF (c:=(by apply Q5j<;>exact Z6b)) (a:=Q34) (k:=jr)))) ?_
 refine Q4 (jq [0,5,6] ?_)
 refine Q7 (Qh (α:=Nat) [0,5,6] (fun i=>[(6,.int .i64 i)]) (fun i=>[]) (fun i=>i≤(Qd t).params.length∧((Qd t).params.drop i).all (Q53 l)=(Qd t).params.all (Q53 l)) (fun i=>(Qd t).params.length-i) (0) (fun i=>by simp;rfl) Z3 ?_ ?_)
 ·simp
 rintro i ⟨hi,hI⟩
 refine Q4 (jq [0,5,6,14] ?_)
 refine jd (fun h3=> ?_) (fun h3=> ?_)
 ·try simp at h3
  rw[Q5r h3] at hI
  refine Q3 (Q4 (Q7 (Q0 [0,5,6,24] (js hX 6 Z3i (jc [] (c:=Z68) (a:=Qa4) (k:=jr))) ?_)))
  refine jd (fun h5=> ?_) (fun h5=> ?_)
  ·try simp at h5
   refine jq [4] ?_
   refine Q5 (je Z3i ?_)
   simp[Qgv,←hI,h5]
  ·try simp at h5
   rw[h5,Bool.true_and] at hI
   refine Q3 (Qb (jh hX Z9) ?_)
   refine Qo (i+1) [0,5,6] Z82 ?_ ?_
   ·exact ⟨by omega,hI⟩
   ·omega
 ·try simp at h3
  rw[List.drop_eq_nil_of_le h3] at hI
  refine Ql (Q0 [4] (js hX 3 Z3i (jc [] (c:=Z68) (a:=Qa4) (k:=jr))) ?_)
  refine Q5 (je Z3i ?_)
  simp[Qgv,←hI]
theorem Qnx:Q6 Tryz.prog 76:=jcb Tryz.func76
theorem Qn6{l:List Cls}{x:Cls}(hl:l.length≤1099511627776)(h:Q1r x≤1099511627776):Ct Tryz.prog 76 [.lst false 6 (l.map eC),eC x] [] (.bool (Qs8 l x)) []:=by
 simp only[Q1r] at h
 refine jbS Tryz.func76 39 fun X hX=> ?_
 refine jq [0,3] ?_
 refine Q4 (jq [0,3,5] ?_)
 refine Q7 (Qh (α:=Nat) [0,3,5] (fun i=>[(5,.int .i64 i)]) (fun i=>[]) (fun i=>i≤x.fields.length∧(x.fields.drop i).all (fun f=>Q53 l f.type)=x.fields.all (fun f=>Q53 l f.type)) (fun i=>x.fields.length-i) (0) (fun i=>by simp;rfl) Z3 ?_ ?_)
 ·simp
 rintro i ⟨hi,hI⟩
 refine Q4 (jq [0,3,5,11] ?_)
 refine jd (fun h2=> ?_) (fun h2=> ?_)
 ·try simp at h2
  rw[Q5r h2] at hI
  refine Q3 (Q4 (Q7 (Q0 [0,3,5,22] (js hX 7 Zw (jc [] (c:=(by apply Qf3<;>exact Z3d)) (a:=Qa4) (k:=jr))) ?_)))
  refine jd (fun h4=> ?_) (fun h4=> ?_)
  ·try simp at h4
   refine jq [4] ?_
   refine Q5 (je Zw ?_)
   simp[Qs8,←hI,h4]
  ·try simp at h4
   rw[h4,Bool.true_and] at hI
   refine Q3 (Qb (jh hX Z9) ?_)
   refine Qo (i+1) [0,3,5] Z1x ?_ ?_
   ·exact ⟨by omega,hI⟩
   ·omega
 ·try simp at h2
  rw[List.drop_eq_nil_of_le h2] at hI
  refine Ql (Q4 (jq [0,3,6] ?_))
  refine Q7 (Qh (α:=Nat) [0,3,6] (fun i=>[(6,.int .i64 i)]) (fun i=>[]) (fun i=>i≤x.methods.length∧(x.methods.drop i).all (fun m=>Qgv l m.desc)=x.methods.all (fun m=>Qgv l m.desc)) (fun i=>x.methods.length-i) (0) (fun i=>by simp;rfl) Z3 ?_ ?_)
  ·simp
  rintro i ⟨hi2,hI2⟩
  refine Q4 (Q0 [0,3,6,27] (jh hX Zw) ?_)
  refine jd (fun h7=> ?_) (fun h7=> ?_)
  ·try simp at h7
   rw[Q5r h7] at hI2
   refine Q3 (Q4 (Q7 (Q0 [0,3,6,38] (js hX 7 Z5s (jc [] (c:=(by apply Qpb<;>exact Z3d)) (a:=Qpp) (k:=jr))) ?_)))
   refine jd (fun h9=> ?_) (fun h9=> ?_)
   ·try simp at h9
    refine jq [4] ?_
    refine Q5 (je Z5s ?_)
    simp[Qs8,←hI2,h9]
   ·try simp at h9
    rw[h9,Bool.true_and] at hI2
    refine Q3 (Qb (jh hX Z9) ?_)
    refine Qo (i+1) [0,3,6] (by simp[h2,h7];try (simp (disch:=omega) only[Qc])) ?_ ?_
    ·exact ⟨by omega,hI2⟩
    ·omega
  ·try simp at h7
   rw[List.drop_eq_nil_of_le h7] at hI2
   refine Ql (jq [4] ?_)
   refine Q5 (je Z5s ?_)
   simp[Qs8,←hI,←hI2]
theorem Q6b:Q6 Tryz.prog 138:=jcb Tryz.func138
theorem Qc5{x:Cls}{n d:Str}(h:Q1r x≤1099511627776):Ct Tryz.prog 138 [eC x,.str n,.str d] [] (.int .i64 (Q1j n d x.methods 0)) []:=by
 simp only[Q1r] at h
 refine jbS Tryz.func138 34 fun X hX=> ?_
 refine jq [1,2,3] ?_
 refine Q4 (jq [1,2,3,7] ?_)
 refine Q7 (Qh (α:=Nat) [1,2,3,7] (fun i=>[(7,.int .i64 i)]) (fun i=>[]) (fun i=>i≤x.methods.length∧Q1j n d (x.methods.drop i) i=Q1j n d x.methods 0) (fun i=>x.methods.length-i) (0) (fun i=>by simp;rfl) Z3 ?_ ?_)
 ·simp
 rintro i ⟨hi,hI⟩
 refine Q4 (jq [1,2,3,7,12] ?_)
 refine jd (fun h2=> ?_) (fun h2=> ?_)
 ·try simp at h2
  rw[List.drop_eq_getElem_cons h2] at hI
  simp only[Q1j] at hI
  refine Q3 (Q4 (Q7 (Q0 [1,2,3,7,32] (js hX 9 Zw (jm 9 23 [1,2,3,7,32] (p:=Zcx) (q:=Zcb) (k:=jf))) ?_)))
  refine jd (fun h4=> ?_) (fun h4=> ?_)
  ·try simp at h4
   refine jq [6] ?_
   refine Q5 (je Zw ?_)
   simp only[Qa h2] at h4
   rw[←hI,if_pos h4]
  ·try simp at h4
   simp only[Qa h2] at h4
   have h4c: ¬(x.methods[i].name=n∧x.methods[i].desc=d):=fun e=>h4 e.1 e.2
   refine Q3 (Qb (jh hX Z9) ?_)
   refine Qo (i+1) [1,2,3,7] Z1x ?_ ?_
   ·exact ⟨by omega,by rw[←hI,if_neg h4c]⟩
   ·omega
 ·try simp at h2
  refine Ql (jq [6] ?_)
  refine Q5 (je Zw ?_)
  simp[←hI,List.drop_eq_nil_of_le h2,Q1j]
theorem Qm4:Q6 Tryz.prog 77:=jcb Tryz.func77
theorem Qlg{l:List Cls}{i:Nat}(hl:Q1w l≤1099511627776)(hi:i<l.length)(hu:Qi l[i].name l 0=i)(hEn: ∀j:Nat,j<l.length→Qkl l (l.length+1) j):Ct Tryz.prog 77 [.lst false 6 (l.map eC),eC l[i]] [] (.bool (Quh l i)) []:=by
 have hll:l.length≤1099511627776:=by unfold Q1w at hl;omega
 have hsz: ∀{k:Nat} (h:k<l.length),Q1r l[k]≤1099511627776:=fun h=>Nat.le_trans (Q46 h) hl
 have hE0:Qkl l l.length (nxt l i):=by obtain ⟨g,h1,h2⟩:=Qmk (hEn i hi);rw[show l.length=g from by omega];exact h2
 refine jbS Tryz.func77 112 fun X hX=> ?_
 refine jq [0,3] ?_
 refine Q4 (Q0 [0,3,5] (jt 3 (k:=(jc [] (c:=Zch) (a:=Q1m) (k:=jr)))) ?_)
 refine Q7 (Qh (α:=Nat×Int) [0,3,5] (fun a=>[(5,.int .i64 a.2)]) (fun a=>[]) (fun a=>Qkl l a.1 a.2∧(-1≤a.2∧a.2<l.length)∧(∀u∈ups l a.1 a.2,u∈ups l (l.length+1) i)∧(ups l a.1 a.2).all (fun u=>(atL l u).methods.all (Q7o l l[i] i))=Quh l i) (fun a=>a.1) ((l.length,nxt l i)) (fun a=>by simp;rfl) (by simp[Qal,Qa hi]) ?_ ?_)
 ·exact ⟨hE0, @Qa2 l i,fun u h=>by rw[Qe0];exact List.mem_cons_of_mem _ h,by simp only[Quh,Qa hi]⟩
 rintro ⟨f,up⟩ ⟨hE,hup,hS,hI⟩
 simp only at hE hup hS hI
 refine Q4 (jq [0,3,5,15] ?_)
 refine jd (fun h2=> ?_) (fun h2=> ?_)
 ·try simp at h2
  obtain ⟨p,rfl⟩: ∃k:Nat,up=k:=⟨up.toNat,by omega⟩
  have hp:p<l.length:=by omega
  obtain ⟨f,rfl,hE2⟩:=Qmk hE
  rw[Qe0] at hI
  simp only[List.all_cons,Qa hp] at hI
  have hml:l[p].methods.length≤1099511627776:=by have:=hsz hp;simp only[Q1r] at this;omega
  refine Q3 (Q4 (Q7 (jq [0,3,5,6] ?_)))
  refine Q7 (Qh (α:=Nat) [0,3,5,6] (fun j=>[(6,.int .i64 j)]) (fun j=>[]) (fun j=>j≤l[p].methods.length∧(l[p].methods.drop j).all (Q7o l l[i] i)=l[p].methods.all (Q7o l l[i] i)) (fun j=>l[p].methods.length-j) (0) (fun j=>by simp;rfl) Z3 ?_ ?_)
  ·simp
  rintro j ⟨hj,hJ⟩
  refine Q4 (Q0 [0,3,5,6,30] (jh hX Zc1) ?_)
  refine jd (fun h5=> ?_) (fun h5=> ?_)
  ·try simp at h5
   rw[Q5r h5] at hJ
   refine Q3 (Q4 (Q7 (Q0 [0,3,5,6,7] (jh hX Z3b) ?_)))
   refine Q4 (Q0 [0,3,5,6,7,43] (jh hX Z3b) ?_)
   refine jd (fun h8=> ?_) (fun h8=> ?_)
   ·try simp at h8
    have hq8:Q7o l l[i] i l[p].methods[j]=true:=by simp[Q7o,h8,Qn]
    have hJ2:=hJ
    rw[hq8,Bool.true_and] at hJ2
    refine Ql (Qb (jh hX Z9) ?_)
    refine Qm (j+1) [0,3,5,6] 1 Z1r Z3 Z5b ?_ ?_
    ·exact ⟨by omega,hJ2⟩
    ·omega
   ·try simp at h8
    refine Q3 (Q0 [0,3,5,6,7,8] (js hX 5 Z3b (jc [] (c:=Zck) (a:=Q6b) (k:=jr))) ?_)
    refine Q4 (jD [0,3,5,6,7,66] (jS 3 Z7 (jM 14 52 [0,3,5,6,7,66] (p:=fun b10_3=>by (try simp at b10_3);(have hk8:=Qea b10_3);exact (jS 3 Za8 (jM 10 55 [0,3,5,6,7,52,65] (p:=Zcj) (q:=by intro b;(try simp at b);exact (jQ Za8)) (k:=(jQ Z1))))) (q:=fun b10_3=>by (try simp at b10_3);exact (jQ Z1)) (k:=(Q18.fin Z22)))) ?_)
    refine jd (fun h10=> ?_) (fun h10=> ?_)
    ·try simp at h10
     have hq10:Q7o l l[i] i l[p].methods[j]=false:=by simp only[Q7o,decide_eq_false (show¬l[p].methods[j].name=Qn from h8)];simp;grind
     refine jq [4] ?_
     refine Q5 (je Zbt ?_)
     rw[←hI,←hJ,hq10];simp
    ·try simp at h10
     have hq10:Q7o l l[i] i l[p].methods[j]= !(l[p].methods[j].abstr&& !l[i].abstr&&Qr0 l l[p].methods[j].name l[p].methods[j].desc (l.length+1) i):=by simp only[Q7o,decide_eq_false (show¬l[p].methods[j].name=Qn from h8)];simp;grind
     refine Q3 (Q0 [0,3,5,6,7,73] (js hX 3 Zbt (jm 4 69 [0,3,5,6,7,73] (p:=by intro b;(try simp at b);exact (jh hX (by simp[-Qr,-Qa,h2,hp,h5,h10];rfl))) (q:=Zcb) (k:=jf))) ?_)
     refine jd (fun h12=> ?_) (fun h12=> ?_)
     ·try simp at h12
      refine Q0 [0,3,5,6,7,9] (js hX 3 Zbt (jc [] (c:=Zch) (a:=Q1m) (k:=jr))) ?_
      refine Q4 (Q7 (Qh (α:=Nat×Int) [0,3,5,6,7,9] (fun a=>[(9,.int .i64 a.2)]) (fun a=>[]) (fun a=>Qkl l a.1 a.2∧(0≤a.2∧a.2<l.length)∧Qr0 l l[p].methods[j].name l[p].methods[j].desc a.1 a.2=Qr0 l l[p].methods[j].name l[p].methods[j].desc (l.length+1) i∧ ∃u∈ups l a.1 a.2,0≤Q1j l[p].methods[j].name l[p].methods[j].desc (atL l u).methods 0) (fun a=>a.1) ((l.length+1,(i:Int))) (fun a=>by simp;rfl) (by simp[hu]) ?_ ?_))
      ·exact ⟨hEn i hi,by omega,rfl,p,hS p (by rw[Qe0];simp),by rw[Qa hp];exact Qww h5⟩
      rintro ⟨g,q⟩ ⟨gE,gq,gN,gU⟩
      simp only at gE gq gN gU
      obtain ⟨q,rfl⟩: ∃k:Nat,q=k:=⟨q.toNat,by omega⟩
      have hq:q<l.length:=by omega
      obtain ⟨g,rfl,gE2⟩:=Qmk gE
      rw[Qwq,Qa hq] at gN
      rw[Qe0] at gU
      refine Q4 (jD [0,3,5,6,7,9,87] (jS 8 (by simp[h2,hp,h5,h10,hq];rfl) (jC (c:=Zck) (a:=Q6b) (k:=(jQ Z7)))) ?_)
      refine jd (fun h14=> ?_) (fun h14=> ?_)
      ·try simp at h14
       rw[if_neg (by (try simp only[Qa hq] at h14);omega)] at gN
       have gU2: ∃u∈ups l g (nxt l q),0≤Q1j l[p].methods[j].name l[p].methods[j].desc (atL l u).methods 0:=by
        obtain ⟨u,h1,h2⟩:=gU
        rcases List.mem_cons.1 h1 with rfl|h1
        ·rw[Qa hq] at h2;(try simp only[Qa hq] at h14);omega
        ·exact ⟨u,h1,h2⟩
       have gP:0≤nxt l q:=by
        obtain ⟨u,h1,_⟩:=gU2
        rcases Int.lt_or_le (nxt l q) 0 with h|h
        ·cases g<;>simp[ups,h] at h1
        ·exact h
       refine Q3 (Q7 (Qb (js hX 6 (by simp[h2,hp,h5,h10,hq,h14];rfl) (jc [] (c:=Zch) (a:=Q1m) (k:=jr))) ?_))
       refine Qo ((g,nxt l q)) [0,3,5,6,7,9] (by simp[Qal,hq]) ?_ ?_
       ·exact ⟨gE2,⟨gP,(@Qa2 l q).2⟩,gN,gU2⟩
       ·simp
      ·try simp at h14
       have h14b:=Qea h14
       rw[if_pos h14,Qa h14b] at gN
       refine Ql (jD [0,3,5,6,111] (jS 13 Z8d (jC (c:=Zck) (a:=Q6b) (k:=(jQ Z8d)))) ?_)
       refine jd (fun h16=> ?_) (fun h16=> ?_)
       ·try simp at h16
        have hq16:Q7o l l[i] i l[p].methods[j]=false:=by rw[hq10,←gN,h16];grind
        refine jq [4] ?_
        refine Q5 (je Z8d ?_)
        rw[←hI,←hJ,hq16];simp
       ·try simp at h16
        have hq16:Q7o l l[i] i l[p].methods[j]=true:=by rw[hq10,←gN,h16];simp
        have hJ2:=hJ
        rw[hq16,Bool.true_and] at hJ2
        refine Q3 (Qb (jh hX Z9) ?_)
        refine Qm (j+1) [0,3,5,6] 1 Z1r Z3 Z5b ?_ ?_
        ·exact ⟨by omega,hJ2⟩
        ·omega
     ·try simp at h12
      have hJ2:=hJ
      rw[hq10,show (l[p].methods[j].abstr&& !l[i].abstr)=false from by grind] at hJ2
      simp only[Bool.false_and,Bool.not_false,Bool.true_and] at hJ2
      refine Q3 (Qb (jh hX Z9) ?_)
      refine Qm (j+1) [0,3,5,6] 1 Z1r Z3 Z5b ?_ ?_
      ·exact ⟨by omega,hJ2⟩
      ·omega
  ·try simp at h5
   rw[List.drop_eq_nil_of_le h5] at hJ
   simp only[List.all_nil] at hJ
   rw[←hJ,Bool.true_and] at hI
   refine Ql (Qb (js hX 6 Z3b (jc [] (c:=Zch) (a:=Q1m) (k:=jr))) ?_)
   refine Qo ((f,nxt l p)) [0,3,5] (by simp[Qal,hp]) ?_ ?_
   ·exact ⟨hE2, @Qa2 l p,fun u h=>hS u (by rw[Qe0];exact List.mem_cons_of_mem _ h),hI⟩
   ·simp
 ·try simp at h2
  have hnil:ups l f up=[]:=by cases f<;>simp[ups,h2]
  rw[hnil] at hI
  refine Ql (jq [4] ?_)
  refine Q5 (je Zw ?_)
  simp[←hI]
theorem Qk7:Q6 Tryz.prog 27:=jcb Tryz.func27
theorem Qjr{l:List Cls}(hl:Q1w l≤1099511627776):Ct Tryz.prog 27 [.lst false 6 (l.map eC)] [] (.agg [.int .i64 (Q31 l).1,.int .i64 (Q31 l).2]) []:=by
 have hll:l.length≤1099511627776:=by unfold Q1w at hl;omega
 have hsz: ∀{k:Nat} (h:k<l.length),Q1r l[k]≤1099511627776:=fun h=>Nat.le_trans (Q46 h) hl
 refine jbS Tryz.func27 162 fun X hX=> ?_
 refine jq [0,2] ?_
 refine Q4 (jq [0,2,13] ?_)
 refine jd (fun h1=> ?_) (fun h1=> ?_)
 ·try simp at h1
  refine Q0 [2] (jh hX Zs) ?_
  refine Q5 (je Zs ?_)
  simp[Q31,h1]
 ·try simp at h1
  refine Q3 (Q4 (Q0 [0,2,17] (jh hX Zs) ?_))
  refine jd (fun h3=> ?_) (fun h3=> ?_)
  ·try simp at h3
   refine Q0 [2] (jh hX (by simp[h1,h3];rfl)) ?_
   refine Q5 (je (by simp[h1,h3];rfl) ?_)
   have h1b: ¬400<l.length:=by omega
   simp[Q31,h1b,h3]
  ·try simp at h3
   rw[show Q31 l=Q4t l from by unfold Q31;rw[if_neg Zb,if_neg Zb]]
   refine Q3 (Q4 (jq [0,2,3] ?_))
   refine Q7 (Qh (α:=Nat) [0,2,3] (fun i=>[(3,.int .i64 i)]) (fun i=>[]) (fun i=>i≤l.length∧Q12 (Q5d l) (l.length-i) i=Q12 (Q5d l) l.length 0) (fun i=>l.length-i) (0) (fun i=>by simp;rfl) Z3 ?_ ?_)
   ·simp
   rintro i ⟨hi1,hI1⟩
   refine Q4 (Q0 [0,2,3,22] (jh hX (by simp[h1,h3];rfl)) ?_)
   refine jd (fun h6=> ?_) (fun h6=> ?_)
   ·try simp at h6
    rw[show l.length-i=(l.length-(i+1))+1 from by omega] at hI1
    simp only[Q12] at hI1
    refine Q3 (Q4 (Q7 (Q4 (Q0 [0,2,3,30] (js hX 4 Z9z (jc [] (c:=(by apply Qjs<;>exact Zcc)) (a:=Qk8) (k:=jr))) ?_))))
    refine jd (fun h8=> ?_) (fun h8=> ?_)
    ·try simp at h8
     refine Q0 [2] (jh hX Z9z) ?_
     refine Q5 (je Z9z ?_)
     have hp:Q5d l i=1:=by simp[Q5d,Qa h6,h8]
     rw[if_neg Zaw,hp] at hI1
     simp[Q4t,←hI1]
    ·try simp at h8
     refine Q3 (Q0 [0,2,3,50] (js hX 5 Z9z (jc [] (c:=Zcg) (a:=Q5p) (k:=(jt 2 (k:=(jm 10 40 [0,2,3,50] (p:=fun b10_8=>by (try simp at b10_8);exact (jh hX Z1)) (q:=fun b10_8=>by (try simp at b10_8);exact (js hX 6 (by simp[-Qr,-Qa,h1,h3,h6,b10_8];rfl) (Q8.call [] rfl Z3 rfl Z1 Z7 Zcd Q1m Z3 Z3 Z1 (jh hX Z1)))) (k:=jf))))))) ?_)
     refine jd (fun h10=> ?_) (fun h10=> ?_)
     ·try simp at h10
      refine Q0 [2] (jh hX (by simp[h1,h3,h6,h10];rfl)) ?_
      refine Q5 (je (by simp[h1,h3,h6,h10];rfl) ?_)
      have hp:Q5d l i=7:=by simp only[Q5d,Qa h6,h8,if_true];rw[if_pos (by simpa[Qa h6] using h10)]
      rw[if_neg Zaw,hp] at hI1
      simp[Q4t,←hI1]
     ·try simp at h10
      have hp:Q5d l i=0:=by simp only[Q5d,Qa h6,h8,if_true];rw[if_neg (by simp[Qa h6] at h10⊢;omega)]
      rw[if_pos hp] at hI1
      have hJ:=hI1
      refine Q3 (Qb (jh hX Z9) ?_)
      refine Qo (i+1) [0,2,3] (by simp[h1,h3,h6,h10];try (simp (disch:=omega) only[Qc])) ?_ ?_
      ·exact ⟨by omega,hJ⟩
      ·omega
   ·try simp at h6
    rw[show l.length-i=0 from by omega] at hI1
    simp only[Q12] at hI1
    refine Ql (Q4 (jq [0,2,4] ?_))
    refine Q7 (Qh (α:=Nat) [0,2,4] (fun i=>[(4,.int .i64 i)]) (fun i=>[]) (fun i=>i≤l.length∧Q12 (Q8z l) (l.length-i) i=Q12 (Q8z l) l.length 0) (fun i=>l.length-i) (0) (fun i=>by simp;rfl) Z3 ?_ ?_)
    ·simp
    rintro i ⟨hi2,hI2⟩
    refine Q4 (Q0 [0,2,4,56] (jh hX Z9z) ?_)
    refine jd (fun h13=> ?_) (fun h13=> ?_)
    ·try simp at h13
     rw[show l.length-i=(l.length-(i+1))+1 from by omega] at hI2
     simp only[Q12] at hI2
     refine Q3 (Q4 (Q7 (Q0 [0,2,4,5] (js hX 6 Z7n (jc [] (c:=Zcd) (a:=Q1m) (k:=jr))) ?_)))
     refine Q4 (Q0 [0,2,4,5,73] (js hX 6 Z7n (jc [] (c:=(by apply Q5i<;>exact Zcc)) (a:=Q5o) (k:=jr))) ?_)
     refine jd (fun h16=> ?_) (fun h16=> ?_)
     ·try simp at h16
      refine Q0 [2] (jh hX Z7n) ?_
      refine Q5 (je Z7n ?_)
      have hp:Q8z l i=8:=by simp[Q8z,Qa h13,h16]
      rw[if_neg Zaw,hp] at hI2
      simp[Q4t,←hI1,←hI2]
     ·try simp at h16
      refine Q3 (Q0 [0,2,4,93] (js hX 5 Z7n (jc [] (c:=Zcg) (a:=Q5p) (k:=(jt 2 (k:=(jm 10 83 [0,2,4,93] (p:=fun b18_8=>by (try simp at b18_8);exact (jh hX Z1)) (q:=fun b18_8=>by (try simp at b18_8);exact (js hX 3 Z1 (jm 6 86 [0,2,4,83,92] (p:=fun b18_11=>by (try simp at b18_11);(have hfl:=Qgp (l:=l) b18_11);exact (jh hX (by simp[-Qr,-Qa,h1,h3,h6,h13,b18_8,b18_11,hfl,b18_11];rfl))) (q:=fun b18_11=>by (try simp at b18_11);exact (jh hX Z1)) (k:=(jh hX Z1))))) (k:=jf))))))) ?_)
      refine jd (fun h18=> ?_) (fun h18=> ?_)
      ·try simp at h18
       refine Q0 [2] (jh hX (by simp[h1,h3,h6,h13,h18];rfl)) ?_
       refine Q5 (je (by simp[h1,h3,h6,h13,h18];rfl) ?_)
       have hp:Q8z l i=14:=by simp only[Q8z,Qa h13,h16,if_true];rw[if_pos (by simpa using h18)]
       rw[if_neg Zaw,hp] at hI2
       simp[Q4t,←hI1,←hI2]
      ·try simp at h18
       have hp:Q8z l i=0:=by simp only[Q8z,Qa h13,h16,if_true];rw[if_neg (by simp at h18⊢;exact h18)]
       rw[if_pos hp] at hI2
       have hJ:=hI2
       refine Q3 (Qb (jh hX Z9) ?_)
       refine Qo (i+1) [0,2,4] (by simp[h1,h3,h6,h13,h18];try (simp (disch:=omega) only[Qc])) ?_ ?_
       ·exact ⟨by omega,hJ⟩
       ·omega
    ·try simp at h13
     rw[show l.length-i=0 from by omega] at hI2
     simp only[Q12] at hI2
     refine Ql (Q4 (jq [0,2,6] ?_))
     refine Q7 (Qh (α:=Nat) [0,2,6] (fun i=>[(6,.int .i64 i)]) (fun i=>[]) (fun i=>i≤l.length∧Q12 (Qbs l) (l.length-i) i=Q12 (Qbs l) l.length 0) (fun i=>l.length-i) (0) (fun i=>by simp;rfl) Z3 ?_ ?_)
     ·simp
     rintro i ⟨hi3,hI3⟩
     refine Q4 (Q0 [0,2,6,99] (jh hX Z7n) ?_)
     refine jd (fun h21=> ?_) (fun h21=> ?_)
     ·try simp at h21
      rw[show l.length-i=(l.length-(i+1))+1 from by omega] at hI3
      simp only[Q12] at hI3
      refine Q3 (Q4 (Q7 (Q0 [0,2,6,108] (js hX 5 Z91 (jc [] (c:=(by apply Qn6<;>exact Zcc)) (a:=Qnx) (k:=jr))) ?_)))
      refine jd (fun h23=> ?_) (fun h23=> ?_)
      ·try simp at h23
       refine Q0 [2] (jh hX Z91) ?_
       refine Q5 (je Z91 ?_)
       have hp:Qbs l i=6:=by simp[Qbs,Qa h21,h23]
       rw[if_neg Zaw,hp] at hI3
       simp[Q4t,←hI1,←hI2,←hI3]
      ·try simp at h23
       have hp:Qbs l i=0:=by simp[Qbs,Qa h21,h23]
       rw[if_pos hp] at hI3
       have hJ:=hI3
       refine Q3 (Qb (jh hX Z9) ?_)
       refine Qo (i+1) [0,2,6] (by simp[h1,h3,h6,h13,h21];try (simp (disch:=omega) only[Qc])) ?_ ?_
       ·exact ⟨by omega,hJ⟩
       ·omega
     ·try simp at h21
      rw[show l.length-i=0 from by omega] at hI3
      simp only[Q12] at hI3
      refine Ql (Q4 (jq [0,2,7] ?_))
      refine Q7 (Qh (α:=Nat) [0,2,7] (fun i=>[(7,.int .i64 i)]) (fun i=>[]) (fun i=>i≤l.length∧Q12 (Qa9 l) (l.length-i) i=Q12 (Qa9 l) l.length 0) (fun i=>l.length-i) (0) (fun i=>by simp;rfl) Z3 ?_ ?_)
      ·simp
      rintro i ⟨hi4,hI4⟩
      refine Q4 (Q0 [0,2,7,114] (jh hX Z91) ?_)
      refine jd (fun h26=> ?_) (fun h26=> ?_)
      ·try simp at h26
       rw[show l.length-i=(l.length-(i+1))+1 from by omega] at hI4
       simp only[Q12] at hI4
       refine Q3 (Q4 (Q7 (Q0 [0,2,7,8] (js hX 6 Za5 (jc [] (c:=Zcd) (a:=Q1m) (k:=jr))) ?_)))
       refine jq [0,2,7,8,9] ?_
       refine Q7 (Qh (α:=Nat×Int) [0,2,7,8,9] (fun a=>[(8,.int .i64 a.2),(9,.int .i64 a.1)]) (fun a=>[]) (fun a=>a.1≤l.length+1∧(-1≤a.2∧a.2<l.length)∧Qp6 l i (l.length+1-a.1) a.2=cyc l i) (fun a=>l.length+1-a.1) ((0,nxt l i)) (fun a=>by simp;rfl) (by simp[Qal,Qa h26]) ?_ ?_)
       ·exact ⟨by simp, @Qa2 l i,rfl⟩
       rintro ⟨s,up⟩ ⟨hs,hup,hC⟩
       simp only at hs hup hC
       refine Q4 (Q0 [0,2,7,8,9,131] (js hX 5 Za5 (jm 3 128 [0,2,7,8,9,131] (p:=Zcb) (q:=Zcb) (k:=jf))) ?_)
       refine jd (fun h30=> ?_) (fun h30=> ?_)
       ·try simp at h30
        obtain ⟨p,rfl⟩: ∃k:Nat,up=k:=⟨up.toNat,by omega⟩
        have h30q:p<l.length:=by omega
        rw[show l.length+1-s=(l.length+1-(s+1))+1 from by omega] at hC
        simp only[Qp6] at hC
        rw[if_neg Zb] at hC
        refine Q3 (Q4 (Q7 (Q4 (jq [0,2,7,8,9,136] ?_))))
        refine jd (fun h32=> ?_) (fun h32=> ?_)
        ·try simp at h32
         refine Q0 [2] (jh hX Z8l) ?_
         refine Q5 (je Z8l ?_)
         rw[if_pos (by simpa using h32)] at hC
         have hp:Qa9 l i=9:=by simp[Qa9,←hC]
         rw[if_neg Zaw,hp] at hI4
         simp[Q4t,←hI1,←hI2,←hI3,←hI4]
        ·try simp at h32
         rw[if_neg (by simpa using h32)] at hC
         refine Q3 (Qb (js hX 6 Z8l (jc [] (c:=Zcd) (a:=Q1m) (k:=jr))) ?_)
         refine Qb (jh hX Z9) ?_
         refine Qo ((s+1,nxt l p)) [0,2,7,8,9] (by simp[Qal,h30q];(try (simp (disch:=omega) only[Qc]))) ?_ ?_
         ·exact ⟨by omega, @Qa2 l p,hC⟩
         ·simp;omega
       ·try simp at h30
        have hcy:cyc l i=false:=by
         rw[←hC]
         rcases Nat.lt_or_ge s (l.length+1) with h|h
         ·rw[show l.length+1-s=(l.length-s)+1 from by omega,Qp6,if_pos Zb]
         ·rw[show l.length+1-s=0 from by omega,Qp6]
        have hp:Qa9 l i=0:=by simp[Qa9,hcy]
        rw[if_pos hp] at hI4
        have hJ:=hI4
        refine Ql (Qb (jh hX Z9) ?_)
        refine Qo (i+1) [0,2,7] (by simp[h1,h3,h6,h13,h21,h26,h30];try (simp (disch:=omega) only[Qc])) ?_ ?_
        ·exact ⟨by omega,hJ⟩
        ·omega
      ·try simp at h26
       rw[show l.length-i=0 from by omega] at hI4
       simp only[Q12] at hI4
       have hu: ∀{j:Nat} (h:j<l.length),Qi l[j].name l 0=j:=fun h=>Q3s h (Q2y hI1.symm _ (Nat.zero_le _) Zb)
       have hEn: ∀j:Nat,j<l.length→Qkl l (l.length+1) j:=fun j h=>Q9j (fun k hk=>by have:=Q2y hI4.symm k (Nat.zero_le _) Zb;simp only[Qa9] at this;split at this<;>simp_all) h
       refine Ql (Q4 (jq [0,2,10] ?_))
       refine Q7 (Qh (α:=Nat) [0,2,10] (fun i=>[(10,.int .i64 i)]) (fun i=>[]) (fun i=>i≤l.length∧Q12 (Qcz l) (l.length-i) i=Q12 (Qcz l) l.length 0) (fun i=>l.length-i) (0) (fun i=>by simp;rfl) Z3 ?_ ?_)
       ·simp
       rintro i ⟨hi5,hI5⟩
       refine Q4 (Q0 [0,2,10,149] (jh hX Za5) ?_)
       refine jd (fun h36=> ?_) (fun h36=> ?_)
       ·try simp at h36
        rw[show l.length-i=(l.length-(i+1))+1 from by omega] at hI5
        simp only[Q12] at hI5
        have hu36:=hu h36
        refine Q3 (Q4 (Q7 (Q0 [0,2,10,158] (js hX 5 Z66 (jc [] (c:=(by apply Qlg<;>exact Zcc)) (a:=Qm4) (k:=jr))) ?_)))
        refine jd (fun h38=> ?_) (fun h38=> ?_)
        ·try simp at h38
         refine Q0 [2] (jh hX Z66) ?_
         refine Q5 (je Z66 ?_)
         have hp:Qcz l i=14:=by simp[Qcz,h38]
         rw[if_neg Zaw,hp] at hI5
         simp[Q4t,←hI1,←hI2,←hI3,←hI4,←hI5]
        ·try simp at h38
         have hp:Qcz l i=0:=by simp[Qcz,h38]
         rw[if_pos hp] at hI5
         have hJ:=hI5
         refine Q3 (Qb (jh hX Z9) ?_)
         refine Qo (i+1) [0,2,10] (by simp[h1,h3,h6,h13,h21,h26,h36];try (simp (disch:=omega) only[Qc])) ?_ ?_
         ·exact ⟨by omega,hJ⟩
         ·omega
       ·try simp at h36
        rw[show l.length-i=0 from by omega] at hI5
        simp only[Q12] at hI5
        refine Ql (Q0 [2] (jh hX Z66) ?_)
        refine Q5 (je Z66 ?_)
        simp[Q4t,←hI1,←hI2,←hI3,←hI4,←hI5]
def fzA:List (Nat×V)→List (Nat×V)
 |[]=>[]
 |p::l=>(p.1,p.2.fz)::fzA l
theorem Q12n(k:Nat): ∀l:List (Nat×V),lkA k (fzA l)=(lkA k l).fz
 |[]=>rfl
 |p::l=>by
  simp only[fzA,lkA,Q12n k l]
  split<;>rfl
@[simp] theorem sp_fz (n:Nat) (l:List (Nat×V)):fzL (sp n l)=sp n (fzA l):=by
 refine Quu (by rw[Qao,List.length_map,Q4e]) fun k hk=> ?_
 rw[Qao,List.getElem?_map,Qax,Q12n,if_pos hk]
 rfl
attribute [simp] fzA
section
variable {X:Ctx} {ops:Array Oper} {ls:List Oper} {st s s1 s2 s3:St} {o:Oper} {n0:Nat} {L:List Nat} {Q:Exit→St→Prop}
theorem jP{id:Nat}{y:Code}(n:Nat)(t:Tm)(ks L:List Nat)(hX:X.n0=n0)(hH:Q4c Tryz.prog TT n0 ls.toArray L t st s2)(h2:Q8 Tryz.prog X ls.toArray (ls.drop n) s2 s3)(hk:W Tryz.prog X y (s3.keep ks) Q)
  (hB:Qss .any ls.toArray n t=true:=by kernel_rfl):W Tryz.prog X (.seq (.region id ls.toArray true) y) st Q:=Q170 n t ks L hmo hB tok hX hH h2 hk
theorem jPr{id:Nat}(n:Nat)(t:Tm)(L:List Nat)(hX:X.n0=n0)(hH:Q4c Tryz.prog TT n0 ls.toArray L t st s2)(h2:Q8 Tryz.prog X ls.toArray (ls.drop n) s2 s3)(hq:Q .normal s3)
  (hB:Qss .any ls.toArray n t=true:=by kernel_rfl):W Tryz.prog X (.region id ls.toArray true) st Q:=Q13m hmo hB tok hX hH h2 hq
theorem jPp(A:List Nat)(r:Tm)(h:Q4q TT n0 ops L A s=some s1)(k:Q4c Tryz.prog TT n0 ops L r s1 s2):Q4c Tryz.prog TT n0 ops L (Q17 A r) s s2:= .pur h rfl k
theorem jPa(i N:Nat){t r:Tm}{s':St}(ho:ops[i]? =some o:=by rfl)(hn:n0≤N∧N≤s.ob.length:=by simp)(hL: ∀id∈L,id<N:=by simp)(hlim:(L.all fun id=>Qy9 N (s.ob.getD id none))=true:=by simp)(p: ∀X:Ctx,X.n0=N→Q8 Tryz.prog X ops [o] ⟨s.tm,hid L s.ob⟩ s')(he:(⟨s'.tm,unh s.ob L s'.ob⟩:St)=s1:=by (try simp);(try rfl))
  (k:Q4c Tryz.prog TT n0 ops L t s1 s2) (kr:Q4c Tryz.prog TT n0 ops L r s s2):Q4c Tryz.prog TT n0 ops L (.alt i t r) s s2:= .alt ho N hn hL hlim p he k kr
theorem jPw(a b:Nat){t:Tm}(he:s.swap a b=s1)(k:Q4c Tryz.prog TT n0 ops L t s1 s2)(hb:n0≤a∧n0≤b∧a<s.ob.length∧b<s.ob.length:=by simp)(hl:a∉L∧b∉L:=by decide):Q4c Tryz.prog TT n0 ops L t s s2:= .sw hb hl he k
end
section
variable {X:Ctx} {ops:Array Oper} {l:List Oper} {st s2:St} {o:Oper}
theorem jZl{t e:Nat}{ti ei:TI}{x r:V}{st2:St}{ob2:List Ob}{z:Option (V×St)}{z2:Option (V×List Ob)}(ho:o.op= .buildSlice t 0 #[]:=by rfl)(ht:TT t=some ti:=by rfl)(hk:ti.kd= .slice e:=by rfl)(he:TT e=some ei:=by rfl)
  (h:opB TT 0 ⟨fzL st.tm,[]⟩ o.op=z:=by simp;rfl) (hz:z=some (x,st2):=by rfl) (htk:Q88 0 st2.ob x=z2:=by simp;rfl) (hz2:z2=some (r,ob2):=by rfl) (hl:r.lim 0=true:=by simp) (hg:gd ops st o.guard=some true:=by simp)
  (k:Q8 Tryz.prog X ops l ⟨Q2l o.dst (.lst true ei.size []) st.tm,st.ob⟩ s2):Q8 Tryz.prog X ops (o::l) st s2:=Q8.zlit tok ho ht hk he (h.trans hz) (htk.trans hz2) hl hg k
theorem jZf{t e i k':Nat}{x:Operand}{ti ei:TI}{y:V}{ys ys':List V}(ho:o.op= .call {callee:= .builtin .append,args:= #[.tmp i,x],argTypes:= #[t,t]}:=by rfl)(ht:TT t=some ti:=by rfl)(hk:ti.kd= .slice e:=by rfl)(he:TT e=some ei:=by rfl)
  (hz0:ei.zero.cells.length=ei.size:=by rfl) (hi0:st.tm[i]? =some (.lst true k' []):=by simp;rfl) (hv:val ⟨(fzL st.tm).set i (.lst true k' []),[]⟩ x=y:=by simp;rfl) (hy:y= .lst false ei.size ys:=by rfl) (hys:fzL ys=ys':=by simp;rfl)
  (hbig:ys.length*ei.bytes≤140737488355328:=by simp;omega) (h63:ys.length≤1099511627776:=by simp;omega) (hj:jkL (· ==0) ys=ys:=by simp) (hp:pureL ys=true:=by simp) (hg:gd ops st o.guard=some true:=by simp)
  (k:Q8 Tryz.prog X ops l ⟨Q2l o.dst (.lst false ei.size ys') st.tm,st.ob⟩ s2):Q8 Tryz.prog X ops (o::l) st s2:=Q8.appF tok ho ht hk he hz0 hi0 (by rw[hv,hy];rfl) hbig h63 hj hp hys hg k
end
theorem Qo0:Q6 Tryz.prog 34:=jcb Tryz.func34
theorem Qnc{n:Int}:Ct Tryz.prog 34 [.int .i64 n] [] (.bool (Qje n)) []:=by
 refine jbS Tryz.func34 13 fun X hX=> ?_
 refine jq [0] ?_
 refine Q0 [2] (jt 3 (k:=(jm 7 5 [12] (p:=Zcb) (q:=by intro b;(try simp at b);exact (js hX 3 Z1 (jm 3 8 [5,11] (p:=Zcb) (q:=Zcb) (k:=(jh hX Z1))))) (k:=jr)))) ?_
 refine Q5 (je0 ?_)
 (try simp_all[Qje])<;>grind
section
variable {X:Ctx} {ops:Array Oper} {ls:List Oper} {st s s' s1 s2 s3:St} {n0:Nat} {L:List Nat} {Q:Exit→St→Prop}
end
theorem Q9:Q6 Tryz.prog 175:=jcb Tryz.func175
theorem Qek{F:SF}{x y:V}{xs:List V}{k:Int}{ok:Bool}{c:Int}(hx:x.lim 2=true)(hy:y.lim 2=true)(hxs:limL 2 xs=true):Ct Tryz.prog 175 [.ptr 0 0 0,.bool ok,.int .i64 c] [some (25,[oSV F x y k]),some (3,xs)] (.tup []) [some (25,[oSV F x y (ndC k ok c)]),some (3,xs)]:=by
 refine jbS Tryz.func175 19 fun X hX=> ?_
 refine Q0 [0,2,14] (js hX 6 Zb6 (jm 3 11 [0,2,14] (p:=Z7u) (q:=Z7u) (k:=jf))) ?_
 refine jd (fun h0=> ?_) (fun h0=> ?_)
 ·try simp at h0
  refine Qb (jh hX Zb6) ?_
  refine Qk Zb6 Z15 (.of_eq ?_) ?_
  all_goals clear hX
  ·rfl
  ·simp_all[ndC]
 ·try simp at h0
  refine Q3 (Qk Zb6 Z15 (.of_eq ?_) ?_)
  all_goals clear hX
  ·rfl
  ·simp_all[ndC]
theorem Q9q{F:SF}{o1 o2:Bool}{st lo:List Typ}{k:Int}{ok:Bool}{c:Int}:Ct Tryz.prog 175 [.ptr 0 0 0,.bool ok,.int .i64 c] [some (25,[oSW F o1 o2 st lo k])] (.tup []) [some (25,[oSW F (o1) (o2) (st) (lo) (ndC k ok c)])]:=by
 refine jbS Tryz.func175 19 fun X hX=> ?_
 refine Q0 [0,2,14] (jt 6 (k:=(jm 3 11 [0,2,14] (p:=Zcb) (q:=Zcb) (k:=jf)))) ?_
 refine jd (fun h0=> ?_) (fun h0=> ?_)
 ·try simp at h0
  refine Qb jr ?_
  refine Qk Z7 Z15 (.of_eq ?_) ?_
  all_goals clear hX
  ·rfl
  ·simp_all[ndC]
 ·try simp at h0
  refine Q3 (Qk Z7 Z15 (.of_eq ?_) ?_)
  all_goals clear hX
  ·rfl
  ·simp_all[ndC]
theorem Qe:Q6 Tryz.prog 166:=jcb Tryz.func166
theorem Q28{F:SF}{o1 o2:Bool}{st lo:List Typ}{k:Int}{n:Nat}(hs:st.length≤1000)(hn:n≤1000):Ct Tryz.prog 166 [.ptr 0 0 0,.int .i64 n] [some (25,[oSW F o1 o2 st lo k])] (.lst true 3 ((tkV k st n).map eT)) [some (25,[oSW F (tkO o1 k st n) (o2) (tkL k st n) (lo) (tkC k st n)])]:=by
 cases o1
 all_goals
  refine jbS Tryz.func166 57 fun X hX=> ?_
  refine jq [0,1] ?_
  first|refine Q15 (Le.expose 0 0 22 Z1g) ?_|refine Q15 (Le.nilOb 3 _) ?_
  refine Q4 (Q0 [0,1,21] (jt 6 (k:=(jm 9 12 [0,1,21] (p:=Zcb) (q:=Zcb) (k:=jf)))) ?_)
  refine jd (fun h1=> ?_) (fun h1=> ?_)
  ·try simp at h1
   have hB:Qa8 k st n=true:=by simp only[Qa8];grind
   have w5:32*(n:Int)≤281474976710656:=by omega
   have w6:n≤9223372036854775807:=by omega
   first|refine Q15 (Le.absorb 0 0 22 Z7) ?_|skip
   refine Q0 [1] (js hX 1 (by simp[h1,w5,w6];rfl) (jc [0] (c:=Z4e) (a:=Q9) (k:=jf))) ?_
   refine Q0 [4] (jh hX (by simp[h1,w5,w6];rfl)) ?_
   refine Q5 (Qp (by simp[h1,w5,w6];rfl) Z15 (.of_eq ?_) ?_)
   all_goals clear hX
   ·rw[(Qxs hB true).2.2.1];simp[zT]
   ·skip
    have e:=Qxs hB
    rw[(e true).1,(e true).2.1]
    first|rw[(e true).2.2.2]|rw[(e false).2.2.2]
    simp
  ·try simp at h1
   have hB:Qa8 k st n=false:=by simp only[Qa8];grind
   obtain ⟨q,hq⟩: ∃q,st.length=q+n:=⟨st.length-n,by simp only[Qa8] at hB;grind⟩
   have w1:n*32≤140737488355328:=by omega
   have w2:n≤1099511627776:=by omega
   have w3:q*32≤140737488355328:=by omega
   have w4:q≤1099511627776:=by omega
   have d1:=Q18d hq
   have d2:List.take (q+n) (st.map eT)=st.map eT:=List.take_of_length_le (by rw[List.length_map];omega)
   refine Q3 (Q0 [0,5] (jh hX (by simp[h1,hq,w1,w2,w3,w4,d1,d2];(try (simp (disch:=omega) only[Qc];(try simp[h1,hq,w1,w2,w3,w4,d1,d2])));rfl)) ?_)
   refine Q0 [0,5,6] (jh hX Z7i) ?_
   refine Q0 [6] (jh hX Z7i) ?_
   refine Q15 (Le.absorb 0 0 22 (by simp[hq,d1,d2];rfl)) ?_
   refine Q0 [4] (jh hX Z7i) ?_
   refine Q5 (Qp Z7i Z15 (.of_eq ?_) ?_)
   all_goals clear hX
   ·rw[(Q11r hB hq true).2.2.1];simp
   ·skip
    have e:=Q11r hB hq
    rw[(e true).1,(e true).2.1]
    first|rw[(e true).2.2.2]|rw[(e false).2.2.2]
    simp[List.take_take,h1.1]
theorem Q13:Q6 Tryz.prog 167:=jcb Tryz.func167
theorem Qim{F:SF}{o1 o2:Bool}{st lo:List Typ}{k:Int}{t:Typ}:Ct Tryz.prog 167 [.ptr 0 0 0,eT t] [some (25,[oSW F o1 o2 st lo k])] (.tup []) [some (25,[oSW F (o1) (o2) (st) (lo) (ndC k (decide (t.k=1)) 10)])]:=by
 refine jbS Tryz.func167 9 fun X hX=> ?_
 refine jq [0,3] ?_
 refine Qb (jt 4 (k:=(jc [0] (c:=Z4e) (a:=Q9) (k:=jf)))) ?_
 refine Qk Z7 Z15 (.of_eq ?_) ?_
 all_goals clear hX
 ·rfl
 ·simp_all
theorem Qg:Q6 Tryz.prog 168:=jcb Tryz.func168
theorem Qfc{F:SF}{o1:Bool}{st:List Typ}{y:V}{xs:List V}{k:Int}{t:Typ}(hs:st.length≤1000)(hy:y.lim 2=true)(hxs:limL 2 xs=true)(hy4:y.lim 4=true)(hx4:limL 4 xs=true)(hyj: ∀id,2≤id→y.jk (fun x=>x==id)=y)(hxj: ∀id,2≤id→jkL (fun x=>x==id) xs=xs):Ct Tryz.prog 168 [.ptr 0 0 0,eT t] [some (25,[oSV F (.lst o1 3 (st.map eT)) y k]),some (3,xs)] (.tup []) [some (25,[oSV F (.lst true 3 ((st++[t]).map eT)) y k]),some (3,xs)]:=by
 cases o1
 all_goals have w1:st.length*32≤140737488355328:=by omega
 all_goals have w2:st.length≤1099511627776:=by omega
 all_goals have w3:(st.length+1)*32≤140737488355328:=by omega
 all_goals have w4:st.length+1≤1099511627776:=by omega
 all_goals
  refine jbS Tryz.func168 18 fun X hX=> ?_
  refine Q0 [0,3] (jh hX Z2c) ?_
  first|refine Q15 (Le.expose 0 0 22 Z1g) ?_|refine Q15 (Le.nilOb 3 _) ?_
  refine jPr 11 (Q17 [0,2,3,4,5,6,8] (.alt 1 (.alt 7 (.alt 9 (.alt 10 .tail .stop) .stop) (.alt 9 (.alt 7 (.alt 10 .tail .stop) .stop) .stop)) (.alt 9 (.alt 1 (.alt 7 (.alt 10 .tail .stop) .stop) .stop) .stop))) [0,1,2] hX (jPp [0,2,3,4,5,6,8] _ (by simp[w1,w2,w3,w4,hy,hxs,hy4,hx4,hyj,hxj];try rfl) (jPa 1 4 (hlim:=Z2j) (p:=fun X hX=>(jh hX Z2c)) (k:=(jPa 7 4 (hlim:=Z2j) (p:=fun X hX=>(jh hX Z2c)) (k:=(jPa 9 4 (hlim:=Z2j) (p:=fun X hX=>(jFz (k:=jf))) (k:=(jPa 10 4 (hlim:=Z2j) (p:=fun X hX=>(jh hX Z2c)) (k:=.tail) (kr:=.stop))) (kr:=.stop))) (kr:=(jPa 9 4 (hlim:=Z2j) (p:=fun X hX=>(jFz (k:=jf))) (k:=(jPa 7 4 (hlim:=Z2j) (p:=fun X hX=>(jh hX Z2c)) (k:=(jPa 10 4 (hlim:=Z2j) (p:=fun X hX=>(jh hX Z2c)) (k:=.tail) (kr:=.stop))) (kr:=.stop))) (kr:=.stop))))) (kr:=(jPa 9 4 (hlim:=Z2j) (p:=fun X hX=>(jFz (k:=jf))) (k:=(jPa 1 4 (hlim:=Z2j) (p:=fun X hX=>(jh hX Z2c)) (k:=(jPa 7 4 (hlim:=Z2j) (p:=fun X hX=>(jh hX Z2c)) (k:=(jPa 10 4 (hlim:=Z2j) (p:=fun X hX=>(jh hX Z2c)) (k:=.tail) (kr:=.stop))) (kr:=.stop))) (kr:=.stop))) (kr:=.stop))))) (Q8.weak (jh hX Z2c) (Le.absorb 0 0 22 Z7)) ?_
  refine Qk Z2c Z15 (.of_eq ?_) ?_
  all_goals clear hX
  ·rfl
  ·simp
theorem Q25{F:SF}{o1 o2:Bool}{st lo:List Typ}{k:Int}{t:Typ}(hs:st.length≤1000):Ct Tryz.prog 168 [.ptr 0 0 0,eT t] [some (25,[oSW F o1 o2 st lo k])] (.tup []) [some (25,[oSW F (true) (o2) (st++[t]) (lo) (k)])]:=by
 cases o1
 all_goals have w1:st.length*32≤140737488355328:=by omega
 all_goals have w2:st.length≤1099511627776:=by omega
 all_goals have w3:(st.length+1)*32≤140737488355328:=by omega
 all_goals have w4:st.length+1≤1099511627776:=by omega
 all_goals
  refine jbS Tryz.func168 18 fun X hX=> ?_
  refine Q0 [0,3] (jh hX Z4c) ?_
  first|refine Q15 (Le.expose 0 0 22 Z1g) ?_|refine Q15 (Le.nilOb 3 _) ?_
  refine jPr 11 (Q17 [0,2,3,4,5,6,8] (.alt 1 (.alt 7 (.alt 9 (.alt 10 .tail .stop) .stop) (.alt 9 (.alt 7 (.alt 10 .tail .stop) .stop) .stop)) (.alt 9 (.alt 1 (.alt 7 (.alt 10 .tail .stop) .stop) .stop) .stop))) [0,1] hX (jPp [0,2,3,4,5,6,8] _ (by simp[w1,w2,w3,w4];try rfl) (jPa 1 3 (p:=fun X hX=>(jh hX Z4c)) (k:=(jPa 7 3 (p:=fun X hX=>(jh hX Z4c)) (k:=(jPa 9 3 (p:=fun X hX=>(jFz (k:=jf))) (k:=(jPa 10 3 (p:=fun X hX=>(jh hX Z4c)) (k:=.tail) (kr:=.stop))) (kr:=.stop))) (kr:=(jPa 9 3 (p:=fun X hX=>(jFz (k:=jf))) (k:=(jPa 7 3 (p:=fun X hX=>(jh hX Z4c)) (k:=(jPa 10 3 (p:=fun X hX=>(jh hX Z4c)) (k:=.tail) (kr:=.stop))) (kr:=.stop))) (kr:=.stop))))) (kr:=(jPa 9 3 (p:=fun X hX=>(jFz (k:=jf))) (k:=(jPa 1 3 (p:=fun X hX=>(jh hX Z4c)) (k:=(jPa 7 3 (p:=fun X hX=>(jh hX Z4c)) (k:=(jPa 10 3 (p:=fun X hX=>(jh hX Z4c)) (k:=.tail) (kr:=.stop))) (kr:=.stop))) (kr:=.stop))) (kr:=.stop))))) (Q8.weak (jh hX Z4c) (Le.absorb 0 0 22 Z7)) ?_
  refine Qk Z4c Z15 (.of_eq ?_) ?_
  all_goals clear hX
  ·rfl
  ·simp
theorem Q10:Q6 Tryz.prog 146:=jcb Tryz.func146
theorem Qgz{c:Str}:Ct Tryz.prog 146 [.str c] [] (eT (Q11 c)) []:=by
 refine jbS Tryz.func146 5 fun X hX=> ?_
 refine jq [0,2] ?_
 refine jq [2] ?_
 refine Q5 (je0 ?_)
 simp[Q11]
theorem Q22:Q6 Tryz.prog 156:=jcb Tryz.func156
theorem Qf2{t:Str}(ht:t.length≤1099511627776):Ct Tryz.prog 156 [.str t] [] (eT (Q1o t)) []:=by
 refine jbS Tryz.func156 30 fun X hX=> ?_
 refine jq [0,2] ?_
 refine Q0 [0,2,3] (jt 1 (k:=(jc [] (c:=Z7h) (a:=Q8p) (k:=jr)))) ?_
 refine Q4 (Q7 (jq [0,2,3,6] ?_))
 refine jd (fun h2=> ?_) (fun h2=> ?_)
 ·try simp at h2
  refine jq [2] ?_
  refine Q5 (je0 ?_)
  rw[h2];simp[Q1o,Qz4]
 ·try simp at h2
  refine jq [0,2,3,10] ?_
  refine jd (fun h4=> ?_) (fun h4=> ?_)
  ·try simp at h4
   refine jq [2] ?_
   refine Q5 (je0 ?_)
   rw[h4];simp[Q1o,Qz5]
  ·try simp at h4
   refine Q0 [2,3,14] (jt 3 (k:=(jm 4 17 [2,3,21] (p:=fun b6_3=>by (try simp at b6_3);(have hlt:=(Q2e (Qe1 b6_3).1).1);exact (jh hX Zav)) (q:=fun b6_3=>by (try simp at b6_3);exact (jh hX Z1)) (k:=jr)))) ?_
   refine jd (fun h6=> ?_) (fun h6=> ?_)
   ·try simp at h6
    refine jq [2] ?_
    refine Q5 (je0 ?_)
    have hb:=Qe1 h6.1
    rw[Q1o,if_pos hb.1,if_neg hb.2.1,if_neg hb.2.2,if_pos ((is91 (Q2e hb.1).1).2 h6.2)];rfl
   ·try simp at h6
    refine jq [2,3,24] ?_
    refine jd (fun h8=> ?_) (fun h8=> ?_)
    ·try simp at h8
     refine jq [2] ?_
     refine Q5 (je0 ?_)
     have hb:=Qe1 h8
     rw[Q1o,if_pos hb.1,if_neg hb.2.1,if_neg hb.2.2,if_neg (fun e=>h6 h8 ((is91 (Q2e hb.1).1).1 e))];rfl
    ·try simp at h8
     refine Q3 (jq [2] ?_)
     refine Q5 (je0 ?_)
     rw[Qw7 h8 h2 h4];rfl
end Go.Proofs
