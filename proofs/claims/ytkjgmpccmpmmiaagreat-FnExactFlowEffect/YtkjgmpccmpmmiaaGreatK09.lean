/- Part 10 of what the proofs lean on: what the functions of the program and of the reference compute. Conditions: none. -/
import Derived.Test.YtkjgmpccmpmmiaaGreatK08
set_option linter.all false
set_option linter.unusedVariables false
set_option linter.unusedSimpArgs false
set_option maxHeartbeats 2000000
set_option maxRecDepth 100000
namespace Go.Proofs
open Go Go.Ev
theorem Qjd:Q6 Tryz.prog 294:=jcb Tryz.func294
theorem Qj3{t:Str}{p:Nat}{b:Bool}(ht:t.length≤1099511627776)(hp:p≤t.length):Ct Tryz.prog 294 [.ptr 0 0 0] [rdr t p b] (.tup []) [rdr t (if b=true then p else (nmP t p).1) (b|| !(nmP t p).2)]:=by
 refine jbS Tryz.func294 69 fun X hX=> ?_
 refine jq [0,2] ?_
 refine Q5 (Q9 (Qo (α:=Nat) [0,2] (fun i=>[]) (fun i=>[(0,rdr t i b)]) (fun i=>p≤i∧i≤t.length∧i-p≤20∧(b=true→i=p)∧i+Q2y (20-(i-p)) (decide (i=p)) (t.drop i)=p+Q2y 20 true (t.drop p)) (fun i=>t.length-i) (p) (fun i=>by simp;rfl) Z3 ?_ ?_))
 ·simp;omega
 rintro i ⟨h0i,hi,hn,hb,hI⟩
 refine Q5 (jD [0,2,50] (jS 6 Z8 (jM 11 12 [0,2,23] (p:=by intro b;(try simp at b);exact (jS 8 Z1 (jC (c:=by apply Q7k<;>exact Z4) (a:=Q23) (k:=(jQ Z1))))) (q:=Z2e) (k:=(jS 1 Z8 (jM 8 24 [0,2,32] (p:=fun b1_18=>by (try simp at b1_18);exact (jQ (by simp[-Qc,-Qb,b1_18];(try (simp (disch:=omega) only[Q7];(try simp[-Qc,-Qb,b1_18])));rfl))) (q:=fun b1_18=>by (try simp at b1_18);exact (jQ Z1)) (k:=(jS 1 Z8 (jM 17 33 [0,2,50] (p:=fun b1_27=>by (try simp at b1_27);exact (jS 15 (by simp[-Qc,-Qb,b1_27];(try (simp (disch:=omega) only[Q7];(try simp[-Qc,-Qb,b1_27])));rfl) (jC (c:=by apply Qc8<;>exact Z4) (a:=Qce) (k:=(jQ Z1))))) (q:=fun b1_27=>by (try simp at b1_27);exact (jQ Z1)) (k:=(Q17.fin Z23)))))))))) ?_)
 have hge:t.length≤i→Q2y (20-(i-p)) (decide (i=p)) (t.drop i)=0:=fun h=>by rw[List.drop_eq_nil_of_le h];simp[Q2y]
 have hg2:i-p=20→Q2y (20-(i-p)) (decide (i=p)) (t.drop i)=0:=fun h=>by rw[h];simp[Q2y]
 have hg3:=fun h1 h2=> @Qex t i p h1 h2 h0i
 refine jd (fun h1=> ?_) (fun h1=> ?_)
 ·try simp at h1
  have ⟨⟨⟨h1d,h1a⟩,h1b⟩,h1c⟩:=h1
  rw[Qc h1a,show decide ((i:Int)-p≤0)=decide (i=p) from by simp;omega] at h1c
  rw[hg3 h1a Za,if_pos h1c] at hI
  refine Q3 (Q9 (Qd (jh hX (by simp[h1];(try (simp (disch:=omega) only[Q7];(try simp[h1])));rfl)) ?_))
  refine Qp (i+1) [0,2] (by simp[h1];try (simp (disch:=omega) only[Q7])) ?_ ?_
  ·exact ⟨by omega,by omega,by omega,by simp_all,by omega⟩
  ·omega
 ·try simp at h1
  have hI2:b=false→i=p+Q2y 20 true (t.drop p):=by
   intro hbf
   rcases Nat.lt_or_ge i t.length with hl|hl
   ·by_cases hk:i-p=20
    ·have:=hg2 hk;omega
    ·rw[hg3 hl Za] at hI
     have:Q4w t[i] (decide (i=p))=false:=by
      rw[←Qc hl];have:=h1 hbf hl Za;rwa [show decide ((i:Int)-p≤0)=decide (i=p) from by simp;omega] at this
     rw[this] at hI;simpa using hI
   ·have:=hge hl;omega
  have hnm:b=false→nmP t p=if (Q28 t i 59&& !decide (i=p)) then (i+1,true) else (i,false):=by
   intro hbf;simp only[nmP,←hI2 hbf]
  clear hI hI2 hg2 hg3 hge
  refine Qr (Q5 (Q0 [0,63] (jh hX Zx) ?_))
  refine' Qau [0] Z8 Z17 (fun h3=> ?a1_1) (fun h3=> ?a0_1) ?ak_1
  case a1_1=>
   try simp at h3
   refine Qd (jh hX Zx) ?_
   exact ⟨rfl,Eq.trans Z23 Z17⟩
  case a0_1=>
   try simp at h3
   refine Q3 ?_
   exact ⟨rfl,Eq.trans Z23 Z17⟩
  case ak_1=>
   refine Q21 (Le.of_eq Z8) ?_
   refine Qd (jt 1 (k:=(jc [0] (c:=(by apply Qbb<;>exact Z4)) (a:=Qbd) (k:=jf)))) ?_
   refine Ql Zx Z17 (.of_eq ?_) ?_
   all_goals clear hX
   ·skip
    rfl
   ·skip
    cases b
    ·have hnm:=hnm rfl
     by_cases hip:i=p<;>by_cases h9:Q28 t i 59=true<;>simp_all[hit]
    ·simp_all[hit]
end Go.Proofs
namespace Go.Proofs
open Go Go.Ev
theorem Q61:Q6 Tryz.prog 229:=jcb Tryz.func229
theorem Q60{t:Str}{p:Nat}(ht:t.length≤1099511627776)(hp:p≤t.length):Ct Tryz.prog 229 [.ptr 0 0 0] [rdr t p false] (.str (if (tyP t p).2=true then seg t p (tyP t p).1 else [])) [rdr t (tyP t p).1 (!(tyP t p).2)]:=by
 refine jbS Tryz.func229 35 fun X hX=> ?_
 refine jq [0] ?_
 refine jq [0,3] ?_
 refine Q0 [0,3] (jt 1 (k:=(jc [0] (c:=(by apply Q31<;>first|assumption|omega|(simp[*]<;>omega)|simp_all)) (a:=Q32) (k:=jf)))) ?_
 obtain ⟨q,hq,hqt,hql,hpq⟩: ∃q,adv (Q28 t p 91) p=q∧tyP t p=Q62 t q∧q≤t.length∧p≤q:=⟨_,rfl,by simp only[tyP];split<;>simp_all,by have:= @Qy8 t p 91;omega,by have:= @Qy8 t p 91;omega⟩
 refine Q21 (Le.of_eq (by simp[hq];rfl)) ?_
 refine Q5 (Q9 (Q0 [0,3,13] (jt 1 (k:=(jc [0] (c:=(by apply Q31<;>first|assumption|omega|(simp[*]<;>omega)|simp_all)) (a:=Q32) (k:=jr)))) ?_))
 refine jd (fun h4=> ?_) (fun h4=> ?_)
 ·try simp at h4
  have h4l:=Q4b h4
  have s1:q+1≤t.length:=h4l
  have s2:p≤q+1:=by omega
  refine Q3 (Q5 (Q0 [0,3,24] (jh hX (by simp[h4,s1,s2];rfl)) ?_))
  refine jd (fun h7=> ?_) (fun h7=> ?_)
  ·try simp at h7
   all_goals
    refine jq [2] ?_
    refine Q4 (Qq (by simp[h4,s1,s2];rfl) Z17 (.of_eq ?_) ?_)
    all_goals clear hX
    ·skip
     simp_all[Q62,seg]
    ·skip
     simp_all[Q62]
  ·try simp at h7
   all_goals
    refine Q3 (jD [2] (jQ (by simp[h4,s1,s2];rfl)) ?_)
    refine Q4 (Qq (by simp[h4,s1,s2];rfl) Z17 (.of_eq ?_) ?_)
    all_goals clear hX
    ·skip
     simp_all[Q62,seg]
    ·skip
     simp_all[Q62]
 ·try simp at h4
  skip
  refine Q0 [0,3,16] (jt 1 (k:=(Q8.call [0] rfl Z3 rfl (by simp[h4];rfl) Z8 (by apply Q31<;>first|assumption|omega|(simp[*]<;>omega)|simp_all) Q32 Z3 Z3 (by simp[h4];rfl) jr))) ?_
  refine jd (fun h5=> ?_) (fun h5=> ?_)
  ·try simp at h5
   have h5l:=Q4b h5
   have hnl:=Q11m (t:=t) (p:=q+1) Za
   have s1:=hnl.2.1
   have s2:p≤(nmP t (q+1)).1:=by omega
   refine Qd (jt 1 (k:=(Q8.call [0] rfl Z3 rfl (by simp[h4,h5,s1,s2];rfl) Z8 (by apply Qj3<;>first|assumption|omega|(simp[*]<;>omega)|simp_all) Qjd Z3 Z3 (by simp[h4,h5,s1,s2];rfl) jf))) ?_
   refine Q5 (Q0 [0,3,24] (jh hX (by simp[h4,h5,s1,s2];rfl)) ?_)
   refine jd (fun h7=> ?_) (fun h7=> ?_)
   ·try simp at h7
    all_goals
     refine jq [2] ?_
     refine Q4 (Qq (by simp[h4,h5,s1,s2];rfl) Z17 (.of_eq ?_) ?_)
     all_goals clear hX
     ·skip
      simp_all[Q62,seg]
     ·skip
      simp_all[Q62]
   ·try simp at h7
    all_goals
     refine Q3 (jD [2] (jQ (by simp[h4,h5,s1,s2];rfl)) ?_)
     refine Q4 (Qq (by simp[h4,h5,s1,s2];rfl) Z17 (.of_eq ?_) ?_)
     all_goals clear hX
     ·skip
      simp_all[Q62,seg]
     ·skip
      simp_all[Q62]
  ·try simp at h5
   skip
   refine Qd (jh hX (by simp[h4,h5];rfl)) ?_
   refine Q5 (Q0 [0,3,24] (jh hX (by simp[h4,h5];rfl)) ?_)
   refine jd (fun h7=> ?_) (fun h7=> ?_)
   ·try simp at h7
    all_goals
     refine jq [2] ?_
     refine Q4 (Qq (by simp[h4,h5];rfl) Z17 (.of_eq ?_) ?_)
     all_goals clear hX
     ·skip
      simp_all[Q62,seg]
     ·skip
      simp_all[Q62]
   ·try simp at h7
    all_goals
     refine Q3 (jD [2] (jQ (by simp[h4,h5];rfl)) ?_)
     refine Q4 (Qq (by simp[h4,h5];rfl) Z17 (.of_eq ?_) ?_)
     all_goals clear hX
     ·skip
      simp_all[Q62,seg]
     ·skip
      simp_all[Q62]
end Go.Proofs
namespace Go.Proofs
open Go Go.Ev
theorem Q5q:Q6 Tryz.prog 231:=jcb Tryz.func231
theorem Q5n{t:Str}(ht:t.length≤1099511627776):Ct Tryz.prog 231 [.str t] [] (.bool (Q1k t)) []:=by
 refine jbS Tryz.func231 23 fun X hX=> ?_
 refine jq [0] ?_
 refine jq [0,3] ?_
 refine Q0 [0,3] (jt 1 (k:=(jc [0] (c:=(by apply Q60<;>exact Z4)) (a:=Q61) (k:=jf)))) ?_
 refine jD [2] (jS 6 Z8 (jM 8 14 [22] (p:=by intro b;(try simp at b);exact (jS 5 Z1 (jC (c:=by apply Q7k<;>exact Z4) (a:=Q23) (k:=(jQ Z1))))) (q:=Z2e) (k:=(jQ Z8)))) ?_
 refine Q4 (je0 ?_)
 have:= @Qmv t 0 Za
 simp only[Q1k]
 cases (tyP t 0).2<;>simp
 omega
end Go.Proofs
namespace Go.Proofs
open Go Go.Ev
theorem Q1q:Q6 Tryz.prog 85:=jcb Tryz.func85
theorem Q22{n a b:Int}:Ct Tryz.prog 85 [.int .i64 n,.int .i64 a,.int .i64 b] [] (.bool (decide (a≤n∧n≤b))) []:=by
 refine jbS Tryz.func85 15 fun X hX=> ?_
 refine jq [0,1,2] ?_
 refine Q0 [6] (jt 4 (k:=(jm 4 10 [14] (p:=Z1p) (q:=Z1p) (k:=jr)))) ?_
 refine Q4 (je0 ?_)
 (try simp_all)<;>grind
end Go.Proofs
namespace Go.Proofs
open Go Go.Ev
theorem Q36:Q6 Tryz.prog 270:=jcb Tryz.func270
theorem Q35{t:Str}(ht:t.length≤1099511627776):Ct Tryz.prog 270 [.str t] [] (.bool (Q2u t)) []:=by
 refine jbS Tryz.func270 19 fun X hX=> ?_
 refine jq [0] ?_
 refine Q5 (jq [0,5,6] ?_)
 refine Q9 (Qo (α:=Nat) [0,5,6] (fun i=>[(6,.int .i64 i)]) (fun i=>[]) (fun i=>i≤t.length∧Q8a (decide (i=0)) (t.drop i)=Q8a true t) (fun i=>t.length-i) (0) (fun i=>by simp;rfl) Z3 ?_ ?_)
 ·simp
 rintro i ⟨hi,hI⟩
 refine jq [0,5,6,7] ?_
 refine Q5 (jd (fun h2=> ?_) (fun h2=> ?_))
 ·try simp at h2
  rw[List.drop_eq_getElem_cons h2] at hI
  simp only[Q8a] at hI
  refine Q3 (Q5 (Q9 (jq [0,3,5,6] ?_)))
  refine Q0 [0,5,6,14] (js hX 4 Zy (jc [] (c:=(by apply Qc8<;>exact Z4)) (a:=Qce) (k:=jr))) ?_
  refine jd (fun h4=> ?_) (fun h4=> ?_)
  ·try simp at h4
   refine jq [2] ?_
   refine Q4 (je Zy ?_)
   rw[Q2u,←hI,h4];simp
  ·try simp at h4
   rw[h4,Bool.true_and] at hI
   refine Q3 (Qd (jh hX Z6) ?_)
   refine Qp (i+1) [0,5,6] Z2a ?_ ?_
   ·exact ⟨by omega,by simpa using hI⟩
   ·omega
 ·try simp at h2
  rw[List.drop_eq_nil_of_le h2] at hI
  simp only[Q8a] at hI
  refine Qr (Q0 [2] (jt 1 (k:=(jc [] (c:=(by apply Q7k<;>exact Z4)) (a:=Q23) (k:=(jc [] (c:=(by apply Q22<;>exact Z4)) (a:=Q1q) (k:=jr)))))) ?_)
  refine Q4 (je Zy ?_)
  rw[Q2u,←hI];simp
end Go.Proofs
namespace Go.Proofs
open Go Go.Ev
theorem Qed:Q6 Tryz.prog 309:=jcb Tryz.func309
theorem Qe5{x:Fld}{n:Str}:Ct Tryz.prog 309 [eF x,.fp [.str n]] [] (.bool (decide (x.name=n))) []:=by
 refine jbS Tryz.func309 8 fun X hX=> ?_
 refine jq [1,2] ?_
 refine jq [3] ?_
 refine Q4 (je0 ?_)
 simp_all
end Go.Proofs
namespace Go.Proofs
open Go Go.Ev
theorem Q71:Q6 Tryz.prog 308:=jcb Tryz.func308
theorem Q6z{n:Str}{l:List Fld}(hl:l.length≤1099511627776):Ct Tryz.prog 308 [.lst false 3 (l.map eF),.clo (.func 309) [] [.fp [.str n]]] [] (.int .i64 (fix (fun x=>decide (x.name=n)) l)) []:=by
 refine jbS Tryz.func308 19 fun X hX=> ?_
 refine jq [0,1] ?_
 refine Q5 (jq [0,1,7,8] ?_)
 refine Q9 (Qo (α:=Nat) [0,1,7,8] (fun i=>[(8,.int .i64 i)]) (fun i=>[]) (fun i=>i≤l.length∧ ∀x∈l.take i,(fun x=>decide (x.name=n)) x=false) (fun i=>l.length-i) (0) (fun i=>by simp;rfl) Z3 ?_ ?_)
 ·simp
 rintro i ⟨hi,hI⟩
 refine jq [0,1,7,8,9] ?_
 refine Q5 (jd (fun h2=> ?_) (fun h2=> ?_))
 ·try simp at h2
  refine Q3 (Q5 (Q9 (jq [0,1,5,7,8] ?_)))
  refine Q0 [0,1,5,7,8,16] (js hX 5 Zy (jc [] (c:=(by apply Qe5<;>first|assumption|exact hs _ (List.getElem_mem h2)|omega)) (a:=Qed) (k:=jf))) ?_
  refine jd (fun h4=> ?_) (fun h4=> ?_)
  ·try simp at h4
   refine jq [4] ?_
   refine Q4 (je Zy ?_)
   rw[Q77 h2 hI (by simpa using h4)]
  ·try simp at h4
   refine Q3 (Qd (jh hX Z6) ?_)
   refine Qp (i+1) [0,1,7,8] Z2a ?_ ?_
   ·exact ⟨by omega,Q97 h2 hI (by simpa using h4)⟩
   ·omega
 ·try simp at h2
  refine Qr (jq [4] ?_)
  refine Q4 (je Zy ?_)
  rw[Q6y (p:=fun x=>decide (x.name=n)) (fun x hx=>hI x (by rw[List.take_of_length_le h2];exact hx))]
end Go.Proofs
namespace Go.Proofs
open Go Go.Ev
theorem Q9z:Q6 Tryz.prog 271:=jcb Tryz.func271
theorem Q9y{x:Cls}{n:Str}(h:x.fields.length≤1099511627776):Ct Tryz.prog 271 [eC x,.str n] [] (.int .i64 (fix (fun f=>decide (f.name=n)) x.fields)) []:=by
 refine jbS Tryz.func271 9 fun X hX=> ?_
 refine jq [2,3] ?_
 refine Q0 [4] (jt 3 (k:=(jB (c:=(by apply Q6z<;>exact Z4)) (a:=Q71) (k:=jr)))) ?_
 refine Q4 (je0 ?_)
 simp_all
end Go.Proofs
namespace Go.Proofs
open Go Go.Ev
theorem Q2g:Q6 Tryz.prog 162:=jcb Tryz.func162
theorem Q2e{t:Str}(ht:t.length≤1099511627776):Ct Tryz.prog 162 [.str t] [] (eDO (Q1g t)) []:=by
 refine jbS Tryz.func162 66 fun X hX=> ?_
 refine jq [0,2] ?_
 refine jq [0,2,3,4] ?_
 refine Q0 [0,2,3,4] (jt 1 (k:=(jc [1] (c:=(by apply Qbb<;>exact Z1d)) (a:=Qbd) (k:=jf)))) ?_
 refine Q5 (Q9 (Q21 (Le.nilC 2 0 0 1 Z8) ?_))
 refine Qo (α:=List Str×Nat×Bool) [0,2,3,4] (fun a=>[]) (fun a=>[(1,rdr t a.2.1 a.2.2),(2,some (2,[.agg [.arr 3 0 a.1.length,.str []]])),(3,some (1,a.1.map V.str))]) (fun a=>a.2.1≤t.length∧a.1.length≤8∧(a.2.2=true→Q1g t=Q55 a.2.1)∧(a.2.2=false→Q28 t 0 40=true∧Q3s t (8-a.1.length) a.2.1 a.1=Q3s t 8 1 [])) (fun a=>8-a.1.length) (([],adv (Q28 t 0 40) 0,!Q28 t 0 40)) (fun a=>by simp;rfl) Z3 ?_ ?_
 ·have h9:= @Qy8 t 0 40
  refine ⟨by simp;omega,by simp,?_,?_⟩
  ·intro h;simp at h;simp[Q1g,h]
  ·intro h;simp at h;simp[h]
 rintro ⟨ps,p,b⟩ ⟨hp,hn,hE,hI⟩
 simp only at hp hn hE hI
 cases b
 all_goals
  refine Q5 ?_
  first|(refine Q0 [0,2,3,4,20] (jt 7 (k:=(jc [1] (c:=(by apply Q31<;>exact Z1d)) (a:=Q32) (k:=jr)))) ?_)|(refine jq [0,2,3,4,20] ?_)|(refine Q0 [0,2,3,4,20] (jt 6 (k:=(jm 4 16 [0,2,3,4,20] (p:=by intro b;(try simp at b);exact (js hX 1 Z1 (Q8.call [1] rfl Z3 rfl Z1 Z8 (by apply Q31<;>exact Z1d) Q32 Z3 Z3 Z1 (jh hX Z1)))) (q:=Z1p) (k:=jf)))) ?_)
  refine jd (fun h3=> ?_) (fun h3=> ?_)
  ·try simp at h3
   all_goals
    have h3b:Q28 t p 41=false:=by simpa using h3
    obtain ⟨hI1,hI⟩:=hI rfl
    have w1:(ps.length+1)*16≤140737488355328:=by omega
    have w2:ps.length≤1099511627775:=by omega
    refine Q3 (Q9 (Q5 (Q0 [0,2,3,4,24] (jh hX (by simp[h3b,w1,w2];rfl)) ?_)))
    refine jd (fun h4=> ?_) (fun h4=> ?_)
    ·try simp at h4
     have h4b:8-ps.length=0:=by omega
     rw[h4b,Q3s,if_neg (by simp[h3b])] at hI
     have hd:Q1g t=Q55 p:=Qdz hI1 hI.symm
     refine Q0 [0,2,3,4] (jh hX (by simp[h3b,w1,w2];rfl)) ?_
     refine Qr (Q5 (Q0 [0,2,3,4,36] (jt 1 (k:=(jc [1] (c:=(by apply Q31<;>exact Z1d)) (a:=Q32) (k:=jf)))) ?_))
     refine jd (fun h7=> ?_) (fun h7=> ?_)
     ·try simp at h7
      all_goals
       have h7b:Q28 t (p+1) 86=true:=by simpa[h3b] using h7
       have w2:=Q4b h7b
       refine Qd (jh hX (by simp[h3b,w1,w2,h7b,w2];rfl)) ?_
       refine Q5 ?_
       first|(refine jD [2,3,4,58] (jQ (by simp[h3b,w1,w2,h7b,w2];rfl)) ?_)|(refine jD [2,3,4,58] (jS 10 (by simp[h3b,w1,w2,h7b,w2];rfl) (jC (c:=Z1e) (a:=Q23) (k:=(jQ Z8)))) ?_)|(refine jD [2,3,4,58] (jS 5 (by simp[h3b,w1,w2,h7b,w2];rfl) (jM 8 50 [2,3,4,58] (p:=Z2e) (q:=by intro b;(try simp at b);exact (jS 5 (by simp[-Qc,-Qb,h3b,w1,w2,h7b,w2];rfl) (jC (c:=Z1e) (a:=Q23) (k:=(jQ Z1))))) (k:=(Q17.fin Z23)))) ?_)
       refine jd (fun h11=> ?_) (fun h11=> ?_)
       ·try simp at h11
        all_goals
         refine Q0 [2] (jh hX (by simp[h3b,w1,w2,h7b,w2,h11];rfl)) ?_
         refine Q4 (Q1z (by simp[h3b,w1,w2,h7b,w2,h11];rfl) ?_ rfl)
         first
          |(rw[hd];exact Q3b _ _ _)
          |(rw[hE rfl];exact Q3b _ _ _)
          |(rw[hd,show Q1t t ps p=Q55 (p+2) from by simp only[Q1t,h7b,if_true];rw[if_pos Za]];exact Q3b _ _ _)
          |(rw[hd,show Q1t t ps p=Q55 (tyP t (p+1)).1 from by simp only[Q1t,h7b,Bool.false_eq_true,if_false];grind];exact Q3b _ _ _)
       ·try simp at h11
        all_goals
         refine Q3 (Q0 [2] (jh hX (by simp[h3b,w1,w2,h7b,w2,h11];rfl)) ?_)
         refine Q4 (Q1z (by simp[h3b,w1,w2,h7b,w2,h11];rfl) ?_ rfl)
         first
          |(rw[hd,show Q1t t ps p=⟨ps,[86],0,0⟩ from by simp only[Q1t,h7b,if_true];rw[if_neg Za]];exact Wk.refl _)
          |(rw[hd,show Q1t t ps p=⟨ps,seg t (p+1) (tyP t (p+1)).1,0,0⟩ from by simp only[Q1t,h7b,Bool.false_eq_true,if_false];grind];exact Wk.refl _)
     ·try simp at h7
      all_goals
       first
        |(have h7b:Q28 t (p+1) 86=false:=by simpa[h3b] using h7)
        |have h7b:=trivial
       refine Q0 [0,2,3,4,42] (jh hX (by simp[h3b,w1,w2,h7b];rfl)) ?_
       refine jd (fun h9=> ?_) (fun h9=> ?_)
       ·try simp at h9
        all_goals
         refine Qd (jt 1 (k:=(jc [1] (c:=(by apply Q60<;>exact Z1d)) (a:=Q61) (k:=(jh hX (by simp[h3b,w1,w2,h7b];rfl)))))) ?_
         refine Q5 ?_
         first|(refine jD [2,3,4,58] (jQ (by simp[h3b,w1,w2,h7b];rfl)) ?_)|(refine jD [2,3,4,58] (jS 10 (by simp[h3b,w1,w2,h7b];rfl) (jC (c:=Z1e) (a:=Q23) (k:=(jQ Z8)))) ?_)|(refine jD [2,3,4,58] (jS 5 (by simp[h3b,w1,w2,h7b];rfl) (jM 8 50 [2,3,4,58] (p:=Z2e) (q:=by intro b;(try simp at b);exact (jS 5 (by simp[-Qc,-Qb,h3b,w1,w2,h7b];rfl) (jC (c:=Z1e) (a:=Q23) (k:=(jQ Z1))))) (k:=(Q17.fin Z23)))) ?_)
         refine jd (fun h11=> ?_) (fun h11=> ?_)
         ·try simp at h11
          all_goals
           refine Q0 [2] (jh hX (by simp[h3b,w1,w2,h7b,h11];rfl)) ?_
           refine Q4 (Q1z (by simp[h3b,w1,w2,h7b,h11];rfl) ?_ rfl)
           first
            |(rw[hd];exact Q3b _ _ _)
            |(rw[hE rfl];exact Q3b _ _ _)
            |(rw[hd,show Q1t t ps p=Q55 (p+2) from by simp only[Q1t,h7b,if_true];rw[if_pos Za]];exact Q3b _ _ _)
            |(rw[hd,show Q1t t ps p=Q55 (tyP t (p+1)).1 from by simp only[Q1t,h7b,Bool.false_eq_true,if_false];grind];exact Q3b _ _ _)
         ·try simp at h11
          all_goals
           refine Q3 (Q0 [2] (jh hX (by simp[h3b,w1,w2,h7b,h11];rfl)) ?_)
           refine Q4 (Q1z (by simp[h3b,w1,w2,h7b,h11];rfl) ?_ rfl)
           first
            |(rw[hd,show Q1t t ps p=⟨ps,[86],0,0⟩ from by simp only[Q1t,h7b,if_true];rw[if_neg Za]];exact Wk.refl _)
            |(rw[hd,show Q1t t ps p=⟨ps,seg t (p+1) (tyP t (p+1)).1,0,0⟩ from by simp only[Q1t,h7b,Bool.false_eq_true,if_false];grind];exact Wk.refl _)
       ·try simp at h9
        all_goals
         refine Q3 (Q5 ?_)
         first|(refine jD [2,3,4,58] (jQ (by simp[h3b,w1,w2,h7b];rfl)) ?_)|(refine jD [2,3,4,58] (jS 10 (by simp[h3b,w1,w2,h7b];rfl) (jC (c:=Z1e) (a:=Q23) (k:=(jQ Z8)))) ?_)|(refine jD [2,3,4,58] (jS 5 (by simp[h3b,w1,w2,h7b];rfl) (jM 8 50 [2,3,4,58] (p:=Z2e) (q:=by intro b;(try simp at b);exact (jS 5 (by simp[-Qc,-Qb,h3b,w1,w2,h7b];rfl) (jC (c:=Z1e) (a:=Q23) (k:=(jQ Z1))))) (k:=(Q17.fin Z23)))) ?_)
         refine jd (fun h11=> ?_) (fun h11=> ?_)
         ·try simp at h11
          all_goals
           refine Q0 [2] (jh hX (by simp[h3b,w1,w2,h7b,h11];rfl)) ?_
           refine Q4 (Q1z (by simp[h3b,w1,w2,h7b,h11];rfl) ?_ rfl)
           first
            |(rw[hd];exact Q3b _ _ _)
            |(rw[hE rfl];exact Q3b _ _ _)
            |(rw[hd,show Q1t t ps p=Q55 (p+2) from by simp only[Q1t,h7b,if_true];rw[if_pos Za]];exact Q3b _ _ _)
            |(rw[hd,show Q1t t ps p=Q55 (tyP t (p+1)).1 from by simp only[Q1t,h7b,Bool.false_eq_true,if_false];grind];exact Q3b _ _ _)
         ·try simp at h11
          all_goals
           refine Q3 (Q0 [2] (jh hX (by simp[h3b,w1,w2,h7b,h11];rfl)) ?_)
           refine Q4 (Q1z (by simp[h3b,w1,w2,h7b,h11];rfl) ?_ rfl)
           first
            |(rw[hd,show Q1t t ps p=⟨ps,[86],0,0⟩ from by simp only[Q1t,h7b,if_true];rw[if_neg Za]];exact Wk.refl _)
            |(rw[hd,show Q1t t ps p=⟨ps,seg t (p+1) (tyP t (p+1)).1,0,0⟩ from by simp only[Q1t,h7b,Bool.false_eq_true,if_false];grind];exact Wk.refl _)
    ·try simp at h4
     have h4b:8-ps.length=(8-(ps.length+1))+1:=by omega
     rw[h4b,Q3s,if_neg (by simp[h3b])] at hI
     obtain ⟨hge,hle,hgt,_⟩:=Qmv hp
     have hE3:(!(tyP t p).2)=true→Q1g t=Q55 (tyP t p).1:=by
      intro h;rw[if_neg (by simpa using h)] at hI;exact Qdz hI1 hI.symm
     have hI3:(!(tyP t p).2)=false→Q28 t 0 40=true∧Q3s t (8-(ps++[if (tyP t p).2=true then seg t p (tyP t p).1 else []]).length) (tyP t p).1 (ps++[if (tyP t p).2=true then seg t p (tyP t p).1 else []])=Q3s t 8 1 []:=by
      intro h;have h:(tyP t p).2=true:=by simpa using h
      rw[if_pos h] at hI⊢;refine ⟨hI1,?_⟩;rw[←hI];simp
     refine Q3 (Q2q (n:=5) (A:=[0,1,2]) (B:=[3,4]) (L:=[2]) hmo (by kernel_rfl) tok hX (by simp[h3b,w1,w2];rfl) (jH (p:=fun X hX=>(jc [1] (c:=(by apply Q60<;>exact Z1d)) (a:=Q61) (k:=jf))) (k:=(jH (p:=fun X hX=>jr) (k:=.nil)))) (jh hX (by simp[h3b,w1,w2];rfl)) ?_)
     refine Q13 ((ps++[if (tyP t p).2=true then seg t p (tyP t p).1 else []],(tyP t p).1,!(tyP t p).2)) [0,2,3,4] 4 (by simp[hX]) Z3 (by simp[h3b,w1,w2];try (simp (disch:=omega) only[Q7])) ?_ ?_
     ·exact ⟨hle,by simp;omega,hE3,hI3⟩
     ·simp;omega
  ·try simp at h3
   all_goals
    first
     |(have h3b:Q28 t p 41=true:=by simpa using h3
       have hI1:=(hI rfl).1
       have hI:=(hI rfl).2
       have hd:Q1g t=Q1t t ps p:=Qwt hI1 (by rw[←hI];cases 8-ps.length<;>simp[Q3s,h3b])
       have w0:p+1≤t.length:=Q4b h3b
       have w1:=Qmv w0)
     |(have h3b:=trivial
       have w0:=trivial
       have w1:=trivial)
    refine Qr (Q5 (Q0 [0,2,3,4,36] (jt 1 (k:=(jc [1] (c:=(by apply Q31<;>exact Z1d)) (a:=Q32) (k:=jf)))) ?_))
    refine jd (fun h7=> ?_) (fun h7=> ?_)
    ·try simp at h7
     all_goals
      have h7b:Q28 t (p+1) 86=true:=by simpa[h3b] using h7
      have w2:=Q4b h7b
      refine Qd (jh hX (by simp[h3b,w0,w1,h7b,w2];rfl)) ?_
      refine Q5 ?_
      first|(refine jD [2,3,4,58] (jQ (by simp[h3b,w0,w1,h7b,w2];rfl)) ?_)|(refine jD [2,3,4,58] (jS 10 (by simp[h3b,w0,w1,h7b,w2];rfl) (jC (c:=Z1e) (a:=Q23) (k:=(jQ Z8)))) ?_)|(refine jD [2,3,4,58] (jS 5 (by simp[h3b,w0,w1,h7b,w2];rfl) (jM 8 50 [2,3,4,58] (p:=Z2e) (q:=by intro b;(try simp at b);exact (jS 5 (by simp[-Qc,-Qb,h3b,w0,w1,h7b,w2];rfl) (jC (c:=Z1e) (a:=Q23) (k:=(jQ Z1))))) (k:=(Q17.fin Z23)))) ?_)
      refine jd (fun h11=> ?_) (fun h11=> ?_)
      ·try simp at h11
       all_goals
        refine Q0 [2] (jh hX (by simp[h3b,w0,w1,h7b,w2,h11];rfl)) ?_
        refine Q4 (Q1z (by simp[h3b,w0,w1,h7b,w2,h11];rfl) ?_ rfl)
        first
         |(rw[hd];exact Q3b _ _ _)
         |(rw[hE rfl];exact Q3b _ _ _)
         |(rw[hd,show Q1t t ps p=Q55 (p+2) from by simp only[Q1t,h7b,if_true];rw[if_pos Za]];exact Q3b _ _ _)
         |(rw[hd,show Q1t t ps p=Q55 (tyP t (p+1)).1 from by simp only[Q1t,h7b,Bool.false_eq_true,if_false];grind];exact Q3b _ _ _)
      ·try simp at h11
       all_goals
        refine Q3 (Q0 [2] (jh hX (by simp[h3b,w0,w1,h7b,w2,h11];rfl)) ?_)
        refine Q4 (Q1z (by simp[h3b,w0,w1,h7b,w2,h11];rfl) ?_ rfl)
        first
         |(rw[hd,show Q1t t ps p=⟨ps,[86],0,0⟩ from by simp only[Q1t,h7b,if_true];rw[if_neg Za]];exact Wk.refl _)
         |(rw[hd,show Q1t t ps p=⟨ps,seg t (p+1) (tyP t (p+1)).1,0,0⟩ from by simp only[Q1t,h7b,Bool.false_eq_true,if_false];grind];exact Wk.refl _)
    ·try simp at h7
     all_goals
      first
       |(have h7b:Q28 t (p+1) 86=false:=by simpa[h3b] using h7)
       |have h7b:=trivial
      refine Q0 [0,2,3,4,42] (jh hX (by simp[h3b,w0,w1,h7b];rfl)) ?_
      refine jd (fun h9=> ?_) (fun h9=> ?_)
      ·try simp at h9
       all_goals
        refine Qd (jt 1 (k:=(jc [1] (c:=(by apply Q60<;>exact Z1d)) (a:=Q61) (k:=(jh hX (by simp[h3b,w0,w1,h7b];rfl)))))) ?_
        refine Q5 ?_
        first|(refine jD [2,3,4,58] (jQ (by simp[h3b,w0,w1,h7b];rfl)) ?_)|(refine jD [2,3,4,58] (jS 10 (by simp[h3b,w0,w1,h7b];rfl) (jC (c:=Z1e) (a:=Q23) (k:=(jQ Z8)))) ?_)|(refine jD [2,3,4,58] (jS 5 (by simp[h3b,w0,w1,h7b];rfl) (jM 8 50 [2,3,4,58] (p:=Z2e) (q:=by intro b;(try simp at b);exact (jS 5 (by simp[-Qc,-Qb,h3b,w0,w1,h7b];rfl) (jC (c:=Z1e) (a:=Q23) (k:=(jQ Z1))))) (k:=(Q17.fin Z23)))) ?_)
        refine jd (fun h11=> ?_) (fun h11=> ?_)
        ·try simp at h11
         all_goals
          refine Q0 [2] (jh hX (by simp[h3b,w0,w1,h7b,h11];rfl)) ?_
          refine Q4 (Q1z (by simp[h3b,w0,w1,h7b,h11];rfl) ?_ rfl)
          first
           |(rw[hd];exact Q3b _ _ _)
           |(rw[hE rfl];exact Q3b _ _ _)
           |(rw[hd,show Q1t t ps p=Q55 (p+2) from by simp only[Q1t,h7b,if_true];rw[if_pos Za]];exact Q3b _ _ _)
           |(rw[hd,show Q1t t ps p=Q55 (tyP t (p+1)).1 from by simp only[Q1t,h7b,Bool.false_eq_true,if_false];grind];exact Q3b _ _ _)
        ·try simp at h11
         all_goals
          refine Q3 (Q0 [2] (jh hX (by simp[h3b,w0,w1,h7b,h11];rfl)) ?_)
          refine Q4 (Q1z (by simp[h3b,w0,w1,h7b,h11];rfl) ?_ rfl)
          first
           |(rw[hd,show Q1t t ps p=⟨ps,[86],0,0⟩ from by simp only[Q1t,h7b,if_true];rw[if_neg Za]];exact Wk.refl _)
           |(rw[hd,show Q1t t ps p=⟨ps,seg t (p+1) (tyP t (p+1)).1,0,0⟩ from by simp only[Q1t,h7b,Bool.false_eq_true,if_false];grind];exact Wk.refl _)
      ·try simp at h9
       all_goals
        refine Q3 (Q5 ?_)
        first|(refine jD [2,3,4,58] (jQ (by simp[h3b,w0,w1,h7b];rfl)) ?_)|(refine jD [2,3,4,58] (jS 10 (by simp[h3b,w0,w1,h7b];rfl) (jC (c:=Z1e) (a:=Q23) (k:=(jQ Z8)))) ?_)|(refine jD [2,3,4,58] (jS 5 (by simp[h3b,w0,w1,h7b];rfl) (jM 8 50 [2,3,4,58] (p:=Z2e) (q:=by intro b;(try simp at b);exact (jS 5 (by simp[-Qc,-Qb,h3b,w0,w1,h7b];rfl) (jC (c:=Z1e) (a:=Q23) (k:=(jQ Z1))))) (k:=(Q17.fin Z23)))) ?_)
        refine jd (fun h11=> ?_) (fun h11=> ?_)
        ·try simp at h11
         all_goals
          refine Q0 [2] (jh hX (by simp[h3b,w0,w1,h7b,h11];rfl)) ?_
          refine Q4 (Q1z (by simp[h3b,w0,w1,h7b,h11];rfl) ?_ rfl)
          first
           |(rw[hd];exact Q3b _ _ _)
           |(rw[hE rfl];exact Q3b _ _ _)
           |(rw[hd,show Q1t t ps p=Q55 (p+2) from by simp only[Q1t,h7b,if_true];rw[if_pos Za]];exact Q3b _ _ _)
           |(rw[hd,show Q1t t ps p=Q55 (tyP t (p+1)).1 from by simp only[Q1t,h7b,Bool.false_eq_true,if_false];grind];exact Q3b _ _ _)
        ·try simp at h11
         all_goals
          refine Q3 (Q0 [2] (jh hX (by simp[h3b,w0,w1,h7b,h11];rfl)) ?_)
          refine Q4 (Q1z (by simp[h3b,w0,w1,h7b,h11];rfl) ?_ rfl)
          first
           |(rw[hd,show Q1t t ps p=⟨ps,[86],0,0⟩ from by simp only[Q1t,h7b,if_true];rw[if_neg Za]];exact Wk.refl _)
           |(rw[hd,show Q1t t ps p=⟨ps,seg t (p+1) (tyP t (p+1)).1,0,0⟩ from by simp only[Q1t,h7b,Bool.false_eq_true,if_false];grind];exact Wk.refl _)
end Go.Proofs
namespace Go.Proofs
open Go Go.Ev
theorem Qas:Q6 Tryz.prog 310:=jcb Tryz.func310
theorem Qao{t:Str}(ht:t.length≤1099511627776):Ct Tryz.prog 310 [.str t] [] (.bool (Q2u t||decide (t=Qm))) []:=by
 refine jbS Tryz.func310 9 fun X hX=> ?_
 refine jq [0] ?_
 refine Q0 [2] (jt 1 (k:=(jc [] (c:=(by apply Q35<;>exact Z4)) (a:=Q36) (k:=(jt 1 (k:=(jm 3 5 [8] (p:=Z1p) (q:=Z1p) (k:=jr)))))))) ?_
 refine Q4 (je0 ?_)
 (try simp_all[Qm])<;>grind
end Go.Proofs
namespace Go.Proofs
open Go Go.Ev
theorem Qhw:Q6 Tryz.prog 301:=jcb Tryz.func301
theorem Qhg{l:List Str}(hl:l.length≤1099511627776):Ct Tryz.prog 301 [.lst false 1 (l.map V.str)] [] (.bool (l.all fun t=>decide (t.length≤20000))) []:=by
 refine jbS Tryz.func301 15 fun X hX=> ?_
 refine jq [0] ?_
 refine Q5 (jq [5,6,7] ?_)
 refine Q9 (Qo (α:=Nat) [5,6,7] (fun i=>[(7,.int .i64 i)]) (fun i=>[]) (fun i=>i≤l.length∧(l.drop i).all (fun t=>decide (t.length≤20000))=l.all fun t=>decide (t.length≤20000)) (fun i=>l.length-i) (0) (fun i=>by simp;rfl) Z3 ?_ ?_)
 ·simp
 rintro i ⟨hi,hI⟩
 refine jq [5,6,7,8] ?_
 refine Q5 (jd (fun h2=> ?_) (fun h2=> ?_))
 ·try simp at h2
  rw[List.drop_eq_getElem_cons h2] at hI
  simp only[List.all_cons] at hI
  refine Q3 (Q5 (Q9 (Q0 [4,5,6,7] (jh hX Zy) ?_)))
  refine Q0 [5,6,7,13] (jh hX Zy) ?_
  refine jd (fun h4=> ?_) (fun h4=> ?_)
  ·try simp at h4
   refine jq [2] ?_
   refine Q4 (je (by simp[h2,h4];rfl) ?_)
   rw[←hI,decide_eq_false Za];rfl
  ·try simp at h4
   rw[decide_eq_true Za,Bool.true_and] at hI
   refine Q3 (Qd (jh hX Z6) ?_)
   refine Qp (i+1) [5,6,7] (by simp[h2,h4];try (simp (disch:=omega) only[Q7])) ?_ ?_
   ·exact ⟨by omega,hI⟩
   ·omega
 ·try simp at h2
  refine Qr (jq [2] ?_)
  refine Q4 (je Zy ?_)
  rw[←hI,List.drop_eq_nil_of_le h2];rfl
end Go.Proofs
namespace Go.Proofs
open Go Go.Ev
theorem Qhx:Q6 Tryz.prog 311:=jcb Tryz.func311
theorem Qhh{t:Str}(ht:t.length≤1099511627776):Ct Tryz.prog 311 [.str t] [] (.bool (decide ((Qg t).code=0))) []:=by
 refine jbS Tryz.func311 12 fun X hX=> ?_
 refine jq [0] ?_
 refine Q0 [2] (jt 2 (k:=(jB (c:=(by apply (Qhg (l:=[t]))<;>simp)) (a:=Qhw) (k:=(jt 1 (k:=(jm 5 6 [11] (p:=by intro b;(try simp at b);exact (js hX 1 Z1 (Q8.callF rfl Z3 rfl Z1 (by apply Q2e<;>exact Z4) Q2g (by (try simp[-Qc,-Qb]);rfl) (jh hX Z1)))) (q:=Z1p) (k:=jr)))))))) ?_
 refine Q4 (je0 ?_)
 unfold Qg
 (try simp_all)<;>grind
end Go.Proofs
namespace Go.Proofs
open Go Go.Ev
theorem Qvh:Q6 Tryz.prog 86:=jcb Tryz.func86
theorem Qvc{n:Int}:Ct Tryz.prog 86 [.int .i64 n] [] (.bool (decide (1≤n∧n≤44))) []:=by
 refine jbS Tryz.func86 5 fun X hX=> ?_
 refine jq [0] ?_
 refine Q0 [2] (jt 1 (k:=(jc [] (c:=(by apply Q22<;>exact Z4)) (a:=Q1q) (k:=jr)))) ?_
 refine Q4 (je0 ?_)
 simp
end Go.Proofs
namespace Go.Proofs
open Go Go.Ev
theorem Qq0:Q6 Tryz.prog 87:=jcb Tryz.func87
theorem Qpp:Ct Tryz.prog 87 [] [] (.lst true 1 (Qty.map V.str)) []:=by
 refine jbS Tryz.func87 2 fun X hX=> ?_
 refine jq [] ?_
 refine jq [0] ?_
 refine Q4 (je0 ?_)
 rfl
end Go.Proofs
namespace Go.Proofs
open Go Go.Ev
theorem Qi1:Q6 Tryz.prog 36:=jcb Tryz.func36
theorem Qhm{op:Int}:Ct Tryz.prog 36 [.int .i64 op] [] (.str (Q8l op)) []:=by
 have hol:Qty.length=44:=rfl
 refine jbS Tryz.func36 11 fun X hX=> ?_
 refine jq [0] ?_
 refine Q5 (Q0 [0,5] (jt 1 (k:=(jc [] (c:=(by apply Qvc<;>exact Z4)) (a:=Qvh) (k:=jr)))) ?_)
 refine jd (fun h1=> ?_) (fun h1=> ?_)
 ·try simp at h1
  refine jq [2] ?_
  refine Q4 (je0 ?_)
  simp only[Q8l];rw[if_pos Za]
 ·try simp at h1
  obtain ⟨k,rfl⟩: ∃k:Nat,op=(k:Int)+1:=⟨(op-1).toNat,by omega⟩
  have hk:k<Qty.length:=by rw[hol];omega
  have hk1:IntKind.i64.wrap ((k:Int)+1-1)=k:=by rw[Q7 Za Za];omega
  refine Q3 (Q0 [2] (jF (c:=(by apply Qpp<;>exact Z4)) (a:=Qq0) (k:=(jh hX (by simp[hk,hk1];(try (simp (disch:=omega) only[Q7];(try simp[hk,hk1])));rfl)))) ?_)
  refine Q4 (je (by simp[hk,hk1];rfl) ?_)
  simp only[Q8l];rw[if_neg Za,show ((k:Int)+1-1).toNat=k from by omega];simp[hk]
end Go.Proofs
namespace Go.Proofs
open Go Go.Ev
theorem Q5d:Q6 Tryz.prog 112:=jcb Tryz.func112
theorem Q5c{l:List Ins}:Ct Tryz.prog 112 [.lst false 5 (l.map eI)] [] (.int .i64 l.length) []:=by
 refine jbS Tryz.func112 5 fun X hX=> ?_
 refine jq [0] ?_
 refine jq [2] ?_
 refine Q4 (je0 ?_)
 simp
end Go.Proofs
namespace Go.Proofs
open Go Go.Ev
theorem Qt9:Q6 Tryz.prog 331:=jcb Tryz.func331
theorem Qt3{n:Int}:Ct Tryz.prog 331 [.int .i64 n] [] (.bool (Q9d n)) []:=by
 refine jbS Tryz.func331 5 fun X hX=> ?_
 refine jq [0] ?_
 refine Q0 [2] (jt 1 (k:=(jc [] (c:=(by apply Q22<;>exact Z4)) (a:=Q1q) (k:=jr)))) ?_
 refine Q4 (je0 ?_)
 simp[Q9d]
end Go.Proofs
namespace Go.Proofs
open Go Go.Ev
theorem Qoj:Q6 Tryz.prog 325:=jcb Tryz.func325
theorem Qnu{x:Ins}(h:Q5x x≤1099511627776):Ct Tryz.prog 325 [eI x] [] (.bool (Q1o x)) []:=by
 simp only[Q5x] at h
 refine jbS Tryz.func325 143 fun X hX=> ?_
 refine jq [1] ?_
 refine Q0 [1,3] (jt 4 (k:=(jm 4 7 [1,11] (p:=Z1p) (q:=Z1p) (k:=(jt 1 (k:=(jm 4 12 [1,16] (p:=Z1p) (q:=Z1p) (k:=jr)))))))) ?_
 refine Q5 (Q0 [1,3,19] (jt 2 (k:=(jc [] (c:=(by apply Qhm<;>exact Z4)) (a:=Qi1) (k:=jf)))) ?_)
 refine Q9 (jq [1,3,19,20] ?_)
 refine jd (fun h3=> ?_) (fun h3=> ?_)
 ·try simp at h3
  refine Q0 [2] (jt 2 (k:=(jm 4 23 [27] (p:=Z1p) (q:=Z1p) (k:=jr)))) ?_
  refine Q4 (je0 ?_)
  (try simp_all[Q1o,Q3e,Q9d,Qm])<;>grind
 ·try simp at h3
  refine jq [1,3,19,28] ?_
  refine jd (fun h5=> ?_) (fun h5=> ?_)
  ·try simp at h5
   refine Q0 [2] (jt 2 (k:=(jm 4 31 [35] (p:=by intro b;(try simp at b);exact (js hX 2 Z1 (Q8.call [] rfl Z3 rfl Z1 Z8 (by apply Qt3<;>exact Z4) Qt9 Z3 Z3 Z1 (jh hX Z1)))) (q:=Z1p) (k:=jr)))) ?_
   refine Q4 (je0 ?_)
   (try simp_all[Q1o,Q3e,Q9d,Qm])<;>grind
  ·try simp at h5
   refine jq [1,3,19,36] ?_
   refine jd (fun h7=> ?_) (fun h7=> ?_)
   ·try simp at h7
    refine Q0 [2] (jt 2 (k:=(jm 4 39 [43] (p:=Z28) (q:=Z1p) (k:=jr)))) ?_
    refine Q4 (je0 ?_)
    (try simp_all[Q1o,Q3e,Q9d,Qm])<;>grind
   ·try simp at h7
    refine jq [1,3,19,44] ?_
    refine jd (fun h9=> ?_) (fun h9=> ?_)
    ·try simp at h9
     refine Q0 [2] (jt 2 (k:=(jm 4 47 [51] (p:=Z28) (q:=Z1p) (k:=jr)))) ?_
     refine Q4 (je0 ?_)
     (try simp_all[Q1o,Q3e,Q9d,Qm])<;>grind
    ·try simp at h9
     refine jq [1,19,52] ?_
     refine jd (fun h11=> ?_) (fun h11=> ?_)
     ·try simp at h11
      refine Q0 [2] (jt 4 (k:=(jm 4 57 [1,61] (p:=by intro b;(try simp at b);exact (js hX 2 Z1 (Q8.call [] rfl Z3 rfl Z1 Z8 (by apply Q35<;>exact Z4) Q36 Z3 Z3 Z1 (jh hX Z1)))) (q:=Z1p) (k:=(jt 1 (k:=(jm 4 62 [1,66] (p:=Z1p) (q:=Z1p) (k:=(jt 1 (k:=(jm 4 67 [71] (p:=Z1p) (q:=Z1p) (k:=jr)))))))))))) ?_
      refine Q4 (je0 ?_)
      (try simp_all[Q1o,Q3e,Q9d,Qm])<;>grind
     ·try simp at h11
      refine jq [1,19,72] ?_
      refine jd (fun h13=> ?_) (fun h13=> ?_)
      ·try simp at h13
       refine Q0 [2] (jt 4 (k:=(jm 4 77 [1,81] (p:=Z1p) (q:=Z1p) (k:=(jt 1 (k:=(jm 4 82 [1,86] (p:=Z1p) (q:=Z1p) (k:=(jt 1 (k:=(jm 15 87 [102] (p:=by intro b;(try simp at b);exact (js hX 4 Z1 (jm 10 91 [87,101] (p:=Z1p) (q:=by intro b;(try simp at b);exact (js hX 2 Z1 (Q8.call [] rfl Z3 rfl Z1 Z8 (by apply Q5n<;>exact Z4) Q5q Z3 Z3 Z1 (js hX 1 Z1 (jm 5 95 [87,91,100] (p:=fun b14_22=>by (try simp at b14_22);(have hlt:=(Q2n b14_22).1;have hat:=Q3a (n:=76) hlt);exact (jh hX (by simp[-Qc,-Qb,hlt];rfl))) (q:=fun b14_22=>by (try simp at b14_22);exact (jh hX Z1)) (k:=(jh hX Z1))))))) (k:=(jh hX Z1))))) (q:=Z1p) (k:=jr)))))))))))) ?_
       refine Q4 (je0 ?_)
       have hp:=Qzx x.desc
       have hq:Q1k x.desc=true→Q28 x.desc 0 76=decide ((atD x.desc 0).toNat=76):=fun h=>by have hlt:=(Q2n h).1;rw[Q3a hlt,Qc hlt];simp
       (try simp_all[Q1o,Q3e])<;>grind
      ·try simp at h13
       refine jq [1,19,103] ?_
       refine jd (fun h15=> ?_) (fun h15=> ?_)
       ·try simp at h15
        refine Q0 [2] (jt 4 (k:=(jm 4 108 [1,112] (p:=by intro b;(try simp at b);exact (js hX 2 Z1 (Q8.call [] rfl Z3 rfl Z1 Z8 (by apply Q35<;>exact Z4) Q36 Z3 Z3 Z1 (jh hX Z1)))) (q:=Z1p) (k:=(jt 1 (k:=(jm 4 113 [1,117] (p:=by intro b;(try simp at b);exact (js hX 2 Z1 (Q8.call [] rfl Z3 rfl Z1 Z8 (by apply Q35<;>exact Z4) Q36 Z3 Z3 Z1 (jh hX Z1)))) (q:=Z1p) (k:=(jt 1 (k:=(jm 4 118 [122] (p:=by intro b;(try simp at b);exact (js hX 2 Z1 (Q8.call [] rfl Z3 rfl Z1 Z8 (by apply Q5n<;>exact Z4) Q5q Z3 Z3 Z1 (jh hX Z1)))) (q:=Z1p) (k:=jr)))))))))))) ?_
        refine Q4 (je0 ?_)
        (try simp_all[Q1o,Q3e,Q9d,Qm])<;>grind
       ·try simp at h15
        refine jq [1,123] ?_
        refine jd (fun h17=> ?_) (fun h17=> ?_)
        ·try simp at h17
         refine Q0 [2] (jt 4 (k:=(jm 4 128 [1,132] (p:=by intro b;(try simp at b);exact (js hX 2 Z1 (Q8.call [] rfl Z3 rfl Z1 Z8 (by apply Q35<;>exact Z4) Q36 Z3 Z3 Z1 (jh hX Z1)))) (q:=Z1p) (k:=(jt 1 (k:=(jm 4 133 [1,137] (p:=by intro b;(try simp at b);exact (js hX 2 Z1 (Q8.call [] rfl Z3 rfl Z1 Z8 (by apply Qao<;>exact Z4) Qas Z3 Z3 Z1 (jh hX Z1)))) (q:=Z1p) (k:=(jt 1 (k:=(jm 4 138 [142] (p:=by intro b;(try simp at b);exact (js hX 2 Z1 (Q8.call [] rfl Z3 rfl Z1 Z8 (by apply Qhh<;>exact Z4) Qhx Z3 Z3 Z1 (jh hX Z1)))) (q:=Z1p) (k:=jr)))))))))))) ?_
         refine Q4 (je0 ?_)
         (try simp_all[Q1o,Q3e,Q9d,Qm])<;>grind
        ·try simp at h17
         refine Q3 (jq [2] ?_)
         refine Q4 (je0 ?_)
         (try simp_all[Q1o,Q3e,Q9d,Qm])<;>grind
end Go.Proofs
namespace Go.Proofs
open Go Go.Ev
theorem Qjf:Q6 Tryz.prog 327:=jcb Tryz.func327
theorem Qj6{x:Hdl}{n:Int}(h:x.cls.length≤1099511627776)(hn0:0≤n)(hn:n≤1099511627776):Ct Tryz.prog 327 [eH x,.fp [.int .i64 n]] [] (.bool (!Q67 n x)) []:=by
 refine jbS Tryz.func327 34 fun X hX=> ?_
 refine jq [1,2] ?_
 refine Q0 [3] (jt 4 (k:=(jm 6 7 [1,2,13] (p:=fun b1_4=>by (try simp at b1_4);exact (jh hX Z1)) (q:=fun b1_4=>by (try simp at b1_4);exact (jh hX (by simp[-Qc,-Qb,b1_4];rfl))) (k:=(jt 1 (k:=(jm 5 14 [1,2,19] (p:=fun b1_11=>by (try simp at b1_11);exact (jh hX Z1)) (q:=fun b1_11=>by (try simp at b1_11);exact (jh hX (by simp[-Qc,-Qb,b1_11];rfl))) (k:=(jt 1 (k:=(jm 7 20 [2,27] (p:=fun b1_17=>by (try simp at b1_17);exact (jh hX Z1)) (q:=fun b1_17=>by (try simp at b1_17);exact (js hX 4 (by simp[-Qc,-Qb,b1_17];(try (simp (disch:=omega) only[Q7];(try simp[-Qc,-Qb,b1_17])));rfl) (Q8.call [] rfl Z3 rfl Z1 Z8 (by apply Q22<;>exact Z4) Q1q Z3 Z3 Z1 (jh hX Z1)))) (k:=(jt 1 (k:=(jm 5 28 [33] (p:=fun b1_25=>by (try simp at b1_25);exact (jh hX Z1)) (q:=fun b1_25=>by (try simp at b1_25);exact (js hX 2 (by simp[-Qc,-Qb,b1_25];rfl) (Q8.call [] rfl Z3 rfl Z1 Z8 (by apply Q35<;>exact Z4) Q36 Z3 Z3 Z1 (jh hX Z1)))) (k:=jr)))))))))))))))) ?_
 refine Q4 (je0 ?_)
 (try simp_all[Q67])<;>grind
end Go.Proofs
namespace Go.Proofs
open Go Go.Ev
theorem Q5z:Q6 Tryz.prog 332:=jcb Tryz.func332
theorem Q5y{n:Int}(hn0:0≤n)(hn:n≤1099511627776){l:List Hdl}(hl:l.length≤1099511627776)(hs: ∀x∈l,x.cls.length≤1099511627776):Ct Tryz.prog 332 [.lst false 4 (l.map eH),.clo (.func 327) [] [.fp [.int .i64 n]]] [] (.int .i64 (fix (fun x=> !Q67 n x) l)) []:=by
 refine jbS Tryz.func332 19 fun X hX=> ?_
 refine jq [0,1] ?_
 refine Q5 (jq [0,1,7,8] ?_)
 refine Q9 (Qo (α:=Nat) [0,1,7,8] (fun i=>[(8,.int .i64 i)]) (fun i=>[]) (fun i=>i≤l.length∧ ∀x∈l.take i,(fun x=> !Q67 n x) x=false) (fun i=>l.length-i) (0) (fun i=>by simp;rfl) Z3 ?_ ?_)
 ·simp
 rintro i ⟨hi,hI⟩
 refine jq [0,1,7,8,9] ?_
 refine Q5 (jd (fun h2=> ?_) (fun h2=> ?_))
 ·try simp at h2
  refine Q3 (Q5 (Q9 (jq [0,1,5,7,8] ?_)))
  refine Q0 [0,1,5,7,8,16] (js hX 5 Zy (jc [] (c:=(by apply Qj6<;>first|assumption|exact hs _ (List.getElem_mem h2)|omega)) (a:=Qjf) (k:=jf))) ?_
  refine jd (fun h4=> ?_) (fun h4=> ?_)
  ·try simp at h4
   refine jq [4] ?_
   refine Q4 (je Zy ?_)
   rw[Q77 h2 hI (by simpa using h4)]
  ·try simp at h4
   refine Q3 (Qd (jh hX Z6) ?_)
   refine Qp (i+1) [0,1,7,8] Z2a ?_ ?_
   ·exact ⟨by omega,Q97 h2 hI (by simpa using h4)⟩
   ·omega
 ·try simp at h2
  refine Qr (jq [4] ?_)
  refine Q4 (je Zy ?_)
  rw[Q6y (p:=fun x=> !Q67 n x) (fun x hx=>hI x (by rw[List.take_of_length_le h2];exact hx))]
end Go.Proofs
namespace Go.Proofs
open Go Go.Ev
theorem Q5f:Q6 Tryz.prog 326:=jcb Tryz.func326
theorem Q5e{n:Int}(hn0:0≤n)(hn:n≤1099511627776){l:List Hdl}(hl:l.length≤1099511627776)(hs: ∀x∈l,x.cls.length≤1099511627776):Ct Tryz.prog 326 [.lst false 4 (l.map eH),.clo (.func 327) [] [.fp [.int .i64 n]]] [] (.bool (l.any (fun x=> !Q67 n x))) []:=by
 refine jbS Tryz.func326 9 fun X hX=> ?_
 refine jq [0,1] ?_
 refine Q0 [4] (jt 2 (k:=(jc [] (c:=(by apply Q5y<;>exact Z4)) (a:=Q5z) (k:=jr)))) ?_
 refine Q4 (je0 ?_)
 rw[←Qk0]
end Go.Proofs
namespace Go.Proofs
open Go Go.Ev
theorem Qmq:Q6 Tryz.prog 312:=jcb Tryz.func312
theorem Qm7{x:Mth}(h:Q3t x≤1099511627776):Ct Tryz.prog 312 [eM x] [] (.bool (Qu6 x)) []:=by
 unfold Qu6
 simp only[Q3t] at h
 refine jbS Tryz.func312 46 fun X hX=> ?_
 refine jq [1] ?_
 refine Q0 [1,3] (jt 2 (k:=(jc [] (c:=(by apply Q5c<;>first|assumption|omega|(have:=Q3q (f:=Q5x) (List.getElem_mem (l:=x.code) (n:=i) Za);simp only[Q5x] at*;omega))) (a:=Q5d) (k:=jr)))) ?_
 refine Q5 (Q0 [1,3,17] (jt 1 (k:=(jc [] (c:=(by apply Q22<;>first|assumption|omega|(have:=Q3q (f:=Q5x) (List.getElem_mem (l:=x.code) (n:=i) Za);simp only[Q5x] at*;omega))) (a:=Q1q) (k:=(jt 2 (k:=(jm 5 12 [1,3,17] (p:=Z1p) (q:=Z1p) (k:=jf)))))))) ?_)
 refine jd (fun h2=> ?_) (fun h2=> ?_)
 ·try simp at h2
  refine jq [2] ?_
  refine Q4 (je Zy ?_)
  have h2b:x.code.length<1∨60<x.code.length∨6<x.hdls.length:=by
   rcases h2 with (h|h)|h
   ·simp[h]
   ·omega
   ·omega
  rw[decide_eq_true h2b];rfl
 ·try simp at h2
  refine Q3 (Q5 (Q0 [1,3,19,20,21] (jh hX Zy) ?_))
  refine Q9 (Qo (α:=Nat) [1,3,19,20,21] (fun i=>[(21,.int .i64 i)]) (fun i=>[]) (fun i=>i≤x.code.length∧(x.code.drop i).all (Q83 x.code.length)=x.code.all (Q83 x.code.length)) (fun i=>x.code.length-i) (0) (fun i=>by simp;rfl) Z3 ?_ ?_)
  ·simp
  rintro i ⟨hi,hI⟩
  refine jq [1,3,19,20,21,22] ?_
  refine Q5 (jd (fun h5=> ?_) (fun h5=> ?_))
  ·try simp at h5
   rw[Q5b h5] at hI
   refine Q3 (Q5 (Q9 (Q0 [1,3,5,19,20,21] (jh hX (by simp[h2,h5];rfl)) ?_)))
   refine Q0 [1,3,19,20,21,39] (js hX 1 (by simp[h2,h5];rfl) (jc [] (c:=(by apply Qnu<;>first|assumption|omega|(have:=Q3q (f:=Q5x) (List.getElem_mem (l:=x.code) (n:=i) Za);simp only[Q5x] at*;omega))) (a:=Qoj) (k:=(jt 2 (k:=(jm 11 28 [1,3,19,20,21,39] (p:=Z1p) (q:=by intro b;(try simp at b);exact (js hX 2 (by simp[-Qc,-Qb,h2,h5];rfl) (Q8.call [] rfl Z3 rfl Z1 Z8 (by apply Qhm<;>first|assumption|omega|(have:=Q3q (f:=Q5x) (List.getElem_mem (l:=x.code) (n:=i) Za);simp only[Q5x] at*;omega)) Qi1 Z3 Z3 Z1 (js hX 2 Z1 (jm 5 33 [1,3,19,20,21,28,38] (p:=by intro b;(try simp at b);exact (jh hX (by simp[-Qc,-Qb,h2,h5];rfl))) (q:=Z1p) (k:=(jh hX Z1))))))) (k:=jf))))))) ?_
   refine jd (fun h7=> ?_) (fun h7=> ?_)
   ·try simp at h7
    refine jq [2] ?_
    refine Q4 (je (by simp[h2,h5,h7];rfl) ?_)
    have:Q83 x.code.length x.code[i]=false:=by unfold Q83;grind
    simp[←hI,this]
   ·try simp at h7
    have h7b:Q83 x.code.length x.code[i]=true:=by unfold Q83;grind
    rw[h7b,Bool.true_and] at hI
    refine Q3 (Qd (jh hX Z6) ?_)
    refine Q13 (i+1) [1,3,19,20,21] 2 (by simp[hX]) Z3 (by simp[h2,h5,h7];try (simp (disch:=omega) only[Q7])) ?_ ?_
    ·exact ⟨by omega,hI⟩
    ·omega
  ·try simp at h5
   rw[List.drop_eq_nil_of_le h5] at hI
   refine Qr (Q0 [2] (js hX 3 (by simp[h2,h5];rfl) (jB (c:=(by apply Q5e<;>first|assumption|omega|(intro y hy;have:=Q3q (f:=Qff) hy;simp only[Qff] at*;omega))) (a:=Q5f) (k:=jr))) ?_)
   refine Q4 (je (by simp[h2,h5];rfl) ?_)
   have h2b: ¬(x.code.length<1∨60<x.code.length∨6<x.hdls.length):=by omega
   rw[decide_eq_false h2b,←hI]
   simp only[List.all_nil,Bool.true_and,Bool.not_false]
   congr 1
   rw[Bool.eq_iff_iff]
   simp
end Go.Proofs
namespace Go.Proofs
open Go Go.Ev
theorem Qok:Q6 Tryz.prog 251:=jcb Tryz.func251
theorem Qnv{t:Str}(ht:t.length≤1099511627776):Ct Tryz.prog 251 [.str t] [] (eDO (Qg t)) []:=by
 refine jbS Tryz.func251 10 fun X hX=> ?_
 refine jq [0,2] ?_
 refine Q5 (Q0 [0,2,6] (jt 2 (k:=(jB (c:=(by apply (Qhg (l:=[t]))<;>simp)) (a:=Qhw) (k:=jr)))) ?_)
 refine jd (fun h1=> ?_) (fun h1=> ?_)
 ·try simp at h1
  refine jq [2] ?_
  refine Q4 (Q1z Z8 ?_ rfl)
  rw[show Qg t=⟨[],[],0,2⟩ from by unfold Qg;rw[if_pos (by simpa using h1)]]
  exact Q3b _ _ _
 ·try simp at h1
  refine Q3 (Q0 [2] (jt 1 (k:=(jc [] (c:=(by apply Q2e<;>exact Z4)) (a:=Q2g) (k:=jr)))) ?_)
  refine Q4 (Q1z Z8 ?_ rfl)
  rw[show Qg t=Q1g t from by unfold Qg;rw[if_neg (by simpa using h1)]]
  exact Wk.refl _
end Go.Proofs
namespace Go.Proofs
open Go Go.Ev
theorem Qjc:Q6 Tryz.prog 252:=jcb Tryz.func252
theorem Qj2{l:List Str}:Ct Tryz.prog 252 [.lst false 1 (l.map V.str)] [] (.int .i64 l.length) []:=by
 refine jbS Tryz.func252 5 fun X hX=> ?_
 refine jq [0] ?_
 refine jq [2] ?_
 refine Q4 (je0 ?_)
 simp
end Go.Proofs
namespace Go.Proofs
open Go Go.Ev
theorem Q9u:Q6 Tryz.prog 178:=jcb Tryz.func178
theorem Q9o{t:Str}(ht:t.length≤1099511627776):Ct Tryz.prog 178 [.str t] [] (.int .i64 (Q5v t)) []:=by
 have hd8:=Qak t
 refine jbS Tryz.func178 13 fun X hX=> ?_
 refine jq [0] ?_
 refine Q0 [3] (jt 1 (k:=(jF (c:=(by apply Qnv<;>exact Z20)) (a:=Qok) (k:=jr)))) ?_
 refine Q5 (jq [3,8] ?_)
 refine jd (fun h2=> ?_) (fun h2=> ?_)
 ·try simp at h2
  refine jq [2] ?_
  refine Q4 (je0 ?_)
  simp_all[Q5v]
 ·try simp at h2
  refine Q3 (Q0 [2] (jt 3 (k:=(jc [] (c:=(by apply Qj2<;>exact Z20)) (a:=Qjc) (k:=jr)))) ?_)
  refine Q4 (je0 ?_)
  simp_all[Q5v]
end Go.Proofs
namespace Go.Proofs
open Go Go.Ev
theorem Qi2:Q6 Tryz.prog 313:=jcb Tryz.func313
theorem Qhn{x:Mth}(h:x.desc.length≤1099511627776):Ct Tryz.prog 313 [eM x] [] (.int .i64 (Q5v x.desc+if x.static=true then 0 else 1)) []:=by
 refine jbS Tryz.func313 13 fun X hX=> ?_
 refine jq [1] ?_
 refine Q0 [1,3] (jt 2 (k:=(jc [] (c:=(by apply Q9o<;>exact Z4)) (a:=Q9u) (k:=jr)))) ?_
 have hd8:=Qit x.desc
 have hw:IntKind.i64.wrap (Q5v x.desc+1)=Q5v x.desc+1:=Q7 Za Za
 refine Q5 (jq [3,9] ?_)
 refine' Qau [3] Z8 Z17 (fun h2=> ?a1_1) (fun h2=> ?a0_1) ?ak_1
 case a1_1=>
  try simp at h2
  refine Qd (jh hX Z6) ?_
  exact ⟨rfl,Eq.trans Z23 Z17⟩
 case a0_1=>
  try simp at h2
  refine Q3 ?_
  exact ⟨rfl,Eq.trans Z23 Z17⟩
 case ak_1=>
  refine Q21 (Le.of_eq Z8) ?_
  refine jq [2] ?_
  refine Q4 (je0 ?_)
  cases hst:x.static<;>simp_all
end Go.Proofs
namespace Go.Proofs
open Go Go.Ev
theorem Qjg:Q6 Tryz.prog 272:=jcb Tryz.func272
theorem Qj7{x:Mth}(h:Q3t x≤1099511627776):Ct Tryz.prog 272 [eM x] [] (.bool (Q3d x)) []:=by
 have hM:=h
 simp only[Q3t] at h
 refine jbS Tryz.func272 93 fun X hX=> ?_
 refine jq [1] ?_
 refine Q5 (Q0 [1,24] (jt 2 (k:=(jc [] (c:=(by apply Qao<;>exact Z4)) (a:=Qas) (k:=(jt 2 (k:=(jm 5 7 [1,12] (p:=Z1p) (q:=by intro b;(try simp at b);exact (js hX 2 Z1 (Q8.call [] rfl Z3 rfl Z1 Z8 (by apply Qhh<;>exact Z4) Qhx Z3 Z3 Z1 (jh hX Z1)))) (k:=(jt 1 (k:=(jm 5 13 [1,18] (p:=Z1p) (q:=Z28) (k:=(jt 1 (k:=(jm 5 19 [1,24] (p:=Z1p) (q:=Z28) (k:=jf)))))))))))))))) ?_)
 refine jd (fun h1=> ?_) (fun h1=> ?_)
 ·try simp at h1
  have hh:Q4g x=false:=by unfold Q4g;grind
  refine jq [2] ?_
  refine Q4 (je0 ?_)
  rw[Qct hh]
 ·try simp at h1
  have hh:Q4g x=true:=by unfold Q4g;grind
  refine Q3 (Q5 (jq [1,26] ?_))
  refine jd (fun h3=> ?_) (fun h3=> ?_)
  ·try simp at h3
   refine Q0 [2] (jt 4 (k:=(jm 4 30 [1,34] (p:=Z1p) (q:=Z1p) (k:=(jt 1 (k:=(jm 5 35 [1,40] (p:=Z1p) (q:=Z1p) (k:=(jt 1 (k:=(jm 5 41 [1,46] (p:=Z1p) (q:=Z1p) (k:=(jt 1 (k:=(jm 4 47 [1,51] (p:=Z1p) (q:=Z1p) (k:=(jt 1 (k:=(jm 4 52 [1,56] (p:=Z1p) (q:=Z1p) (k:=(jt 1 (k:=(jm 4 57 [61] (p:=Z1p) (q:=Z1p) (k:=jr)))))))))))))))))))))))) ?_
   refine Q4 (je0 ?_)
   rw[Q9b hh h3]
   simp[Qm];grind
  ·try simp at h3
   rw[Qgw hh h3]
   refine Q3 (Q5 (jD [1,71] (jS 1 Z8 (jC (c:=by apply Qm7<;>exact Z4) (a:=Qmq) (k:=(jS 2 Z8 (jM 6 65 [1,71] (p:=Z2e) (q:=by intro b;(try simp at b);exact (jS 3 Z1 (jC (c:=by apply Qhn<;>exact Z4) (a:=Qi2) (k:=(jQ Z1))))) (k:=(Q17.fin Z23))))))) ?_))
   refine jd (fun h5=> ?_) (fun h5=> ?_)
   ·try simp at h5
    refine jq [2] ?_
    refine Q4 (je (by simp[h5];rfl) ?_)
    rcases h5 with h5|h5
    ·simp[h5]
    ·rw[decide_eq_false (p:=_≤_) Za];simp
   ·try simp at h5
    refine Q3 (Q0 [2] (js hX 4 (by simp[h5];rfl) (jm 17 75 [92] (p:=Z1p) (q:=by intro b;(try simp at b);exact (js hX 4 (by simp[-Qc,-Qb,h5];rfl) (jm 4 79 [1,75,83] (p:=by intro b;(try simp at b);exact (jh hX (by simp[-Qc,-Qb,h5];rfl))) (q:=Z1p) (k:=(js hX 1 Z1 (jm 7 84 [75,91] (p:=by intro b;(try simp at b);exact (js hX 2 (by simp[-Qc,-Qb,h5];rfl) (Q8.callF rfl Z3 rfl Z1 (by apply Q2e<;>exact Z4) Q2g (by (try simp[-Qc,-Qb]);rfl) (jh hX Z1)))) (q:=Z1p) (k:=(jh hX Z1)))))))) (k:=jr))) ?_)
    refine Q4 (je (by simp[h5];rfl) ?_)
    rw[h5.1,decide_eq_true h5.2]
    simp only[Bool.true_and,Qm]
    congr 1
end Go.Proofs
namespace Go.Proofs
open Go Go.Ev
theorem Qdl:Q6 Tryz.prog 315:=jcb Tryz.func315
theorem Qdj{x:Mth}{n d:Str}:Ct Tryz.prog 315 [eM x,.fp [.str n],.fp [.str d]] [] (.bool (decide (x.name=n)&&decide (x.desc=d))) []:=by
 refine jbS Tryz.func315 15 fun X hX=> ?_
 refine jq [1,2,3] ?_
 refine Q0 [4] (jt 5 (k:=(jm 5 9 [14] (p:=Z1p) (q:=Z1p) (k:=jr)))) ?_
 refine Q4 (je0 ?_)
 simp_all
end Go.Proofs
namespace Go.Proofs
open Go Go.Ev
theorem Q6i:Q6 Tryz.prog 314:=jcb Tryz.func314
theorem Q6h{n d:Str}{l:List Mth}(hl:l.length≤1099511627776):Ct Tryz.prog 314 [.lst false 9 (l.map eM),.clo (.func 315) [] [.fp [.str n],.fp [.str d]]] [] (.int .i64 (fix (fun x=>decide (x.name=n)&&decide (x.desc=d)) l)) []:=by
 refine jbS Tryz.func314 19 fun X hX=> ?_
 refine jq [0,1] ?_
 refine Q5 (jq [0,1,7,8] ?_)
 refine Q9 (Qo (α:=Nat) [0,1,7,8] (fun i=>[(8,.int .i64 i)]) (fun i=>[]) (fun i=>i≤l.length∧ ∀x∈l.take i,(fun x=>decide (x.name=n)&&decide (x.desc=d)) x=false) (fun i=>l.length-i) (0) (fun i=>by simp;rfl) Z3 ?_ ?_)
 ·simp
 rintro i ⟨hi,hI⟩
 refine jq [0,1,7,8,9] ?_
 refine Q5 (jd (fun h2=> ?_) (fun h2=> ?_))
 ·try simp at h2
  refine Q3 (Q5 (Q9 (jq [0,1,5,7,8] ?_)))
  refine Q0 [0,1,5,7,8,16] (js hX 5 Zy (jc [] (c:=(by apply Qdj<;>first|assumption|exact hs _ (List.getElem_mem h2)|omega)) (a:=Qdl) (k:=jf))) ?_
  refine jd (fun h4=> ?_) (fun h4=> ?_)
  ·try simp at h4
   refine jq [4] ?_
   refine Q4 (je Zy ?_)
   rw[Q77 h2 hI (by simpa using h4)]
  ·try simp at h4
   refine Q3 (Qd (jh hX Z6) ?_)
   refine Qp (i+1) [0,1,7,8] Z2a ?_ ?_
   ·exact ⟨by omega,Q97 h2 hI (by simpa using h4)⟩
   ·omega
 ·try simp at h2
  refine Qr (jq [4] ?_)
  refine Q4 (je Zy ?_)
  rw[Q6y (p:=fun x=>decide (x.name=n)&&decide (x.desc=d)) (fun x hx=>hI x (by rw[List.take_of_length_le h2];exact hx))]
end Go.Proofs
namespace Go.Proofs
open Go Go.Ev
theorem Q4z:Q6 Tryz.prog 273:=jcb Tryz.func273
theorem Q4y{x:Cls}{n d:Str}(h:x.methods.length≤1099511627776):Ct Tryz.prog 273 [eC x,.str n,.str d] [] (.int .i64 (fix (fun f=>decide (f.name=n)&&decide (f.desc=d)) x.methods)) []:=by
 refine jbS Tryz.func273 11 fun X hX=> ?_
 refine jq [3,4,5] ?_
 refine Q0 [6] (jt 3 (k:=(jB (c:=(by apply Q6h<;>exact Z4)) (a:=Q6i) (k:=jr)))) ?_
 refine Q4 (je0 ?_)
 simp_all
end Go.Proofs
namespace Go.Proofs
open Go Go.Ev
theorem Qky:Q6 Tryz.prog 194:=jcb Tryz.func194
theorem Qkf{x:Cls}(h:Q1n x≤1099511627776):Ct Tryz.prog 194 [eC x] [] (.bool (Q49 x)) []:=by
 simp only[Q1n] at h
 refine jbS Tryz.func194 102 fun X hX=> ?_
 refine jq [1] ?_
 refine Q5 (Q0 [1,43] (jt 2 (k:=(jc [] (c:=(by apply Q35<;>exact Z11)) (a:=Q36) (k:=(jt 2 (k:=(jm 5 11 [1,16] (p:=Z1p) (q:=by intro b;(try simp at b);exact (js hX 2 Z1 (Q8.call [] rfl Z3 rfl Z1 Z8 (by apply Q35<;>exact Z11) Q36 Z3 Z3 Z1 (jh hX Z1)))) (k:=(jt 1 (k:=(jm 6 17 [1,23] (p:=Z1p) (q:=Z1p) (k:=(jt 1 (k:=(jm 7 24 [1,31] (p:=Z1p) (q:=by intro b;(try simp at b);exact (js hX 3 Z1 (jm 3 27 [1,24,30] (p:=Z1p) (q:=Z1p) (k:=(jh hX Z1))))) (k:=(jt 1 (k:=(jm 5 32 [1,37] (p:=Z1p) (q:=Z1p) (k:=(jt 1 (k:=(jm 5 38 [1,43] (p:=fun b1_32=>by (try simp at b1_32);exact (jh hX Z1)) (q:=fun b1_32=>by (try simp at b1_32);exact (jh hX (by simp[-Qc,-Qb,b1_32];rfl))) (k:=jf)))))))))))))))))))))))) ?_)
 refine jd (fun h1=> ?_) (fun h1=> ?_)
 ·try simp at h1
  have hh:Qae x=false:=by unfold Qae;grind
  refine jq [2] ?_
  refine Q4 (je Zx ?_)
  simp[Q49,hh]
 ·try simp at h1
  have hh:Qae x=true:=by unfold Qae;grind
  rw[show Q49 x=(Qcx [] x.fields&&Qcs x.abstr [] x.methods) from by simp[Q49,hh]]
  refine Q3 (Q5 (Q0 [1,45,46,47] (jh hX Zx) ?_))
  refine Q9 (Qo (α:=Nat) [1,45,46,47] (fun i=>[(47,.int .i64 i)]) (fun i=>[]) (fun i=>i≤x.fields.length∧Qcx (x.fields.take i) (x.fields.drop i)=Qcx [] x.fields) (fun i=>x.fields.length-i) (0) (fun i=>by simp;rfl) Z3 ?_ ?_)
  ·simp
  rintro i ⟨hi,hI⟩
  refine jq [1,45,46,47,48] ?_
  refine Q5 (jd (fun h4=> ?_) (fun h4=> ?_))
  ·try simp at h4
   rw[List.drop_eq_getElem_cons h4] at hI
   simp only[Qcx] at hI
   have hfx:=Qu3 (p:=fun f:Fld=>decide (f.name=x.fields[i].name)) h4 Z3
   refine Q3 (Q5 (Q9 (Q0 [1,3,4,45,46,47] (jh hX (by simp[h1,h4];rfl)) ?_)))
   refine Q0 [1,45,46,47,69] (js hX 2 (by simp[h1,h4];rfl) (jc [] (c:=(by apply Q35<;>exact Z11)) (a:=Q36) (k:=(jt 2 (k:=(jm 5 56 [1,3,4,45,46,47,61] (p:=Z1p) (q:=by intro b;(try simp at b);exact (js hX 2 (by simp[-Qc,-Qb,h1,h4];rfl) (Q8.call [] rfl Z3 rfl Z1 Z8 (by apply Q5n<;>exact Z11) Q5q Z3 Z3 Z1 (jh hX Z1)))) (k:=(jt 1 (k:=(jm 7 62 [1,45,46,47,69] (p:=Z1p) (q:=by intro b;(try simp at b);exact (js hX 3 (by simp[-Qc,-Qb,h1,h4];rfl) (Q8.call [] rfl Z3 rfl Z1 Z8 (by apply Q9y<;>exact Z11) Q9z Z3 Z3 Z1 (jh hX Z1)))) (k:=jf))))))))))) ?_
   refine jd (fun h6=> ?_) (fun h6=> ?_)
   ·try simp at h6
    refine jq [2] ?_
    refine Q4 (je (by simp[h1,h4];rfl) ?_)
    have h6b:(Q2u x.fields[i].name&&Q1k x.fields[i].type&&(x.fields.take i).all (fun g=> !decide (g.name=x.fields[i].name)))=false:=by rw[←hfx];grind
    rw[←hI,h6b];rfl
   ·try simp at h6
    have h6b:(Q2u x.fields[i].name&&Q1k x.fields[i].type&&(x.fields.take i).all (fun g=> !decide (g.name=x.fields[i].name)))=true:=by rw[←hfx];grind
    refine Q3 (Qd (jh hX Z6) ?_)
    refine Q13 (i+1) [1,45,46,47] 1 (by simp[hX]) Z3 (by simp[h1,h4];try (simp (disch:=omega) only[Q7])) ?_ ?_
    ·exact ⟨by omega,by rw[List.take_succ_eq_append_getElem h4,←hI,h6b];simp⟩
    ·omega
  ·try simp at h4
   rw[List.drop_eq_nil_of_le h4] at hI
   simp only[Qcx] at hI
   rw[←hI,Bool.true_and]
   refine Qr (Q5 (Q0 [1,72,73,74] (jh hX (by simp[h1,h4];rfl)) ?_))
   refine Q9 (Qo (α:=Nat) [1,72,73,74] (fun i=>[(74,.int .i64 i)]) (fun i=>[]) (fun i=>i≤x.methods.length∧Qcs x.abstr (x.methods.take i) (x.methods.drop i)=Qcs x.abstr [] x.methods) (fun i=>x.methods.length-i) (0) (fun i=>by simp;rfl) Z3 ?_ ?_)
   ·simp
   rintro i ⟨hi2,hI2⟩
   refine jq [1,72,73,74,75] ?_
   refine Q5 (jd (fun h10=> ?_) (fun h10=> ?_))
   ·try simp at h10
    rw[List.drop_eq_getElem_cons h10] at hI2
    simp only[Qcs] at hI2
    have hfx:=Qu3 (p:=fun m:Mth=>decide (m.name=x.methods[i].name)&&decide (m.desc=x.methods[i].desc)) h10 Z3
    refine Q3 (Q5 (Q9 (Q0 [1,5,6,72,73,74] (jh hX (by simp[h1,h4,h10];rfl)) ?_)))
    refine Q0 [1,72,73,74,100] (js hX 1 (by simp[h1,h4,h10];rfl) (jc [] (c:=(by apply Qj7<;>exact Z11)) (a:=Qjg) (k:=(jt 2 (k:=(jm 8 82 [1,5,6,72,73,74,90] (p:=Z1p) (q:=by intro b;(try simp at b);exact (js hX 3 (by simp[-Qc,-Qb,h1,h4,h10];rfl) (jm 4 85 [1,5,6,72,73,74,82,89] (p:=by intro b;(try simp at b);exact (jh hX (by simp[-Qc,-Qb,h1,h4,h10];rfl))) (q:=Z1p) (k:=(jh hX Z1))))) (k:=(jt 1 (k:=(jm 9 91 [1,72,73,74,100] (p:=Z1p) (q:=by intro b;(try simp at b);exact (js hX 5 (by simp[-Qc,-Qb,h1,h4,h10];rfl) (Q8.call [] rfl Z3 rfl Z1 Z8 (by apply Q4y<;>exact Z11) Q4z Z3 Z3 Z1 (jh hX Z1)))) (k:=jf))))))))))) ?_
    refine jd (fun h12=> ?_) (fun h12=> ?_)
    ·try simp at h12
     refine jq [2] ?_
     refine Q4 (je (by simp[h1,h4,h10];rfl) ?_)
     have h12b:(Q3d x.methods[i]&& !(x.methods[i].abstr&& !x.abstr)&&(x.methods.take i).all (fun g=> !(decide (g.name=x.methods[i].name)&&decide (g.desc=x.methods[i].desc))))=false:=by rw[←hfx];grind
     rw[←hI2,h12b];rfl
    ·try simp at h12
     have h12b:(Q3d x.methods[i]&& !(x.methods[i].abstr&& !x.abstr)&&(x.methods.take i).all (fun g=> !(decide (g.name=x.methods[i].name)&&decide (g.desc=x.methods[i].desc))))=true:=by rw[←hfx];grind
     refine Q3 (Qd (jh hX Z6) ?_)
     refine Q13 (i+1) [1,72,73,74] 1 (by simp[hX]) Z3 (by simp[h1,h4,h10];try (simp (disch:=omega) only[Q7])) ?_ ?_
     ·exact ⟨by omega,by rw[List.take_succ_eq_append_getElem h10,←hI2,h12b];simp⟩
     ·omega
   ·try simp at h10
    rw[List.drop_eq_nil_of_le h10] at hI2
    simp only[Qcs] at hI2
    rw[←hI2]
    refine Qr (jq [2] ?_)
    refine Q4 (je (by simp[h1,h4,h10];rfl) ?_)
    simp
end Go.Proofs
namespace Go.Proofs
open Go Go.Ev
theorem Qap:Q6 Tryz.prog 292:=jcb Tryz.func292
theorem Qal{l:List Str}{t:Str}(hl:l.length≤1099511627776):Ct Tryz.prog 292 [.lst false 1 (l.map V.str),.str t] [] (.int .i64 (fix (fun x=>decide (t=x)) l)) []:=by
 refine jbS Tryz.func292 19 fun X hX=> ?_
 refine jq [0,1] ?_
 refine Q5 (jq [0,1,7,8] ?_)
 refine Q9 (Qo (α:=Nat) [0,1,7,8] (fun i=>[(8,.int .i64 i)]) (fun i=>[]) (fun i=>i≤l.length∧ ∀x∈l.take i,(fun x=>decide (t=x)) x=false) (fun i=>l.length-i) (0) (fun i=>by simp;rfl) Z3 ?_ ?_)
 ·simp
 rintro i ⟨hi,hI⟩
 refine jq [0,1,7,8,9] ?_
 refine Q5 (jd (fun h2=> ?_) (fun h2=> ?_))
 ·try simp at h2
  refine Q3 (Q5 (Q9 (jq [0,1,5,7,8] ?_)))
  refine Q0 [0,1,5,7,8,16] (jh hX Zy) ?_
  refine jd (fun h4=> ?_) (fun h4=> ?_)
  ·try simp at h4
   refine jq [4] ?_
   refine Q4 (je Zy ?_)
   rw[Q77 h2 hI (by simpa using h4)]
  ·try simp at h4
   refine Q3 (Qd (jh hX Z6) ?_)
   refine Qp (i+1) [0,1,7,8] Z2a ?_ ?_
   ·exact ⟨by omega,Q97 h2 hI (by simpa using h4)⟩
   ·omega
 ·try simp at h2
  refine Qr (jq [4] ?_)
  refine Q4 (je Zy ?_)
  rw[Q6y (p:=fun x=>decide (t=x)) (fun x hx=>hI x (by rw[List.take_of_length_le h2];exact hx))]
end Go.Proofs
namespace Go.Proofs
open Go Go.Ev
theorem Q2j:Q6 Tryz.prog 225:=jcb Tryz.func225
theorem Q2i{l:List Str}{t:Str}(hl:l.length≤1099511627776):Ct Tryz.prog 225 [.lst false 1 (l.map V.str),.str t] [] (.bool (l.any (fun x=>decide (t=x)))) []:=by
 refine jbS Tryz.func225 9 fun X hX=> ?_
 refine jq [0,1] ?_
 refine Q0 [4] (jt 2 (k:=(jc [] (c:=(by apply Qal<;>exact Z4)) (a:=Qap) (k:=jr)))) ?_
 refine Q4 (je0 ?_)
 rw[←Qk0]
end Go.Proofs
namespace Go.Proofs
open Go Go.Ev
theorem Qb3:Q6 Tryz.prog 274:=jcb Tryz.func274
theorem Qb1:Ct Tryz.prog 274 [] [] (.lst true 1 (Q44.map V.str)) []:=by
 refine jbS Tryz.func274 2 fun X hX=> ?_
 refine jq [] ?_
 refine jq [0] ?_
 refine Q4 (je0 ?_)
 simp[Q44]
end Go.Proofs
namespace Go.Proofs
open Go Go.Ev
theorem Q7f:Q6 Tryz.prog 195:=jcb Tryz.func195
theorem Q7b{n:Str}:Ct Tryz.prog 195 [.str n] [] (.bool (bIn n)) []:=by
 refine jbS Tryz.func195 6 fun X hX=> ?_
 refine jq [0] ?_
 refine Q0 [2] (jc [] (c:=(by apply Qb1<;>exact Z4)) (a:=Qb3) (k:=(jt 1 (k:=(jB (c:=(by apply (Q2i (l:=Q44))<;>first|decide|simp)) (a:=Q2j) (k:=jr)))))) ?_
 refine Q4 (je0 ?_)
 rw[Qz9]
end Go.Proofs
namespace Go.Proofs
open Go Go.Ev
theorem Qgd:Q6 Tryz.prog 193:=jcb Tryz.func193
theorem Qg2{l:List Cls}(hl:l.length≤1099511627776){c:Cls}{k:Int}(h:Q1n c≤1099511627776):Ct Tryz.prog 193 [.int .i64 k,eC c,.fp [wv l]] [] (.int .i64 (pI1 l c k)) []:=by
 refine jbS Tryz.func193 25 fun X hX=> ?_
 refine jq [0,2,4] ?_
 refine Q5 (Q9 (Q0 [0,2,4,6] (jt 1 (k:=(jc [] (c:=(by apply Qkf<;>exact Z4)) (a:=Qky) (k:=jr)))) ?_))
 refine jd (fun h1=> ?_) (fun h1=> ?_)
 ·try simp at h1
  refine jq [5] ?_
  refine Q4 (je0 ?_)
  simp only[pI1]
  simp_all
 ·try simp at h1
  refine jD [10] (jS 2 Z8 (jC (c:=by apply Q7b<;>exact Z4) (a:=Q7f) (k:=(jS 1 Z8 (jM 10 14 [24] (p:=Z2e) (q:=Z2e) (k:=(jQ Z8))))))) ?_
  refine jd (fun h3=> ?_) (fun h3=> ?_)
  ·try simp at h3
   refine jq [5] ?_
   refine Q4 (je0 ?_)
   simp only[pI1]
   simp_all
  ·try simp at h3
   refine Q3 (jq [5] ?_)
   refine Q4 (je0 ?_)
   simp only[pI1]
   simp_all
end Go.Proofs
namespace Go.Proofs
open Go Go.Ev
theorem Q1y:Q6 Tryz.prog 220:=jcb Tryz.func220
theorem Q1x{l:List Cls}{n:Str}(hl:l.length≤1099511627776):Ct Tryz.prog 220 [wv l,.str n] [] (.bool (isKnown l n)) []:=by
 refine jbS Tryz.func220 21 fun X hX=> ?_
 refine jq [0,1] ?_
 refine jq [1,6] ?_
 refine Q0 [4] (jt 2 (k:=(jm 3 17 [20] (p:=Z1p) (q:=by intro b;(try simp at b);exact (js hX 1 Z1 (Q8.call [] rfl Z3 rfl Z1 Z8 (by apply Q7b<;>exact Z4) Q7f Z3 Z3 Z1 (jh hX Z1)))) (k:=jr)))) ?_
 refine Q4 (je0 ?_)
 unfold isKnown
 simp_all[bIn,Bool.or_comm]
end Go.Proofs
namespace Go.Proofs
open Go Go.Ev
theorem Q2b:Q6 Tryz.prog 258:=jcb Tryz.func258
theorem Q2a{l:List Cls}{n:Str}(hl:l.length≤1099511627776):Ct Tryz.prog 258 [wv l,.str n] [] (.tup [eC (Q1u l n),.bool (decide (0≤Qk n l 0))]) []:=by
 refine jbS Tryz.func258 27 fun X hX=> ?_
 refine jq [0,1,4] ?_
 refine jq [0,4,6,7] ?_
 refine Q5 (jq [0,4,6,18] ?_)
 refine jd (fun h2=> ?_) (fun h2=> ?_)
 ·try simp at h2
  refine jq [4,5] ?_
  refine Q4 (Q1z Z8 ?_ rfl)
  rw[Q6q Za,decide_eq_false (p:=0≤Qk n l 0) Za]
  exact Wk.tup (.cons Q14h (.cons (Wk.refl _) .nil))
 ·try simp at h2
  obtain ⟨i,hi,hf,hp,hcl,_⟩:=Q53 h2
  refine Q3 (Q0 [4,5] (jh hX (by simp[hi,hp];rfl)) ?_)
  refine Q4 (Q1z (by simp[hi,hp];rfl) ?_ rfl)
  rw[hcl,decide_eq_true h2]
  exact Wk.refl _
end Go.Proofs
namespace Go.Proofs
open Go Go.Ev
theorem Qea:Q6 Tryz.prog 197:=jcb Tryz.func197
theorem Qe2{l:List Cls}(hl:l.length≤1099511627776){c:Cls}:Ct Tryz.prog 197 [wv l,eC c] [] (.int .i64 (Q8r l c)) []:=by
 have hcase:((decide (0≤Qk c.super l 0))=true∧(Q1u l c.super).final=true)∨((decide (0≤Qk c.super l 0))=true∧(Q1u l c.super).final=false)∨((decide (0≤Qk c.super l 0))=false∧True):=by
  cases decide (0≤Qk c.super l 0)<;>cases (Q1u l c.super).final<;>simp
 rcases hcase with ⟨hc1,hc2⟩|⟨hc1,hc2⟩|⟨hc1,hc2⟩
 all_goals
  refine jbS Tryz.func197 33 fun X hX=> ?_
  refine jq [0,3] ?_
  refine Q0 [0,3,5,6] (js hX 3 (by simp[hc1,hc2];rfl) (jF (c:=(by apply Q2a<;>exact Z4)) (a:=Q2b) (k:=(jh hX (by simp[hc1,hc2];rfl))))) ?_
  refine Q5 (Q9 (Q0 [3,5,6,14] (js hX 3 (by simp[hc1,hc2];rfl) (jc [] (c:=(by apply Q1x<;>exact Z4)) (a:=Q1y) (k:=jr))) ?_))
  refine jd (fun h2=> ?_) (fun h2=> ?_)
  ·try simp at h2
   refine jq [4] ?_
   refine Q4 (je (by simp[hc1,hc2];rfl) ?_)
   simp only[Q8r]
   (try simp_all)<;>grind
  ·try simp at h2
   first|(refine jL 10 [0,1,2,3,4,5,8,9] [6,7] [20] ([0,1]) hX (by simp[hc1,hc2];rfl) (jH (p:=fun X hX=>jr) (k:=(jH (p:=fun X hX=>jr) (k:=.nil)))) jr ?_)|(refine jL 10 [0,1,2,3,4,5,8,9] [6,7] [20] ([0,1]) hX (by simp[hc1,hc2];rfl) (jH (p:=fun X hX=>(jc [] (c:=(by apply Qb1<;>exact Z4)) (a:=Qb3) (k:=jf))) (k:=(jH (p:=fun X hX=>(jh hX (by simp[hc1,hc2];rfl))) (k:=.nil)))) (jB (c:=(by apply (Q2i (l:=Q44.drop 2))<;>first|decide|simp)) (a:=Q2j) (k:=jr)) ?_)|(refine jL 10 [0,1,2,3,4,5,8,9] [6,7] [20] ([0,1]) hX (by simp[hc1,hc2];rfl) (jH (p:=fun X hX=>(jc [] (c:=(by apply Qb1<;>exact Z4)) (a:=Qb3) (k:=jf))) (k:=(jH (p:=fun X hX=>(jh hX (by simp[hc1,hc2];rfl))) (k:=.nil)))) (jB (c:=(by apply (Q2i (l:=Q44.drop 2))<;>first|decide|simp)) (a:=Q2j) (k:=jr)) ?_)
   refine jd (fun h4=> ?_) (fun h4=> ?_)
   ·try simp at h4
    all_goals
     refine jq [4] ?_
     refine Q4 (je (by simp[hc1,hc2];rfl) ?_)
     simp only[Q8r]
     (try simp_all)<;>grind
   ·try simp at h4
    all_goals
     refine Q3 (jq [4] ?_)
     refine Q4 (je (by simp[hc1,hc2];rfl) ?_)
     simp only[Q8r]
     (try simp_all)<;>grind
end Go.Proofs
namespace Go.Proofs
open Go Go.Ev
theorem Qgc:Q6 Tryz.prog 196:=jcb Tryz.func196
theorem Qg1{l:List Cls}(hl:l.length≤1099511627776){c:Cls}{k:Int}:Ct Tryz.prog 196 [.int .i64 k,eC c,.fp [wv l]] [] (.int .i64 (Q8r l c)) []:=by
 refine jbS Tryz.func196 9 fun X hX=> ?_
 refine jq [2,4] ?_
 refine Q0 [5] (jt 2 (k:=(jc [] (c:=(by apply Qe2<;>exact Z4)) (a:=Qea) (k:=jr)))) ?_
 refine Q4 (je0 ?_)
 simp_all
end Go.Proofs
namespace Go.Proofs
open Go Go.Ev
theorem Q1f:Q6 Tryz.prog 117:=jcb Tryz.func117
theorem Q1d{b:Bool}{n:Int}:Ct Tryz.prog 117 [.bool b,.int .i64 n] [] (.int .i64 (if b=true then 0 else n)) []:=by
 refine jbS Tryz.func117 7 fun X hX=> ?_
 refine jq [0,1] ?_
 refine Q5 (jq [1,5] ?_)
 refine jd (fun h1=> ?_) (fun h1=> ?_)
 ·try simp at h1
  refine jq [4] ?_
  refine Q4 (je0 ?_)
  simp_all
 ·try simp at h1
  refine Q3 (jq [4] ?_)
  refine Q4 (je0 ?_)
  simp_all
end Go.Proofs
namespace Go.Proofs
open Go Go.Ev
theorem Q7e:Q6 Tryz.prog 233:=jcb Tryz.func233
theorem Q7a{t:Str}(ht:t.length≤1099511627776):Ct Tryz.prog 233 [.str t] [] (.str (Q1c t)) []:=by
 refine jbS Tryz.func233 29 fun X hX=> ?_
 refine jq [0] ?_
 refine Q5 (Q9 (Q0 [0,3] (jt 3 (k:=(jm 3 6 [0,9] (p:=Z1p) (q:=Z1p) (k:=(jt 1 (k:=(jm 4 10 [0,14] (p:=Z1p) (q:=by intro b;(try simp at b);exact (js hX 1 Z1 (Q8.call [] rfl Z3 rfl Z1 Z8 (by apply Q5n<;>exact Z4) Q5q Z3 Z3 Z1 (jh hX Z1)))) (k:=jr)))))))) ?_))
 refine jd (fun h1=> ?_) (fun h1=> ?_)
 ·try simp at h1
  have hx:Q1c t=[]:=Ql4 (fun e=>by
   rcases h1 with (h1|h1)|h1
   ·exact .inl h1
   ·exact .inr h1
   ·rw[h1] at e;cases e)
  refine jq [2] ?_
  refine Q4 (je0 ?_)
  rw[hx]
 ·try simp at h1
  obtain ⟨hl1,hl2,hx⟩:=Ql6 h1.2 h1.1.1 h1.1.2
  rw[hx]
  have hl0:0<t.length:=by omega
  have hat:=Q3a (n:=91) hl0
  have hs1:0≤(t.length:Int)-1:=by omega
  have hs2:((t.length:Int)-1).toNat=t.length-1:=by omega
  have hs3:t.length-1≤t.length:=by omega
  have hs4:1≤t.length-1:=by omega
  have hs6:1≤t.length:=by omega
  refine Q0 [0,15] (jh hX (by simp[hl0,hs1,hs2,hs3,hs4,hs6];rfl)) ?_
  refine jd (fun h3=> ?_) (fun h3=> ?_)
  ·try simp at h3
   have h3b:Q28 t 0 91=true:=by rw[hat];simpa using h3
   have hs5:2≤t.length-1:=by have:=hl2 h3b;omega
   rw[if_pos h3b]
   refine Q0 [2] (jh hX (by simp[hl0,hs1,hs2,hs3,hs4,hs6,hs5];(try (simp (disch:=omega) only[Q7];(try simp[hl0,hs1,hs2,hs3,hs4,hs6,hs5])));rfl)) ?_
   refine Q4 (je (by simp[hl0,hs1,hs2,hs3,hs4,hs6,hs5];rfl) ?_)
   simp[seg]
  ·try simp at h3
   have h3b:Q28 t 0 91=false:=by rw[hat];simpa using h3
   rw[if_neg (by simp[h3b])]
   refine Q3 (Q0 [2] (jh hX (by simp[hl0,hs1,hs2,hs3,hs4,hs6];(try (simp (disch:=omega) only[Q7];(try simp[hl0,hs1,hs2,hs3,hs4,hs6])));rfl)) ?_)
   refine Q4 (je (by simp[hl0,hs1,hs2,hs3,hs4,hs6];rfl) ?_)
   simp[seg]
end Go.Proofs
namespace Go.Proofs
open Go Go.Ev
theorem Q6f:Q6 Tryz.prog 275:=jcb Tryz.func275
theorem Q6c{l:List Cls}(hl:l.length≤1099511627776){t:Str}(ht:t.length≤1099511627776):Ct Tryz.prog 275 [.str t,.fp [wv l]] [] (.bool (Q88 l t)) []:=by
 refine jbS Tryz.func275 14 fun X hX=> ?_
 refine jq [0,1] ?_
 refine Q0 [1,4] (jt 1 (k:=(jc [] (c:=(by apply Q7a<;>exact Z4)) (a:=Q7e) (k:=jr)))) ?_
 refine Q0 [3] (jt 3 (k:=(jm 4 9 [13] (p:=Z1p) (q:=by intro b;(try simp at b);exact (js hX 2 Z1 (Q8.call [] rfl Z3 rfl Z1 Z8 (by apply Q1x<;>exact Z4) Q1y Z3 Z3 Z1 (jh hX Z1)))) (k:=jr)))) ?_
 refine Q4 (je0 ?_)
 rw[←Q10t]
end Go.Proofs
namespace Go.Proofs
open Go Go.Ev
theorem Qeb:Q6 Tryz.prog 277:=jcb Tryz.func277
theorem Qe3{l:List Cls}(hl:l.length≤1099511627776){t:Str}(ht:t.length≤1099511627776):Ct Tryz.prog 277 [.str t,.fp [.clo (.func 275) [] [.fp [wv l]]]] [] (.bool (!Q88 l t)) []:=by
 refine jbS Tryz.func277 8 fun X hX=> ?_
 refine jq [0,1] ?_
 refine Q0 [3] (jt 2 (k:=(jc [] (c:=(by apply Q6c<;>exact Z4)) (a:=Q6f) (k:=jr)))) ?_
 refine Q4 (je0 ?_)
 simp_all
end Go.Proofs
namespace Go.Proofs
open Go Go.Ev
theorem Q93:Q6 Tryz.prog 316:=jcb Tryz.func316
theorem Q90{cs:List Cls}(hc:cs.length≤1099511627776){l:List Str}(hl:l.length≤1099511627776)(hs: ∀x∈l,x.length≤1099511627776):Ct Tryz.prog 316 [.lst false 1 (l.map V.str),.clo (.func 277) [] [.fp [.clo (.func 275) [] [.fp [wv cs]]]]] [] (.int .i64 (fix (fun t=> !Q88 cs t) l)) []:=by
 refine jbS Tryz.func316 19 fun X hX=> ?_
 refine jq [0,1] ?_
 refine Q5 (jq [0,1,7,8] ?_)
 refine Q9 (Qo (α:=Nat) [0,1,7,8] (fun i=>[(8,.int .i64 i)]) (fun i=>[]) (fun i=>i≤l.length∧ ∀x∈l.take i,(fun t=> !Q88 cs t) x=false) (fun i=>l.length-i) (0) (fun i=>by simp;rfl) Z3 ?_ ?_)
 ·simp
 rintro i ⟨hi,hI⟩
 refine jq [0,1,7,8,9] ?_
 refine Q5 (jd (fun h2=> ?_) (fun h2=> ?_))
 ·try simp at h2
  refine Q3 (Q5 (Q9 (jq [0,1,5,7,8] ?_)))
  refine Q0 [0,1,5,7,8,16] (js hX 5 Zy (jc [] (c:=(by apply Qe3<;>first|assumption|exact hs _ (List.getElem_mem h2)|omega)) (a:=Qeb) (k:=jf))) ?_
  refine jd (fun h4=> ?_) (fun h4=> ?_)
  ·try simp at h4
   refine jq [4] ?_
   refine Q4 (je Zy ?_)
   rw[Q77 h2 hI (by simpa using h4)]
  ·try simp at h4
   refine Q3 (Qd (jh hX Z6) ?_)
   refine Qp (i+1) [0,1,7,8] Z2a ?_ ?_
   ·exact ⟨by omega,Q97 h2 hI (by simpa using h4)⟩
   ·omega
 ·try simp at h2
  refine Qr (jq [4] ?_)
  refine Q4 (je Zy ?_)
  rw[Q6y (p:=fun t=> !Q88 cs t) (fun x hx=>hI x (by rw[List.take_of_length_le h2];exact hx))]
end Go.Proofs
namespace Go.Proofs
open Go Go.Ev
theorem Q85:Q6 Tryz.prog 276:=jcb Tryz.func276
theorem Q80{cs:List Cls}(hc:cs.length≤1099511627776){l:List Str}(hl:l.length≤1099511627776)(hs: ∀x∈l,x.length≤1099511627776):Ct Tryz.prog 276 [.lst false 1 (l.map V.str),.clo (.func 277) [] [.fp [.clo (.func 275) [] [.fp [wv cs]]]]] [] (.bool (l.any (fun t=> !Q88 cs t))) []:=by
 refine jbS Tryz.func276 9 fun X hX=> ?_
 refine jq [0,1] ?_
 refine Q0 [4] (jt 2 (k:=(jc [] (c:=(by apply Q90<;>exact Z4)) (a:=Q93) (k:=jr)))) ?_
 refine Q4 (je0 ?_)
 rw[←Qk0]
end Go.Proofs
namespace Go.Proofs
open Go Go.Ev
theorem Qg8:Q6 Tryz.prog 199:=jcb Tryz.func199
theorem Qfx{l:List Cls}(hl:l.length≤1099511627776){c:Cls}(h:Q1n c≤1099511627776):Ct Tryz.prog 199 [wv l,eC c] [] (.bool (Qs6 l c)) []:=by
 simp only[Q1n] at h
 refine jbS Tryz.func199 48 fun X hX=> ?_
 refine jq [2,3] ?_
 refine jq [3,5] ?_
 refine Q5 (jq [3,5,13,14,15] ?_)
 refine Q9 (Qo (α:=Nat) [3,5,13,14,15] (fun i=>[(15,.int .i64 i)]) (fun i=>[]) (fun i=>i≤c.fields.length∧(c.fields.drop i).all (fun f=>Q88 l f.type)=c.fields.all (fun f=>Q88 l f.type)) (fun i=>c.fields.length-i) (0) (fun i=>by simp;rfl) Z3 ?_ ?_)
 ·simp
 rintro i ⟨hi,hI⟩
 refine jq [3,5,13,14,15,16] ?_
 refine Q5 (jd (fun h3=> ?_) (fun h3=> ?_))
 ·try simp at h3
  rw[Q5b h3] at hI
  refine Q3 (Q5 (Q9 (Q0 [3,5,7,13,14,15] (jh hX (by simp[h3];rfl)) ?_)))
  refine Q0 [3,5,13,14,15,23] (js hX 3 (by simp[h3];rfl) (jB (c:=(by apply Q6c<;>first|assumption|omega|(have:=Q3q (f:=Q89) (List.getElem_mem h3);simp only[Q89] at*;(try simp only[Qb h3]);omega)|(have:=Q3q (f:=Q3t) (List.getElem_mem h9);simp only[Q3t] at*;(try simp only[Qb h9]);omega))) (a:=Q6f) (k:=jr))) ?_
  refine jd (fun h5=> ?_) (fun h5=> ?_)
  ·try simp at h5
   refine jq [4] ?_
   refine Q4 (je (by simp[h3];rfl) ?_)
   simp[Qs6,←hI,h5]
  ·try simp at h5
   rw[h5,Bool.true_and] at hI
   refine Q3 (Qd (jh hX Z6) ?_)
   refine Q13 (i+1) [3,5,13,14,15] 3 (by simp[hX]) Z3 (by simp[h3];try (simp (disch:=omega) only[Q7])) ?_ ?_
   ·exact ⟨by omega,hI⟩
   ·omega
 ·try simp at h3
  rw[List.drop_eq_nil_of_le h3] at hI
  refine Qr (Q5 (Q0 [5,26,27,28] (jh hX (by simp[h3];rfl)) ?_))
  refine Q9 (Qo (α:=Nat) [5,26,27,28] (fun i=>[(28,.int .i64 i)]) (fun i=>[]) (fun i=>i≤c.methods.length∧(c.methods.drop i).all (fun m=>Qey l m.desc)=c.methods.all (fun m=>Qey l m.desc)) (fun i=>c.methods.length-i) (0) (fun i=>by simp;rfl) Z3 ?_ ?_)
  ·simp
  rintro i ⟨hi2,hI2⟩
  refine jq [5,26,27,28,29] ?_
  refine Q5 (jd (fun h9=> ?_) (fun h9=> ?_))
  ·try simp at h9
   rw[Q5b h9] at hI2
   have hdp:=Q8v c.methods[i].desc
   have hd8:=Qrr c.methods[i].desc
   have hdl:c.methods[i].desc.length≤1099511627776:=by have:=Q3q (f:=Q3t) (List.getElem_mem h9);simp only[Q3t] at*;omega
   refine Q3 (Q5 (Q9 (Q0 [5,9,26,27,28] (jh hX (by simp[h3,h9];rfl)) ?_)))
   refine Q0 [5,10,26,27,28] (js hX 2 (by simp[h3,h9];rfl) (jF (c:=(by apply Q2e<;>first|assumption|omega|(have:=Q3q (f:=Q89) (List.getElem_mem h3);simp only[Q89] at*;(try simp only[Qb h3]);omega)|(have:=Q3q (f:=Q3t) (List.getElem_mem h9);simp only[Q3t] at*;(try simp only[Qb h9]);omega))) (a:=Q2g) (k:=(jh hX (by simp[h3,h9];rfl))))) ?_
   refine Q0 [5,26,27,28,46] (js hX 3 (by simp[h3,h9];rfl) (jB (c:=(by apply Q6c<;>first|assumption|exact Nat.le_trans hdp.1 hdl)) (a:=Q6f) (k:=(jt 2 (k:=(jm 5 41 [5,26,27,28,46] (p:=Z1p) (q:=by intro b;(try simp at b);exact (js hX 3 (by simp[-Qc,-Qb,h3,h9];rfl) (Q8.callB2 rfl Z3 rfl Z1 (by apply Q80<;>first|assumption|omega|exact fun x hx=>Nat.le_trans (hdp.2 x hx) hdl) Q85 Z3 Z1 (jh hX Z1)))) (k:=jf))))))) ?_
   refine jd (fun h12=> ?_) (fun h12=> ?_)
   ·try simp at h12
    refine jq [4] ?_
    refine Q4 (je (by simp[h3,h9];rfl) ?_)
    have h12b:Qey l c.methods[i].desc=false:=by
     rw[Bool.eq_false_iff]
     intro e
     simp only[Qey,Bool.and_eq_true,List.all_eq_true] at e
     rcases h12 with h|⟨x,hx,h⟩
     ·rw[e.1] at h;cases h
     ·rw[e.2 x hx] at h;cases h
    simp[Qs6,←hI2,h12b]
   ·try simp at h12
    have h12b:Qey l c.methods[i].desc=true:=by
     simp only[Qey,Bool.and_eq_true,List.all_eq_true]
     exact h12
    rw[h12b,Bool.true_and] at hI2
    refine Q3 (Qd (jh hX Z6) ?_)
    refine Q13 (i+1) [5,26,27,28] 3 (by simp[hX]) Z3 (by simp[h3,h9];try (simp (disch:=omega) only[Q7])) ?_ ?_
    ·exact ⟨by omega,hI2⟩
    ·omega
  ·try simp at h9
   rw[List.drop_eq_nil_of_le h9] at hI2
   refine Qr (jq [4] ?_)
   refine Q4 (je (by simp[h3,h9];rfl) ?_)
   simp[Qs6,←hI,←hI2]
end Go.Proofs
namespace Go.Proofs
open Go Go.Ev
theorem Qgb:Q6 Tryz.prog 198:=jcb Tryz.func198
theorem Qg0{l:List Cls}(hl:l.length≤1099511627776){c:Cls}{k:Int}(h:Q1n c≤1099511627776):Ct Tryz.prog 198 [.int .i64 k,eC c,.fp [wv l]] [] (.int .i64 (pI3 l c)) []:=by
 refine jbS Tryz.func198 10 fun X hX=> ?_
 refine jq [2,4] ?_
 refine Q0 [5] (jt 2 (k:=(jc [] (c:=(by apply Qfx<;>exact Z4)) (a:=Qg8) (k:=(jc [] (c:=(by apply Q1d<;>exact Z4)) (a:=Q1f) (k:=jr)))))) ?_
 refine Q4 (je0 ?_)
 unfold pI3
 rfl
end Go.Proofs
namespace Go.Proofs
open Go Go.Ev
theorem Qbc:Q6 Tryz.prog 278:=jcb Tryz.func278
theorem Qba{l:List Cls}(hl:l.length≤1099511627776){n:Str}:Ct Tryz.prog 278 [wv l,.str n] [] (.str (Q2m l n)) []:=by
 refine jbS Tryz.func278 28 fun X hX=> ?_
 refine jq [0,1] ?_
 refine Q0 [1,5,6] (jt 2 (k:=(jF (c:=(by apply Q2a<;>exact Z4)) (a:=Q2b) (k:=jr)))) ?_
 refine Q5 (Q9 (jq [1,5,13] ?_))
 refine jd (fun h2=> ?_) (fun h2=> ?_)
 ·try simp at h2
  refine jq [4] ?_
  refine Q4 (je0 ?_)
  simp only[Q2m,Qz,Q1i]
  (try simp_all)<;>grind
 ·try simp at h2
  refine Q0 [1,17] (jt 1 (k:=(jc [] (c:=(by apply Q7b<;>exact Z4)) (a:=Q7f) (k:=(jt 2 (k:=(jm 3 21 [1,24] (p:=Z1p) (q:=Z1p) (k:=jr)))))))) ?_
  refine jd (fun h4=> ?_) (fun h4=> ?_)
  ·try simp at h4
   refine jq [4] ?_
   refine Q4 (je0 ?_)
   simp only[Q2m,Qz,Q1i]
   (try simp_all)<;>grind
  ·try simp at h4
   refine jq [25] ?_
   refine jd (fun h6=> ?_) (fun h6=> ?_)
   ·try simp at h6
    refine jq [4] ?_
    refine Q4 (je0 ?_)
    simp only[Q2m,Qz,Q1i]
    (try simp_all)<;>grind
   ·try simp at h6
    refine Q3 (jq [4] ?_)
    refine Q4 (je0 ?_)
    simp only[Q2m,Qz,Q1i]
    (try simp_all)<;>grind
end Go.Proofs
namespace Go.Proofs
open Go Go.Ev
theorem Q3k:Q6 Tryz.prog 226:=jcb Tryz.func226
theorem Q3j{l:List Cls}(hl:l.length≤1048576){n:Str}:Ct Tryz.prog 226 [wv l,.str n] [] (.lst true 1 ((Qu l n).map V.str)) []:=by
 refine jbS Tryz.func226 24 fun X hX=> ?_
 refine Q0 [0,1] (jh hX (by simp[Go.Ev.seen];rfl)) ?_
 refine Q0 [0,1,5] (jh hX (by simp[Go.Ev.seen];rfl)) ?_
 refine Q5 (Q9 (Qo (α:=List Str×Str) [0,1,5] (fun a=>[(1,.str a.2),(5,.arr 0 0 a.1.length)]) (fun a=>[(0,some (1,a.1.map V.str))]) (fun a=>a.1.length+cMu l a.1≤8+l.length∧chn l a.1 a.2=Qu l n) (fun a=>cMu l a.1) (([],n)) (fun a=>by simp;rfl) Z3 ?_ ?_))
 ·exact ⟨by simpa using Q12f l [],rfl⟩
 rintro ⟨o,s⟩ ⟨hn,hI⟩
 simp only at hn hI
 have w0:o.length≤1099511627776:=by omega
 have w1:(o.length+1)*16≤140737488355328:=by omega
 have w2:o.length≤1099511627775:=by omega
 refine Q5 (Q0 [0,1,5,15] (js hX 2 (by simp[Go.Ev.seen];rfl) (Q8.call [] rfl Z3 rfl (by simp[Go.Ev.seen];rfl) Z8 (by apply Q1x<;>exact Z4) Q1y Z3 Z3 (by simp[Go.Ev.seen];rfl) (js hX 1 (by simp[Go.Ev.seen];rfl) (jm 5 10 [0,1,5,15] (p:=by intro b;(try simp at b);exact (js hX 2 (by simp[-Qc,-Qb,Go.Ev.seen];rfl) (Q8.callB rfl Z3 rfl (by simp[-Qc,-Qb,Go.Ev.seen];rfl) (by apply Q2i<;>exact Z4) Q2j Z3 (by simp[-Qc,-Qb,Go.Ev.seen];rfl) (jh hX (by simp[-Qc,-Qb,Go.Ev.seen];rfl))))) (q:=by intro b;(try simp at b);exact (jh hX (by simp[-Qc,-Qb,Go.Ev.seen];rfl))) (k:=jf))))) ?_)
 refine jd (fun h2=> ?_) (fun h2=> ?_)
 ·try simp at h2
  have h2b:out o s=false:=by
   rw[Bool.eq_false_iff];intro e
   exact h2.2 _ (Q99.1 e) rfl
  have hlt:=Qfc h2.1 h2b
  rw[Qa7 h2.1 h2b] at hI
  refine Q3 (Q9 (Q0 [0,1,5] (jh hX (by simp[w1,w2,Go.Ev.seen];rfl)) ?_))
  refine Qd (js hX 2 (by simp[Go.Ev.seen];rfl) (Q8.call [] rfl Z3 rfl (by simp[Go.Ev.seen];rfl) Z8 (by apply Qba<;>exact Z4) Qbc Z3 Z3 (by simp[Go.Ev.seen];rfl) (jh hX (by simp[Go.Ev.seen];rfl)))) ?_
  refine Q13 ((o++[s],Q2m l s)) [0,1,5] 1 (by simp[hX]) Z3 (by simp[w1,w2];try (simp (disch:=omega) only[Q7])) ?_ ?_
  ·exact ⟨by simp;omega,hI⟩
  ·exact hlt
 ·try simp at h2
  have h2b: ¬(isKnown l s=true∧out o s=false):=fun e=>by have h3:=h2 e.1;rw[Q99.2 h3] at e;cases e.2
  rw[Q4o h2b] at hI
  refine Qr (Q0 [4] (jh hX (by simp[Go.Ev.seen];rfl)) ?_)
  refine Q4 (Q1z (by simp[w1,w2,Go.Ev.seen];rfl) ?_ rfl)
  rw[←hI]
  exact Wk.refl _
end Go.Proofs
namespace Go.Proofs
open Go Go.Ev
theorem Qhv:Q6 Tryz.prog 201:=jcb Tryz.func201
theorem Qhf{l:List Cls}(hl:l.length≤1048576){n:Str}(hk:isKnown l n=true):Ct Tryz.prog 201 [wv l,.str n] [] (.bool (Qva l n)) []:=by
 obtain ⟨ys,hy⟩:=Qkk hk
 have hcl:=Q8x l n
 have hc1:0<(Qu l n).length:=by rw[hy];simp
 have hw:((Qu l n).length:Int)-1=(((Qu l n).length-1:Nat):Int):=by omega
 have hc2:(Qu l n).length-1<(Qu l n).length:=by omega
 have hc3:IntKind.i64.wrap ((((Qu l n).length-1:Nat):Int))=(((Qu l n).length-1:Nat):Int):=Q7 Za Za
 refine jbS Tryz.func201 19 fun X hX=> ?_
 refine Q0 [0,1] (jh hX (by simp[hw,hc2,hc3];rfl)) ?_
 refine Q0 [0,1,5] (js hX 2 (by simp[hw,hc2,hc3];rfl) (Q8.callF rfl Z3 rfl (by simp[hw,hc2,hc3];rfl) (by apply Q3j<;>exact Z20) Q3k (by (try simp[hw,hc2,hc3]);rfl) (jh hX (by simp[hw,hc2,hc3];rfl)))) ?_
 refine Q0 [4] (js hX 7 (by simp[hw,hc2,hc3];(try (simp (disch:=omega) only[Q7];(try simp[hw,hc2,hc3])));rfl) (Q8.call [] rfl Z3 rfl (by simp[hw,hc2,hc3];rfl) Z8 (by apply Qba<;>exact Z20) Qbc Z3 Z3 (by simp[hw,hc2,hc3];rfl) (jh hX (by simp[hw,hc2,hc3];rfl)))) ?_
 refine Q4 (je (by simp[hw,hc2,hc3];rfl) ?_)
 simp[Qva,hc2]
end Go.Proofs
namespace Go.Proofs
open Go Go.Ev
theorem Qga:Q6 Tryz.prog 200:=jcb Tryz.func200
theorem Qfz{l:List Cls}(hl:l.length≤1048576){c:Cls}{k:Int}(hk:isKnown l c.name=true):Ct Tryz.prog 200 [.int .i64 k,eC c,.fp [wv l]] [] (.int .i64 (pI4 l c)) []:=by
 refine jbS Tryz.func200 12 fun X hX=> ?_
 refine jq [2,4] ?_
 refine Q0 [5] (jt 3 (k:=(jc [] (c:=(by apply Qhf<;>exact Z4)) (a:=Qhv) (k:=(jt 1 (k:=(jc [] (c:=(by apply Q1d<;>exact Z4)) (a:=Q1f) (k:=jr)))))))) ?_
 refine Q4 (je0 ?_)
 simp only[pI4]
 cases Qva l c.name<;>simp
end Go.Proofs
namespace Go.Proofs
open Go Go.Ev
theorem Qf9:Q6 Tryz.prog 279:=jcb Tryz.func279
theorem Qf3{l:List Cls}(hl:l.length≤1048576)(hs:Q1r l≤1099511627776){c n d:Str}:Ct Tryz.prog 279 [wv l,.str c,.str n,.str d] [] (.tup [eM ((mUp l n d (Qu l c)).getD zM),.bool (mUp l n d (Qu l c)).isSome]) []:=by
 have hcl:=Q8x l c
 refine jbS Tryz.func279 42 fun X hX=> ?_
 refine Q0 [0,1,2,3,8] (jh hX (by simp[Qn];rfl)) ?_
 refine Q5 (Q0 [0,2,3,8,17,18,19] (js hX 2 (by simp[Qn];rfl) (Q8.callF rfl Z3 rfl (by simp[Qn];rfl) (by apply Q3j<;>first|assumption|omega|exact Q46 hs) Q3k (by (try simp[Qn]);rfl) (jh hX (by simp[Qn];rfl)))) ?_)
 refine Q9 (Qo (α:=Nat) [0,2,3,8,17,18,19] (fun i=>[(19,.int .i64 i)]) (fun i=>[]) (fun i=>i≤(Qu l c).length∧mUp l n d ((Qu l c).drop i)=mUp l n d (Qu l c)) (fun i=>(Qu l c).length-i) (0) (fun i=>by simp;rfl) Z3 ?_ ?_)
 ·simp
 rintro i ⟨hi,hI⟩
 refine Q0 [0,2,3,8,17,18,19,20] (jh hX (by simp[Qn];rfl)) ?_
 refine Q5 (jd (fun h2=> ?_) (fun h2=> ?_))
 ·try simp at h2
  rw[List.drop_eq_getElem_cons h2] at hI
  simp only[mUp] at hI
  refine Q3 (Q5 (Q9 (Q0 [0,2,3,8,11,17,18,19] (jh hX (by simp[h2,Qn];rfl)) ?_)))
  refine Q0 [0,2,3,8,12,17,18,19] (js hX 2 (by simp[Qn];rfl) (Q8.callF rfl Z3 rfl (by simp[Qn];rfl) (by apply Q2a<;>first|assumption|omega|exact Q46 hs) Q2b (by (try simp[Qn]);rfl) (jh hX (by simp[h2,Qn];rfl)))) ?_
  refine Q0 [0,2,3,8,12,14,17,18,19] (js hX 3 (by simp[h2,Qn];rfl) (Q8.call [] rfl Z3 rfl (by simp[Qn];rfl) Z8 (by apply Q4y<;>first|assumption|omega|exact Q46 hs) Q4z Z3 Z3 (by simp[Qn];rfl) (jh hX (by simp[Qn];rfl)))) ?_
  refine Q0 [0,2,3,8,12,14,17,18,19,34] (jh hX (by simp[Qn];rfl)) ?_
  refine jd (fun h6=> ?_) (fun h6=> ?_)
  ·try simp at h6
   rw[if_pos h6] at hI
   rw[←hI]
   obtain ⟨j,hj,hjm⟩:=Qox h6
   refine Q0 [8,9] (jh hX (by simp[h2,h6,hj,hjm,Qn];rfl)) ?_
   refine Q4 (Q1z (by simp[h2,h6,hj,hjm,Qn];rfl) ?_ rfl)
   simp only[hjm]
   simp[hj]
   exact Wk.refl _
  ·try simp at h6
   rw[if_neg Za] at hI
   refine Q3 (Qd (jh hX (by simp[Qn];(try (simp (disch:=omega) only[Q7];(try simp[Qn])));rfl)) ?_)
   refine Q13 (i+1) [0,2,3,8,17,18,19] 1 (by simp[hX]) Z3 (by simp[h2,h6];try (simp (disch:=omega) only[Q7])) ?_ ?_
   ·exact ⟨by omega,hI⟩
   ·omega
 ·try simp at h2
  rw[List.drop_eq_nil_of_le h2] at hI
  simp only[mUp] at hI
  rw[←hI]
  refine Qr (Q0 [8,9] (jh hX (by simp[h2,Qn];rfl)) ?_)
  refine Q4 (Q1z (by simp[h2,Qn];rfl) ?_ rfl)
  exact Wk.tup (.cons Qyb (.cons (Wk.refl _) .nil))
end Go.Proofs
namespace Go.Proofs
open Go Go.Ev
theorem Qfb:Q6 Tryz.prog 203:=jcb Tryz.func203
theorem Qf5{l:List Cls}(hl:l.length≤1048576)(hs:Q1r l≤1099511627776){c:Cls}(hc:Q1n c≤1099511627776)(hk:isKnown l c.name=true):Ct Tryz.prog 203 [wv l,eC c] [] (.bool (accI l c)) []:=by
 have hcl:=Q8x l c.name
 obtain ⟨us,hy⟩:=Qkk hk
 have hul:us.length≤8+l.length:=by rw[hy] at hcl;simp at hcl;omega
 have hcm:c.methods.length≤1099511627776:=by simp only[Q1n] at hc;omega
 have hac:accI l c=us.all (fun u=>(Q1u l u).methods.all (okI l c)):=by simp only[accI,hy];rfl
 rw[hac]
 refine jbS Tryz.func203 91 fun X hX=> ?_
 refine Q0 [0,3] (jh hX (by simp[hy,Qn];rfl)) ?_
 refine Q0 [0,3,5] (js hX 3 (by simp[hy,Qn];rfl) (Q8.callF rfl Z3 rfl (by simp[hy,Qn];rfl) (by apply Q3j<;>first|assumption|omega|exact Q46 hs) Q3k (by (try simp[hy,Qn]);rfl) (jh hX (by simp[hy,Qn];rfl)))) ?_
 refine Q5 (Q0 [0,3,20,21,22] (jh hX (by simp[hy,Qn];rfl)) ?_)
 refine Q9 (Qo (α:=Nat) [0,3,20,21,22] (fun i=>[(22,.int .i64 i)]) (fun i=>[]) (fun i=>i≤us.length∧(us.drop i).all (fun u=>(Q1u l u).methods.all (okI l c))=us.all (fun u=>(Q1u l u).methods.all (okI l c))) (fun i=>us.length-i) (0) (fun i=>by simp;rfl) Z3 ?_ ?_)
 ·simp
 rintro i ⟨hi,hI⟩
 refine Q0 [0,3,20,21,22,23] (jh hX (by simp[hy,Qn];rfl)) ?_
 refine Q5 (jd (fun h3=> ?_) (fun h3=> ?_))
 ·try simp at h3
  rw[Q5b h3] at hI
  have hms:(Q1u l us[i]).methods.length≤1099511627776:=Q46 hs
  refine Q3 (Q5 (Q9 (Q0 [0,3,7,20,21,22] (jh hX (by simp[h3,hy,Qn];rfl)) ?_)))
  refine Q0 [0,3,8,20,21,22] (js hX 2 (by simp[hy,Qn];rfl) (Q8.callF rfl Z3 rfl (by simp[hy,Qn];rfl) (by apply Q2a<;>first|assumption|omega|exact Q46 hs) Q2b (by (try simp[hy,Qn]);rfl) (jh hX (by simp[h3,hy,Qn];rfl)))) ?_
  refine Q0 [0,3,20,21,22,33,34,35] (jh hX (by simp[h3,hy,Qn];rfl)) ?_
  refine Q9 (Qo (α:=Nat) [0,3,20,21,22,33,34,35] (fun j=>[(35,.int .i64 j)]) (fun j=>[]) (fun j=>j≤(Q1u l us[i]).methods.length∧((Q1u l us[i]).methods.drop j).all (okI l c)=(Q1u l us[i]).methods.all (okI l c)) (fun j=>(Q1u l us[i]).methods.length-j) (0) (fun j=>by simp;rfl) Z3 ?_ ?_)
  ·simp
  rintro j ⟨hj,hJ⟩
  refine Q0 [0,3,20,21,22,33,34,35,36] (jh hX (by simp[hy,Qn];rfl)) ?_
  refine Q5 (jd (fun h7=> ?_) (fun h7=> ?_))
  ·try simp at h7
   rw[Q5b h7] at hJ
   refine Q3 (Q5 (Q9 (Q0 [0,3,11,20,21,22,33,34,35] (jh hX (by simp[h3,h7,hy,Qn];rfl)) ?_)))
   refine Q5 (Q0 [0,3,11,12,20,21,22,33,34,35] (js hX 5 (by simp[h3,h7,hy,Qn];rfl) (Q8.call [] rfl Z3 rfl (by simp[hy,Qn];rfl) Z8 (by apply Q4y<;>first|assumption|omega|exact Q46 hs) Q4z Z3 Z3 (by simp[hy,Qn];rfl) (jh hX (by simp[hy,Qn];rfl)))) ?_)
   refine jD [0,3,11,20,21,22,33,34,35,66] (jS 4 (by simp[h3,h7,hy,Qn];rfl) (jM 3 48 [0,3,11,12,20,21,22,33,34,35,51] (p:=by intro b;(try simp at b);exact (jQ (by simp[-Qc,-Qb,hy,Qn];rfl))) (q:=by intro b;(try simp at b);exact (jQ (by simp[-Qc,-Qb,hy,Qn];rfl))) (k:=(jS 1 (by simp[hy,Qn];rfl) (jM 14 52 [0,3,11,20,21,22,33,34,35,66] (p:=fun b10_8=>by (try simp at b10_8);(have hk0:=b10_8.2;have hk1:=Qep hk0);exact (jS 3 (by simp[-Qc,-Qb,h3,h7,b10_8,hk0,hk1,hy,Qn];rfl) (jM 10 55 [0,3,11,20,21,22,33,34,35,52,65] (p:=by intro b;(try simp at b);exact (jQ (by simp[-Qc,-Qb,hy,Qn];rfl))) (q:=by intro b;(try simp at b);exact (jQ (by simp[-Qc,-Qb,h3,h7,b10_8,hk0,hk1,hy,Qn];rfl))) (k:=(jQ (by simp[-Qc,-Qb,hy,Qn];rfl)))))) (q:=fun b10_8=>by (try simp at b10_8);exact (jQ (by simp[-Qc,-Qb,hy,Qn];rfl))) (k:=(Q17.fin Z23))))))) ?_
   refine jd (fun h10=> ?_) (fun h10=> ?_)
   ·try simp at h10
    refine Q0 [4] (jh hX (by simp[hy,Qn];rfl)) ?_
    refine Q4 (je (by simp[h3,h7,h10,hy,Qn];rfl) ?_)
    have ho:okI l c (Q1u l us[i]).methods[j]=false:=by unfold okI Qm;grind
    rw[←hI,←hJ,ho];simp
   ·try simp at h10
    refine Q3 (Q0 [0,3,11,13,20,21,22,33,34,35] (js hX 7 (by simp[h3,h7,h10,hy,Qn];rfl) (Q8.callF rfl Z3 rfl (by simp[hy,Qn];rfl) (by apply Qf3<;>first|assumption|omega|exact Q46 hs) Qf9 (by (try simp[hy,Qn]);rfl) (jh hX (by simp[h3,h7,h10,hy,Qn];rfl)))) ?_)
    refine Q0 [0,3,20,21,22,33,34,35,88] (js hX 3 (by simp[h3,h7,h10,hy,Qn];rfl) (jm 4 80 [0,3,13,20,21,22,33,34,35,84] (p:=by intro b;(try simp at b);exact (jh hX (by simp[-Qc,-Qb,h3,h7,h10,hy,Qn];rfl))) (q:=by intro b;(try simp at b);exact (jh hX (by simp[-Qc,-Qb,hy,Qn];rfl))) (k:=(js hX 1 (by simp[hy,Qn];rfl) (jm 3 85 [0,3,20,21,22,33,34,35,88] (p:=by intro b;(try simp at b);exact (jh hX (by simp[-Qc,-Qb,h3,h7,h10,hy,Qn];rfl))) (q:=by intro b;(try simp at b);exact (jh hX (by simp[-Qc,-Qb,hy,Qn];rfl))) (k:=jf)))))) ?_
    refine jd (fun h13=> ?_) (fun h13=> ?_)
    ·try simp at h13
     refine Q0 [4] (jh hX (by simp[hy,Qn];rfl)) ?_
     refine Q4 (je (by simp[h3,h7,h10,hy,Qn];rfl) ?_)
     have ho:okI l c (Q1u l us[i]).methods[j]=false:=by unfold okI Qm;simp only[hy];grind
     rw[←hI,←hJ,ho];simp
    ·try simp at h13
     have ho:okI l c (Q1u l us[i]).methods[j]=true:=Q11g h10 (by rw[hy];exact h13)
     rw[ho,Bool.true_and] at hJ
     refine Q3 (Qd (jh hX (by simp[hy,Qn];(try (simp (disch:=omega) only[Q7];(try simp[hy,Qn])));rfl)) ?_)
     refine Q13 (j+1) [0,3,20,21,22,33,34,35] 2 (by simp[hX]) Z3 (by simp[h3,h7,h10];try (simp (disch:=omega) only[Q7])) ?_ ?_
     ·exact ⟨by omega,hJ⟩
     ·omega
  ·try simp at h7
   rw[List.drop_eq_nil_of_le h7] at hJ
   rw[←hJ,List.all_nil,Bool.true_and] at hI
   refine Qr (Qd (jh hX (by simp[hy,Qn];(try (simp (disch:=omega) only[Q7];(try simp[hy,Qn])));rfl)) ?_)
   refine Q13 (i+1) [0,3,20,21,22] 1 (by simp[hX]) Z3 (by simp[h3,h7];try (simp (disch:=omega) only[Q7])) ?_ ?_
   ·exact ⟨by omega,hI⟩
   ·omega
 ·try simp at h3
  rw[List.drop_eq_nil_of_le h3] at hI
  refine Qr (Q0 [4] (jh hX (by simp[hy,Qn];rfl)) ?_)
  refine Q4 (je (by simp[h3,hy,Qn];rfl) ?_)
  rw[←hI];rfl
end Go.Proofs
namespace Go.Proofs
open Go Go.Ev
theorem Qg9:Q6 Tryz.prog 202:=jcb Tryz.func202
theorem Qfy{l:List Cls}(hl:l.length≤1048576)(hs:Q1r l≤1099511627776){c:Cls}{k:Int}(hc:Q1n c≤1099511627776)(hk:isKnown l c.name=true):Ct Tryz.prog 202 [.int .i64 k,eC c,.fp [wv l]] [] (.int .i64 (pI5 l c)) []:=by
 refine jbS Tryz.func202 10 fun X hX=> ?_
 refine jq [2,4] ?_
 refine Q0 [5] (jt 2 (k:=(jc [] (c:=(by apply Qf5<;>exact Z4)) (a:=Qfb) (k:=(jc [] (c:=(by apply Q1d<;>exact Z4)) (a:=Q1f) (k:=jr)))))) ?_
 refine Q4 (je0 ?_)
 unfold pI5
 rfl
end Go.Proofs
namespace Go.Proofs
open Go Go.Ev
theorem Qjb:Q6 Tryz.prog 127:=jcb Tryz.func127
theorem Qj1{l:List Cls}(hl:l.length≤1048576)(hs:Q1r l≤1099511627776):Ct Tryz.prog 127 [wv l] [] (.agg [.int .i64 (Qs7 l).1,.int .i64 (Qs7 l).2]) []:=by
 refine jbS Tryz.func127 50 fun X hX=> ?_
 refine jq [1,2] ?_
 refine Q5 (jq [1,2,14] ?_)
 refine jd (fun h1=> ?_) (fun h1=> ?_)
 ·try simp at h1
  refine Q0 [2] (jh hX Zx) ?_
  refine Q4 (je Zx ?_)
  simp[Qs7,h1]
 ·try simp at h1
  refine Q3 (jq [1,2,3] ?_)
  refine Q5 (Q0 [1,2,22,23,24] (jh hX Zx) ?_)
  refine Q9 (Qo (α:=Nat) [1,2,22,23,24] (fun p=>[(24,.int .i64 p)]) (fun p=>[]) (fun p=>p≤5∧Q9p l p (5-p)=Q9p l 0 5) (fun p=>5-p) (0) (fun p=>by simp;rfl) Z3 ?_ ?_)
  ·simp
  rintro p ⟨hp,hI⟩
  obtain ⟨q,hq⟩: ∃q,q=p+1:=⟨_,rfl⟩
  obtain rfl|rfl|rfl|rfl|rfl|rfl:p=0∨p=1∨p=2∨p=3∨p=4∨p=5:=by omega
  all_goals
   refine jq [1,2,22,23,24,25] ?_
   refine Q5 (jd (fun h5=> ?_) (fun h5=> ?_))
   ·try simp at h5
    all_goals
     refine Q3 (Q5 (Q9 (Q0 [1,2,5,22,23,24] (jh hX (by simp[h1,h5];rfl)) ?_)))
     refine Q0 [1,2,5,22,23,24,31,32,33] (jh hX (by simp[h1,h5];rfl)) ?_
     refine Q9 (Qo (α:=Nat) [1,2,5,22,23,24,31,32,33] (fun k=>[(33,.int .i64 k)]) (fun k=>[]) (fun k=>k≤l.length∧Q10 (Qe6 l (q-1)) (l.length-k) k=Q10 (Qe6 l (q-1)) l.length 0) (fun k=>l.length-k) (0) (fun k=>by simp;rfl) Z3 ?_ ?_)
     ·simp
     rintro k ⟨hk,hK⟩
     simp only[hq,Nat.reduceAdd,Nat.reduceSub,Nat.zero_add,Nat.add_sub_cancel] at hK
     refine jq [1,2,5,22,23,24,31,32,33,34] ?_
     refine Q5 (jd (fun h8=> ?_) (fun h8=> ?_))
     ·try simp at h8
      rw[Q13r h8] at hK
      refine Q3 (Q5 (Q9 (Q0 [1,2,5,6,7,22,23,24,31,32,33] (jh hX (by simp[h1,h5,h8];rfl)) ?_)))
      refine Q0 [1,2,5,6,8,22,23,24,31,32,33] (js hX 3 (by simp[h1,h5,h8];rfl) (jB (c:=(by first|(apply Qg2<;>(first|assumption|omega|exact Nat.le_trans (Q4v h8) hs|exact Q66 h8))|(apply Qg1<;>(first|assumption|omega|exact Nat.le_trans (Q4v h8) hs|exact Q66 h8))|(apply Qg0<;>(first|assumption|omega|exact Nat.le_trans (Q4v h8) hs|exact Q66 h8))|(apply Qfz<;>(first|assumption|omega|exact Nat.le_trans (Q4v h8) hs|exact Q66 h8))|(apply Qfy<;>(first|assumption|omega|exact Nat.le_trans (Q4v h8) hs|exact Q66 h8)))) (a:=(by first|exact Qgd|exact Qgc|exact Qgb|exact Qga|exact Qg9)) (k:=jr))) ?_
      refine jq [1,2,5,6,8,22,23,24,31,32,33,43] ?_
      refine jd (fun h11=> ?_) (fun h11=> ?_)
      ·try simp at h11
       rw[if_neg (by simp only[Qe6,Qb h8];exact h11)] at hK
       refine Q0 [2] (jh hX (by simp[h1,h5,h8];rfl)) ?_
       refine Q4 (je (by simp[h1,h5,h8];rfl) ?_)
       rw[Qs7,if_neg Za,←hI,Q13v hK.symm]
       simp[Qe6,h8]
      ·try simp at h11
       rw[if_pos (by simp only[Qe6,Qb h8];exact h11)] at hK
       refine Q3 (Qd (jh hX Z6) ?_)
       refine Q13 (k+1) [1,2,5,22,23,24,31,32,33] 3 (by simp[hX]) Z3 (by simp[h1,h5,h8];try (simp (disch:=omega) only[Q7])) ?_ ?_
       ·exact ⟨by omega,by simp only[hq,Nat.reduceAdd,Nat.reduceSub,Nat.zero_add,Nat.add_sub_cancel];exact hK⟩
       ·omega
     ·try simp at h8
      rw[show l.length-k=0 from by omega] at hK
      simp only[Q10] at hK
      refine Qr (Qd (jh hX Z6) ?_)
      refine Q13 (q) [1,2,22,23,24] 3 (by simp[hX]) Z3 (by simp[hq];try (simp (disch:=omega) only[Q7])) ?_ ?_
      ·exact ⟨by omega,by rw[hq];exact (Q12d hK.symm).symm.trans hI⟩
      ·omega
   ·try simp at h5
    all_goals
     refine Qr (Q0 [2] (jh hX (by simp[h1,h5];rfl)) ?_)
     refine Q4 (je (by simp[h1,h5];rfl) ?_)
     rw[Qs7,if_neg Za,←hI]
     rfl
end Go.Proofs
namespace Go.Proofs
open Go Go.Ev
theorem Qkt:Q6 Tryz.prog 83:=jcb Tryz.func83
theorem Qka{l:List Cls}(hl:l.length≤1048576)(hs:Q1r l≤1099511627776):Ct Tryz.prog 83 [.lst false 6 (l.map eC)] [] (.tup [wv l,.bool (Qx l)]) []:=by
 refine jbS Tryz.func83 17 fun X hX=> ?_
 refine jq [0] ?_
 refine Q0 [0,4] (jt 1 (k:=(jF (c:=(by apply Qpo<;>exact Z4)) (a:=Qpz) (k:=jr)))) ?_
 refine Q0 [2,3] (jt 5 (k:=(jm 5 11 [7,16] (p:=by intro b;(try simp at b);exact (js hX 1 Z1 (Q8.call [] rfl Z3 rfl Z1 Z8 (by apply Qj1<;>exact Z4) Qjb Z3 Z3 Z1 (jh hX Z1)))) (q:=Z1p) (k:=jr)))) ?_
 refine Q4 (je0 ?_)
 rw[←Qtf]
 simp
end Go.Proofs
namespace Go.Proofs
open Go Go.Ev
theorem Qe9:Q6 Tryz.prog 151:=jcb Tryz.func151
theorem Qe1{l:List Cls}(hl:l.length≤1099511627776){t:Typ}:Ct Tryz.prog 151 [wv l,eT t] [] (.bool (Q16 l t)) []:=by
 refine jbS Tryz.func151 43 fun X hX=> ?_
 refine jq [0,3] ?_
 refine Q5 (jq [0,3,6] ?_)
 refine Q9 (Q5 (jq [0,3,6,7] ?_))
 refine' Qau [0,3,6,7] Z8 Z17 (fun h2=> ?a1_1) (fun h2=> ?a0_1) ?ak_1
 case a1_1=>
  try simp at h2
  refine Q3 ?_
  exact ⟨rfl,Eq.trans Z23 Z17⟩
 case a0_1=>
  try simp at h2
  refine Qd jr ?_
  exact ⟨rfl,Eq.trans Z23 Z17⟩
 case ak_1=>
  refine Q21 (Le.of_eq Z8) ?_
  refine jd (fun h2=> ?_) (fun h2=> ?_)
  ·try simp at h2
   refine Q0 [4] (jt 3 (k:=(jc [] (c:=(by apply Q1x<;>exact Z4)) (a:=Q1y) (k:=(jt 1 (k:=(jm 4 14 [18] (p:=Z1p) (q:=Z1p) (k:=jr)))))))) ?_
   refine Q4 (je0 ?_)
   simp only[Q16]
   (try simp_all)<;>grind
  ·try simp at h2
   refine jq [0,3,19] ?_
   refine jd (fun h5=> ?_) (fun h5=> ?_)
   ·try simp at h5
    refine Q0 [4] (jt 3 (k:=(jc [] (c:=(by apply Q1x<;>exact Z4)) (a:=Q1y) (k:=(jt 1 (k:=(jm 4 25 [29] (p:=Z28) (q:=Z1p) (k:=jr)))))))) ?_
    refine Q4 (je0 ?_)
    simp only[Q16]
    (try simp_all)<;>grind
   ·try simp at h5
    refine Q3 (Q0 [4] (jt 2 (k:=(jc [] (c:=(by apply Q22<;>exact Z4)) (a:=Q1q) (k:=(jt 1 (k:=(jm 4 33 [3,37] (p:=Z1p) (q:=Z1p) (k:=(jt 1 (k:=(jm 4 38 [42] (p:=Z1p) (q:=Z1p) (k:=jr)))))))))))) ?_)
    refine Q4 (je0 ?_)
    simp only[Q16]
    (try simp_all)<;>grind
end Go.Proofs
namespace Go.Proofs
open Go Go.Ev
theorem Qcd:Q6 Tryz.prog 150:=jcb Tryz.func150
theorem Qc7{l:List Cls}(hl:l.length≤1099511627776){t:Typ}:Ct Tryz.prog 150 [eT t,.fp [wv l]] [] (.bool (!Q16 l t)) []:=by
 refine jbS Tryz.func150 8 fun X hX=> ?_
 refine jq [1,2] ?_
 refine Q0 [3] (jt 2 (k:=(jc [] (c:=(by apply Qe1<;>exact Z4)) (a:=Qe9) (k:=jr)))) ?_
 refine Q4 (je0 ?_)
 simp
end Go.Proofs
namespace Go.Proofs
open Go Go.Ev
theorem Q38:Q6 Tryz.prog 221:=jcb Tryz.func221
theorem Q7g{cs:List Cls}(hc:cs.length≤1099511627776){l:List Typ}(hl:l.length≤1099511627776):Ct Tryz.prog 221 [.lst false 3 (l.map eT),.clo (.func 150) [] [.fp [wv cs]]] [] (.int .i64 (fix (fun t=> !Q16 cs t) l)) []:=by
 refine jbS Tryz.func221 19 fun X hX=> ?_
 refine jq [0,1] ?_
 refine Q5 (jq [0,1,7,8] ?_)
 refine Q9 (Qo (α:=Nat) [0,1,7,8] (fun i=>[(8,.int .i64 i)]) (fun i=>[]) (fun i=>i≤l.length∧ ∀x∈l.take i,(fun t=> !Q16 cs t) x=false) (fun i=>l.length-i) (0) (fun i=>by simp;rfl) Z3 ?_ ?_)
 ·simp
 rintro i ⟨hi,hI⟩
 refine jq [0,1,7,8,9] ?_
 refine Q5 (jd (fun h2=> ?_) (fun h2=> ?_))
 ·try simp at h2
  refine Q3 (Q5 (Q9 (jq [0,1,5,7,8] ?_)))
  refine Q0 [0,1,5,7,8,16] (js hX 5 Zy (jc [] (c:=(by apply Qc7<;>first|assumption|exact hs _ (List.getElem_mem h2)|omega)) (a:=Qcd) (k:=jf))) ?_
  refine jd (fun h4=> ?_) (fun h4=> ?_)
  ·try simp at h4
   refine jq [4] ?_
   refine Q4 (je Zy ?_)
   rw[Q77 h2 hI (by simpa using h4)]
  ·try simp at h4
   refine Q3 (Qd (jh hX Z6) ?_)
   refine Qp (i+1) [0,1,7,8] Z2a ?_ ?_
   ·exact ⟨by omega,Q97 h2 hI (by simpa using h4)⟩
   ·omega
 ·try simp at h2
  refine Qr (jq [4] ?_)
  refine Q4 (je Zy ?_)
  rw[Q6y (p:=fun t=> !Q16 cs t) (fun x hx=>hI x (by rw[List.take_of_length_le h2];exact hx))]
end Go.Proofs
namespace Go.Proofs
open Go Go.Ev
theorem Q24:Q6 Tryz.prog 152:=jcb Tryz.func152
theorem Q40{cs:List Cls}(hc:cs.length≤1099511627776){l:List Typ}(hl:l.length≤1099511627776):Ct Tryz.prog 152 [.lst false 3 (l.map eT),.clo (.func 150) [] [.fp [wv cs]]] [] (.bool (l.any (fun t=> !Q16 cs t))) []:=by
 refine jbS Tryz.func152 9 fun X hX=> ?_
 refine jq [0,1] ?_
 refine Q0 [4] (jt 2 (k:=(jc [] (c:=(by apply Q7g<;>exact Z4)) (a:=Q38) (k:=jr)))) ?_
 refine Q4 (je0 ?_)
 rw[←Qk0]
end Go.Proofs
namespace Go.Proofs
open Go Go.Ev
theorem Q4j:Q6 Tryz.prog 84:=jcb Tryz.func84
theorem Q4h{l:List Cls}(hl:l.length≤1099511627776){f:Frm}:Ct Tryz.prog 84 [wv l,eFr f] [] (.bool (Qev l f)) []:=by
 refine jbS Tryz.func84 31 fun X hX=> ?_
 refine jq [2,3] ?_
 refine jq [3,5] ?_
 refine Q0 [4] (jt 5 (k:=(jm 5 11 [3,5,16] (p:=fun b2_5=>by (try simp at b2_5);exact (jh hX (by simp[-Qc,-Qb,b2_5];rfl))) (q:=fun b2_5=>by (try simp at b2_5);exact (jh hX Z1)) (k:=(jt 1 (k:=(jm 6 17 [3,5,23] (p:=fun b2_11=>by (try simp at b2_11);exact (js hX 3 (by simp[-Qc,-Qb,b2_11];rfl) (Q8.callB2 rfl Z3 rfl Z1 (by apply Q40<;>exact Z4) Q24 Z3 Z1 (jh hX Z1)))) (q:=fun b2_11=>by (try simp at b2_11);exact (jh hX Z1)) (k:=(jt 1 (k:=(jm 6 24 [30] (p:=fun b2_18=>by (try simp at b2_18);exact (js hX 3 (by simp[-Qc,-Qb,b2_18];rfl) (Q8.callB2 rfl Z3 rfl Z1 (by apply Q40<;>exact Z4) Q24 Z3 Z1 (jh hX Z1)))) (q:=fun b2_18=>by (try simp at b2_18);exact (jh hX Z1)) (k:=jr)))))))))))) ?_
 refine Q4 (je0 ?_)
 simp only[Qev,Q141,Bool.not_not,Bool.and_assoc]
end Go.Proofs
namespace Go.Proofs
open Go Go.Ev
theorem Q8y:Q6 Tryz.prog 157:=jcb Tryz.func157
theorem Q8w{l:List Cls}:Ct Tryz.prog 157 [.lst false 6 (l.map eC)] [] (.int .i64 l.length) []:=by
 refine jbS Tryz.func157 5 fun X hX=> ?_
 refine jq [0] ?_
 refine jq [2] ?_
 refine Q4 (je0 ?_)
 simp
end Go.Proofs
namespace Go.Proofs
open Go Go.Ev
theorem Qdk:Q6 Tryz.prog 158:=jcb Tryz.func158
theorem Qdi{l:List Mth}:Ct Tryz.prog 158 [.lst false 9 (l.map eM)] [] (.int .i64 l.length) []:=by
 refine jbS Tryz.func158 5 fun X hX=> ?_
 refine jq [0] ?_
 refine jq [2] ?_
 refine Q4 (je0 ?_)
 simp
end Go.Proofs
namespace Go.Proofs
open Go Go.Ev
theorem Qog:Q6 Tryz.prog 92:=jcb Tryz.func92
theorem Qnr{l:List Cls}{c m:Int}(hl:l.length≤1048576)(hs:Q1r l≤1099511627776):Ct Tryz.prog 92 [.lst false 6 (l.map eC),.int .i64 c,.int .i64 m] [] (.tup [eC (Qwv l c m),eM (Q52 l c m),.bool (Q4l l c m)]) []:=by
 rcases Q8q l c m with ⟨p1,p2,hT⟩|⟨i,rfl,p1,p2,hT⟩|⟨i,rfl,p1,p2,hT⟩|⟨i,j,rfl,rfl,p1,p2,hT⟩|⟨i,j,rfl,rfl,p1,p2,hT⟩
 all_goals try have hm2:=Nat.le_trans (Q11o p1) hs
 all_goals first|have p1x:(i:Int)≤(l.length:Int)-1:=by omega|have p1x: ¬(i:Int)≤(l.length:Int)-1:=by omega|have p1x:=trivial
 all_goals first|have p2x:(j:Int)≤(l[i].methods.length:Int)-1:=by omega|have p2x: ¬(j:Int)≤(l[i].methods.length:Int)-1:=by omega|have p2x:=trivial
 all_goals
  refine jbS Tryz.func92 41 fun X hX=> ?_
  refine Q0 [0,1,2,6,7] (jh hX (by simp[p1,p2,p1x,p2x];rfl)) ?_
  refine Q5 ?_
  first|(refine Q0 [0,1,2,6,7,26] (js hX 2 (by simp[p1,p2,p1x,p2x];rfl) (jc [] (c:=(by apply Q8w<;>exact Z20)) (a:=Q8y) (k:=(js hX 1 (by simp[p1,p2,p1x,p2x];(try (simp (disch:=omega) only[Q7];(try simp[p1,p2,p1x,p2x])));rfl) (jc [] (c:=(by apply Q22<;>exact Z20)) (a:=Q1q) (k:=(jh hX (by simp[p1,p2,p1x,p2x];rfl)))))))) ?_)|(refine Q0 [0,1,2,6,7,26] (js hX 2 (by simp[p1,p2,p1x,p2x];rfl) (jc [] (c:=(by apply Q8w<;>exact Z20)) (a:=Q8y) (k:=(js hX 1 (by simp[p1,p2,p1x,p2x];(try (simp (disch:=omega) only[Q7];(try simp[p1,p2,p1x,p2x])));rfl) (jc [] (c:=(by apply Q22<;>exact Z20)) (a:=Q1q) (k:=(js hX 8 (by simp[p1,p2,p1x,p2x];rfl) (jc [] (c:=(by apply Qdi<;>exact Z20)) (a:=Qdk) (k:=(js hX 1 (by simp[p1,p2,p1x,p2x];(try (simp (disch:=omega) only[Q7];(try simp[p1,p2,p1x,p2x])));rfl) (jc [] (c:=(by apply Q22<;>exact Z20)) (a:=Q1q) (k:=(jh hX (by simp[p1,p2,p1x,p2x];rfl)))))))))))))) ?_)
  refine jd (fun h1=> ?_) (fun h1=> ?_)
  ·try simp at h1
   all_goals
    refine Q0 [6,7,8] (jh hX (by simp[p1,p2,p1x,p2x];rfl)) ?_
    refine Q4 (Q1z (by simp[p1,p2,p1x,p2x];rfl) ?_ rfl)
    simp only[Qwv,Q52,hT,Bool.false_eq_true,if_false]
    exact Wk.tup (.cons Q14h (.cons Qyb (.cons (Wk.refl _) .nil)))
  ·try simp at h1
   all_goals
    refine Q3 (jL 13 [0,1,2,3,4,5,6,7,8,9,10,11] [12] [6,7,8] ([]) hX (by simp[p1,p2,p1x,p2x];rfl) (jH (p:=fun X hX=>(jh hX (by simp[p1,p2,p1x,p2x];rfl))) (k:=.nil)) (jh hX (by simp[p1,p2,p1x,p2x];rfl)) ?_)
    refine Q4 (Q1z (by simp[p1,p2,p1x,p2x];rfl) ?_ rfl)
    rw[Qp5 hT p1,Q8t hT p1 p2,hT]
    exact Wk.refl _
end Go.Proofs
namespace Go.Proofs
open Go Go.Ev
theorem Qi:Q6 Tryz.prog 113:=jcb Tryz.func113
theorem Q9l{l:List Typ}:Ct Tryz.prog 113 [.lst false 3 (l.map eT)] [] (.int .i64 l.length) []:=by
 refine jbS Tryz.func113 5 fun X hX=> ?_
 refine jq [0] ?_
 refine jq [2] ?_
 refine Q4 (je0 ?_)
 simp
end Go.Proofs
namespace Go.Proofs
open Go Go.Ev
theorem Qsh:Q6 Tryz.prog 58:=jcb Tryz.func58
theorem Qs2{l:List Cls}{c m a:Int}{f:Frm}(hl:l.length≤1048576)(hs:Q1r l≤1048576)(h1:f.stack.length≤1048576)(h2:f.locals.length≤1048576):Ct Tryz.prog 58 [.lst false 6 (l.map eC),.int .i64 c,.int .i64 m,.int .i64 a,eFr f] [] (Qp3 l c m a f) []:=by
 obtain ⟨wl,wq⟩:=Q10f l c m hs
 rcases pl7 l c m a f with ⟨hR,hT,hF,eA,eS,eL⟩|⟨hR,hT,hF,eA,eS,eL⟩|⟨hR,hT,hF,eA,eS,eL⟩|⟨hR,hT,hF,eA,eS,eL⟩|⟨hR,hT,hF,eA,eS,eL⟩|⟨hR,hT,hF,eA,eS,eL⟩|⟨hR,hT,hF,eA,eS,eL⟩
 all_goals
  refine jbS Tryz.func58 78 fun X hX=> ?_
  refine Q0 [0,1,2,3,9] (jh hX Zr) ?_
  refine Q5 (Q0 [0,1,2,3,9,19] (js hX 1 Zr (jc [] (c:=(by apply Qci<;>exact Zl)) (a:=Qck) (k:=(jh hX Zr)))) ?_)
  refine jd (fun h1=> ?_) (fun h1=> ?_)
  ·try simp at h1
   all_goals
    refine Q0 [10,11] (jh hX Zr) ?_
    refine Q4 (je Zr ?_)
    rw[Qp3,if_pos Za];rfl
  ·try simp at h1
   all_goals
    refine Q3 (Q0 [0,1,2,3,9,12,13] (js hX 1 Zr (jc [] (c:=(by apply Qka<;>exact Zl)) (a:=Qkt) (k:=(jh hX Zr)))) ?_)
    refine Q0 [3,9,12,13,14,15,16] (js hX 3 Zr (jF (c:=(by apply Qnr<;>exact Zl)) (a:=Qog) (k:=(jh hX Zr)))) ?_
    refine Q5 ?_
    first|(refine jT 35 (Q20 [0,1,2,3,4,5,6,7,8,9,10,11,12,13,14,15,16,17,18,19,20,21,22,23,24,25,26,27,28,29,30,31,32,33,34] .tail) [3,9,12,14,15,69] [] hX (jTp [0,1,2,3,4,5,6,7,8,9,10,11,12,13,14,15,16,17,18,19,20,21,22,23,24,25,26,27,28,29,30,31,32,33,34] _ Z1k .tail) (jh hX Zr) ?_)|(refine jT 35 (Q20 [0,1,2,3,4,5,6,7,8,9,10,11,12,13,14,15,16,17,18,19,20,21,22,23,24,25,26,27,28,29,30,31,32,33,34] .tail) [3,9,12,14,15,69] [] hX (jTp [0,1,2,3,4,5,6,7,8,9,10,11,12,13,14,15,16,17,18,19,20,21,22,23,24,25,26,27,28,29,30,31,32,33,34] _ Z1k .tail) (jh hX Zr) ?_)|(refine jT 35 (Q20 [0,1,2,3,4,5,6,7] (.alt 8 (.alt 9 (Q20 [10,11,12,13,14,15,16,17,18,19,20,21,22,23,24,25,26,27,28,29,30,31,32,33,34] .tail) .stop) .stop)) [3,9,12,14,15,69] [] hX (jTp [0,1,2,3,4,5,6,7] _ Z1k (jTa 8 (p:=fun X hX=>(jh hX Zr)) (k:=(jTa 9 (p:=fun X hX=>(jc [] (c:=(by apply Q4h<;>exact Zl)) (a:=Q4j) (k:=jf))) (k:=(jTp [10,11,12,13,14,15,16,17,18,19,20,21,22,23,24,25,26,27,28,29,30,31,32,33,34] _ Z1k .tail)) (kr:=.stop))) (kr:=.stop))) (jh hX Zr) ?_)|(refine jT 35 (Q20 [0,1,2,3,4,5,6,7] (.alt 8 (.alt 9 (Q20 [10,11,12,13,14] (.alt 15 (.alt 16 (Q20 [17] (.alt 18 (Q20 [19,20,21,22,23,24,25,26,27,28,29,30,31,32,33,34] .tail) .stop)) .stop) .stop)) .stop) .stop)) [3,9,12,14,15,69] [] hX (jTp [0,1,2,3,4,5,6,7] _ Z1k (jTa 8 (p:=fun X hX=>(jh hX Zr)) (k:=(jTa 9 (p:=fun X hX=>(jc [] (c:=(by apply Q4h<;>exact Zl)) (a:=Q4j) (k:=jf))) (k:=(jTp [10,11,12,13,14] _ Z1k (jTa 15 (p:=fun X hX=>(jh hX Zr)) (k:=(jTa 16 (p:=fun X hX=>(jc [] (c:=(by apply Q5c<;>exact Zl)) (a:=Q5d) (k:=jf))) (k:=(jTp [17] _ Z1k (jTa 18 (p:=fun X hX=>(jc [] (c:=(by apply Q22<;>exact Zl)) (a:=Q1q) (k:=jf))) (k:=(jTp [19,20,21,22,23,24,25,26,27,28,29,30,31,32,33,34] _ Z1k .tail)) (kr:=.stop)))) (kr:=.stop))) (kr:=.stop)))) (kr:=.stop))) (kr:=.stop))) (jh hX Zr) ?_)|(refine jT 35 (Q20 [0,1,2,3,4,5,6,7] (.alt 8 (.alt 9 (Q20 [10,11,12,13,14] (.alt 15 (.alt 16 (Q20 [17] (.alt 18 (Q20 [19,20,21,22,25] (.alt 23 (.alt 24 (.alt 26 (Q20 [27,28,29,30,31,32,33,34] .tail) .stop) (.alt 26 (.alt 24 (Q20 [27,28,29,30,31,32,33,34] .tail) .stop) .stop)) (.alt 26 (.alt 23 (.alt 24 (Q20 [27,28,29,30,31,32,33,34] .tail) .stop) .stop) .stop))) .stop)) .stop) .stop)) .stop) .stop)) [3,9,12,14,15,69] [] hX (jTp [0,1,2,3,4,5,6,7] _ Z1k (jTa 8 (p:=fun X hX=>(jh hX Zr)) (k:=(jTa 9 (p:=fun X hX=>(jc [] (c:=(by apply Q4h<;>exact Zl)) (a:=Q4j) (k:=jf))) (k:=(jTp [10,11,12,13,14] _ Z1k (jTa 15 (p:=fun X hX=>(jh hX Zr)) (k:=(jTa 16 (p:=fun X hX=>(jc [] (c:=(by apply Q5c<;>exact Zl)) (a:=Q5d) (k:=jf))) (k:=(jTp [17] _ Z1k (jTa 18 (p:=fun X hX=>(jc [] (c:=(by apply Q22<;>exact Zl)) (a:=Q1q) (k:=jf))) (k:=(jTp [19,20,21,22,25] _ Z1k (jTa 23 (p:=fun X hX=>(jh hX Zr)) (k:=(jTa 24 (p:=fun X hX=>(jc [] (c:=Zq) (a:=Qi) (k:=jf))) (k:=(jTa 26 (p:=fun X hX=>(jh hX Zr)) (k:=(jTp [27,28,29,30,31,32,33,34] _ Z1k .tail)) (kr:=.stop))) (kr:=(jTa 26 (p:=fun X hX=>(jh hX Zr)) (k:=(jTa 24 (p:=fun X hX=>(jc [] (c:=Zq) (a:=Qi) (k:=jf))) (k:=(jTp [27,28,29,30,31,32,33,34] _ Z1k .tail)) (kr:=.stop))) (kr:=.stop))))) (kr:=(jTa 26 (p:=fun X hX=>(jh hX Zr)) (k:=(jTa 23 (p:=fun X hX=>(jh hX Zr)) (k:=(jTa 24 (p:=fun X hX=>(jc [] (c:=Zq) (a:=Qi) (k:=jf))) (k:=(jTp [27,28,29,30,31,32,33,34] _ Z1k .tail)) (kr:=.stop))) (kr:=.stop))) (kr:=.stop)))))) (kr:=.stop)))) (kr:=.stop))) (kr:=.stop)))) (kr:=.stop))) (kr:=.stop))) (jh hX Zr) ?_)|(refine jT 35 (Q20 [0,1,2,3,4,5,6,7] (.alt 8 (.alt 9 (Q20 [10,11,12,13,14] (.alt 15 (.alt 16 (Q20 [17] (.alt 18 (Q20 [19,20,21,22,25] (.alt 23 (.alt 24 (.alt 26 (Q20 [27,28,29,30,33] (.alt 31 (.alt 32 (.alt 34 .tail .stop) (.alt 34 (.alt 32 .tail .stop) .stop)) (.alt 34 (.alt 31 (.alt 32 .tail .stop) .stop) .stop))) .stop) (.alt 26 (.alt 24 (Q20 [27,28,29,30,33] (.alt 31 (.alt 32 (.alt 34 .tail .stop) (.alt 34 (.alt 32 .tail .stop) .stop)) (.alt 34 (.alt 31 (.alt 32 .tail .stop) .stop) .stop))) .stop) .stop)) (.alt 26 (.alt 23 (.alt 24 (Q20 [27,28,29,30,33] (.alt 31 (.alt 32 (.alt 34 .tail .stop) (.alt 34 (.alt 32 .tail .stop) .stop)) (.alt 34 (.alt 31 (.alt 32 .tail .stop) .stop) .stop))) .stop) .stop) .stop))) .stop)) .stop) .stop)) .stop) .stop)) [3,9,12,14,15,69] [] hX (jTp [0,1,2,3,4,5,6,7] _ Z1k (jTa 8 (p:=fun X hX=>(jh hX Zr)) (k:=(jTa 9 (p:=fun X hX=>(jc [] (c:=(by apply Q4h<;>exact Zl)) (a:=Q4j) (k:=jf))) (k:=(jTp [10,11,12,13,14] _ Z1k (jTa 15 (p:=fun X hX=>(jh hX Zr)) (k:=(jTa 16 (p:=fun X hX=>(jc [] (c:=(by apply Q5c<;>exact Zl)) (a:=Q5d) (k:=jf))) (k:=(jTp [17] _ Z1k (jTa 18 (p:=fun X hX=>(jc [] (c:=(by apply Q22<;>exact Zl)) (a:=Q1q) (k:=jf))) (k:=(jTp [19,20,21,22,25] _ Z1k (jTa 23 (p:=fun X hX=>(jh hX Zr)) (k:=(jTa 24 (p:=fun X hX=>(jc [] (c:=Zq) (a:=Qi) (k:=jf))) (k:=(jTa 26 (p:=fun X hX=>(jh hX Zr)) (k:=(jTp [27,28,29,30,33] _ Z1k (jTa 31 (p:=fun X hX=>(jh hX Zr)) (k:=(jTa 32 (p:=fun X hX=>(jc [] (c:=Zq) (a:=Qi) (k:=jf))) (k:=(jTa 34 (p:=fun X hX=>(jh hX Zr)) (k:=.tail) (kr:=.stop))) (kr:=(jTa 34 (p:=fun X hX=>(jh hX Zr)) (k:=(jTa 32 (p:=fun X hX=>(jc [] (c:=Zq) (a:=Qi) (k:=jf))) (k:=.tail) (kr:=.stop))) (kr:=.stop))))) (kr:=(jTa 34 (p:=fun X hX=>(jh hX Zr)) (k:=(jTa 31 (p:=fun X hX=>(jh hX Zr)) (k:=(jTa 32 (p:=fun X hX=>(jc [] (c:=Zq) (a:=Qi) (k:=jf))) (k:=.tail) (kr:=.stop))) (kr:=.stop))) (kr:=.stop)))))) (kr:=.stop))) (kr:=(jTa 26 (p:=fun X hX=>(jh hX Zr)) (k:=(jTa 24 (p:=fun X hX=>(jc [] (c:=Zq) (a:=Qi) (k:=jf))) (k:=(jTp [27,28,29,30,33] _ Z1k (jTa 31 (p:=fun X hX=>(jh hX Zr)) (k:=(jTa 32 (p:=fun X hX=>(jc [] (c:=Zq) (a:=Qi) (k:=jf))) (k:=(jTa 34 (p:=fun X hX=>(jh hX Zr)) (k:=.tail) (kr:=.stop))) (kr:=(jTa 34 (p:=fun X hX=>(jh hX Zr)) (k:=(jTa 32 (p:=fun X hX=>(jc [] (c:=Zq) (a:=Qi) (k:=jf))) (k:=.tail) (kr:=.stop))) (kr:=.stop))))) (kr:=(jTa 34 (p:=fun X hX=>(jh hX Zr)) (k:=(jTa 31 (p:=fun X hX=>(jh hX Zr)) (k:=(jTa 32 (p:=fun X hX=>(jc [] (c:=Zq) (a:=Qi) (k:=jf))) (k:=.tail) (kr:=.stop))) (kr:=.stop))) (kr:=.stop)))))) (kr:=.stop))) (kr:=.stop))))) (kr:=(jTa 26 (p:=fun X hX=>(jh hX Zr)) (k:=(jTa 23 (p:=fun X hX=>(jh hX Zr)) (k:=(jTa 24 (p:=fun X hX=>(jc [] (c:=Zq) (a:=Qi) (k:=jf))) (k:=(jTp [27,28,29,30,33] _ Z1k (jTa 31 (p:=fun X hX=>(jh hX Zr)) (k:=(jTa 32 (p:=fun X hX=>(jc [] (c:=Zq) (a:=Qi) (k:=jf))) (k:=(jTa 34 (p:=fun X hX=>(jh hX Zr)) (k:=.tail) (kr:=.stop))) (kr:=(jTa 34 (p:=fun X hX=>(jh hX Zr)) (k:=(jTa 32 (p:=fun X hX=>(jc [] (c:=Zq) (a:=Qi) (k:=jf))) (k:=.tail) (kr:=.stop))) (kr:=.stop))))) (kr:=(jTa 34 (p:=fun X hX=>(jh hX Zr)) (k:=(jTa 31 (p:=fun X hX=>(jh hX Zr)) (k:=(jTa 32 (p:=fun X hX=>(jc [] (c:=Zq) (a:=Qi) (k:=jf))) (k:=.tail) (kr:=.stop))) (kr:=.stop))) (kr:=.stop)))))) (kr:=.stop))) (kr:=.stop))) (kr:=.stop)))))) (kr:=.stop)))) (kr:=.stop))) (kr:=.stop)))) (kr:=.stop))) (kr:=.stop))) (jh hX Zr) ?_)
    refine jd (fun h5=> ?_) (fun h5=> ?_)
    ·try simp at h5
     all_goals
      refine Q0 [10,11] (jh hX (by simp[hR,hT,hF,eA,eS,eL,wq,h5];rfl)) ?_
      refine Q4 (je (by simp[hR,hT,hF,eA,eS,eL,wq,h5];rfl) ?_)
      rw[Qp3,if_neg Za,if_neg (by simp[Qjo,hR,hT,hF,eA,eS,eL])];rfl
    ·try simp at h5
     all_goals
      refine Q3 (jT 6 (Q20 [0,1,2,3,4] (.alt 5 .tail .stop)) [10,11] [0,1,2] hX (jTp [0,1,2,3,4] _ (by simp[hR,hT,hF,eA,eS,eL,wq,h5];try rfl) (jTa 5 (p:=fun X hX=>(jc [] (c:=(by apply Qm6<;>exact Zl)) (a:=Qmp) (k:=jf))) (k:=.tail) (kr:=.stop))) (jh hX (by simp[hR,hT,hF,eA,eS,eL,wq,h5];rfl)) ?_)
      refine Q21 (Le.nilF 5 0 19 3 Z8) ?_
      refine Q21 (Le.absorb 5 0 17 Z8) ?_
      refine Q21 (Le.absorb 5 0 18 Z8) ?_
      refine Q4 (je (by simp[hR,hT,hF,eA,eS,eL,wq,h5];rfl) ?_)
      rw[Qp3,if_neg Za,if_pos (by simp[Qjo,hR,hT,hF,eA,eS,eL])];rfl
end Go.Proofs
namespace Go.Proofs
open Go Go.Ev
theorem Qt8:Q6 Tryz.prog 114:=jcb Tryz.func114
theorem Qt2{i:Ins}(hd:i.desc.length≤1099511627776):Ct Tryz.prog 114 [eI i] [] (.int .i64 (Q30 i)) []:=by
 have hds:=Qit i.desc
 refine jbS Tryz.func114 46 fun X hX=> ?_
 refine jq [1] ?_
 refine Q5 (jq [1,4] ?_)
 refine Q9 (Q5 (jq [1,4,5] ?_))
 refine' Qau (l1:=[(1,.ptr 0 0 0),(4,.int .i64 i.op),(5,.bool (tk1 i.op))]) (l0:=[(1,.ptr 0 0 0),(4,.int .i64 i.op),(5,.bool (tk1 i.op))]) [1,4,5] Z8 Z17 (fun h2=> ?a1_1) (fun h2=> ?a0_1) ?ak_1
 case a1_1=>
  try simp at h2
  refine Q3 ?_
  exact ⟨rfl,Eq.trans Z23 (by refine congr (congrArg St.mk (congrArg (sp 46) ?_)) rfl;(try simp_all[tk1,tk2]);try grind)⟩
 case a0_1=>
  try simp at h2
  refine jq [1,4,5] ?_
  refine jd (fun h3=> ?_) (fun h3=> ?_)
  ·try simp at h3
   refine Q3 ?_
   exact ⟨rfl,Eq.trans Z23 (by refine congr (congrArg St.mk (congrArg (sp 46) ?_)) rfl;(try simp_all[tk1,tk2]);try grind)⟩
  ·try simp at h3
   refine jq [1,4,5] ?_
   refine jd (fun h4=> ?_) (fun h4=> ?_)
   ·try simp at h4
    refine Q3 ?_
    exact ⟨rfl,Eq.trans Z23 (by refine congr (congrArg St.mk (congrArg (sp 46) ?_)) rfl;(try simp_all[tk1,tk2]);try grind)⟩
   ·try simp at h4
    refine jq [1,4,5] ?_
    refine jd (fun h5=> ?_) (fun h5=> ?_)
    ·try simp at h5
     refine Q3 ?_
     exact ⟨rfl,Eq.trans Z23 (by refine congr (congrArg St.mk (congrArg (sp 46) ?_)) rfl;(try simp_all[tk1,tk2]);try grind)⟩
    ·try simp at h5
     refine jq [1,4,5] ?_
     refine jd (fun h6=> ?_) (fun h6=> ?_)
     ·try simp at h6
      refine Q3 ?_
      exact ⟨rfl,Eq.trans Z23 (by refine congr (congrArg St.mk (congrArg (sp 46) ?_)) rfl;(try simp_all[tk1,tk2]);try grind)⟩
     ·try simp at h6
      refine jq [1,4,5] ?_
      refine jd (fun h7=> ?_) (fun h7=> ?_)
      ·try simp at h7
       refine Q3 ?_
       exact ⟨rfl,Eq.trans Z23 (by refine congr (congrArg St.mk (congrArg (sp 46) ?_)) rfl;(try simp_all[tk1,tk2]);try grind)⟩
      ·try simp at h7
       refine jq [1,4,5] ?_
       refine jd (fun h8=> ?_) (fun h8=> ?_)
       ·try simp at h8
        refine Q3 ?_
        exact ⟨rfl,Eq.trans Z23 (by refine congr (congrArg St.mk (congrArg (sp 46) ?_)) rfl;(try simp_all[tk1,tk2]);try grind)⟩
       ·try simp at h8
        refine jq [1,4,5] ?_
        refine jd (fun h9=> ?_) (fun h9=> ?_)
        ·try simp at h9
         refine Q3 ?_
         exact ⟨rfl,Eq.trans Z23 (by refine congr (congrArg St.mk (congrArg (sp 46) ?_)) rfl;(try simp_all[tk1,tk2]);try grind)⟩
        ·try simp at h9
         refine jq [1,4,5] ?_
         refine jd (fun h10=> ?_) (fun h10=> ?_)
         ·try simp at h10
          refine Q3 ?_
          exact ⟨rfl,Eq.trans Z23 (by refine congr (congrArg St.mk (congrArg (sp 46) ?_)) rfl;(try simp_all[tk1,tk2]);try grind)⟩
         ·try simp at h10
          refine jq [1,4,5] ?_
          refine jd (fun h11=> ?_) (fun h11=> ?_)
          ·try simp at h11
           refine Q3 ?_
           exact ⟨rfl,Eq.trans Z23 (by refine congr (congrArg St.mk (congrArg (sp 46) ?_)) rfl;(try simp_all[tk1,tk2]);try grind)⟩
          ·try simp at h11
           refine jq [1,4,5] ?_
           refine jd (fun h12=> ?_) (fun h12=> ?_)
           ·try simp at h12
            refine Q3 ?_
            exact ⟨rfl,Eq.trans Z23 (by refine congr (congrArg St.mk (congrArg (sp 46) ?_)) rfl;(try simp_all[tk1,tk2]);try grind)⟩
           ·try simp at h12
            refine jq [1,4,5] ?_
            refine jd (fun h13=> ?_) (fun h13=> ?_)
            ·try simp at h13
             refine Q3 ?_
             exact ⟨rfl,Eq.trans Z23 (by refine congr (congrArg St.mk (congrArg (sp 46) ?_)) rfl;(try simp_all[tk1,tk2]);try grind)⟩
            ·try simp at h13
             refine jq [1,4,5] ?_
             refine jd (fun h14=> ?_) (fun h14=> ?_)
             ·try simp at h14
              refine Q3 ?_
              exact ⟨rfl,Eq.trans Z23 (by refine congr (congrArg St.mk (congrArg (sp 46) ?_)) rfl;(try simp_all[tk1,tk2]);try grind)⟩
             ·try simp at h14
              refine jq [1,4,5] ?_
              refine jd (fun h15=> ?_) (fun h15=> ?_)
              ·try simp at h15
               refine Q3 ?_
               exact ⟨rfl,Eq.trans Z23 (by refine congr (congrArg St.mk (congrArg (sp 46) ?_)) rfl;(try simp_all[tk1,tk2]);try grind)⟩
              ·try simp at h15
               refine Qd (Q8.weak jr (Le.keep [1,4,5] _)) ?_
               exact ⟨rfl,Eq.trans Z23 (by refine congr (congrArg St.mk (congrArg (sp 46) ?_)) rfl;(try simp_all[tk1,tk2]);try grind)⟩
 case ak_1=>
  refine Q21 (Le.of_eq Z8) ?_
  refine jd (fun h2=> ?_) (fun h2=> ?_)
  ·try simp at h2
   refine jq [2] ?_
   refine Q4 (je0 ?_)
   simp_all[Q30]
  ·try simp at h2
   refine Q5 (jq [1,4,21] ?_)
   refine' Qau (l1:=[(1,.ptr 0 0 0),(4,.int .i64 i.op),(21,.bool (tk2 i.op))]) (l0:=[(1,.ptr 0 0 0),(4,.int .i64 i.op),(21,.bool (tk2 i.op))]) [1,4,21] Z8 Z17 (fun h18=> ?a1_2) (fun h18=> ?a0_2) ?ak_2
   case a1_2=>
    try simp at h18
    refine Q3 ?_
    exact ⟨rfl,Eq.trans Z23 (by refine congr (congrArg St.mk (congrArg (sp 46) ?_)) rfl;(try simp_all[tk1,tk2]);try grind)⟩
   case a0_2=>
    try simp at h18
    refine jq [1,4,21] ?_
    refine jd (fun h19=> ?_) (fun h19=> ?_)
    ·try simp at h19
     refine Q3 ?_
     exact ⟨rfl,Eq.trans Z23 (by refine congr (congrArg St.mk (congrArg (sp 46) ?_)) rfl;(try simp_all[tk1,tk2]);try grind)⟩
    ·try simp at h19
     refine jq [1,4,21] ?_
     refine jd (fun h20=> ?_) (fun h20=> ?_)
     ·try simp at h20
      refine Q3 ?_
      exact ⟨rfl,Eq.trans Z23 (by refine congr (congrArg St.mk (congrArg (sp 46) ?_)) rfl;(try simp_all[tk1,tk2]);try grind)⟩
     ·try simp at h20
      refine jq [1,4,21] ?_
      refine jd (fun h21=> ?_) (fun h21=> ?_)
      ·try simp at h21
       refine Q3 ?_
       exact ⟨rfl,Eq.trans Z23 (by refine congr (congrArg St.mk (congrArg (sp 46) ?_)) rfl;(try simp_all[tk1,tk2]);try grind)⟩
      ·try simp at h21
       refine jq [1,4,21] ?_
       refine jd (fun h22=> ?_) (fun h22=> ?_)
       ·try simp at h22
        refine Q3 ?_
        exact ⟨rfl,Eq.trans Z23 (by refine congr (congrArg St.mk (congrArg (sp 46) ?_)) rfl;(try simp_all[tk1,tk2]);try grind)⟩
       ·try simp at h22
        refine jq [1,4,21] ?_
        refine jd (fun h23=> ?_) (fun h23=> ?_)
        ·try simp at h23
         refine Q3 ?_
         exact ⟨rfl,Eq.trans Z23 (by refine congr (congrArg St.mk (congrArg (sp 46) ?_)) rfl;(try simp_all[tk1,tk2]);try grind)⟩
        ·try simp at h23
         refine Qd (Q8.weak jr (Le.keep [1,4,21] _)) ?_
         exact ⟨rfl,Eq.trans Z23 (by refine congr (congrArg St.mk (congrArg (sp 46) ?_)) rfl;(try simp_all[tk1,tk2]);try grind)⟩
   case ak_2=>
    refine Q21 (Le.of_eq Z8) ?_
    refine jd (fun h18=> ?_) (fun h18=> ?_)
    ·try simp at h18
     refine jq [2] ?_
     refine Q4 (je0 ?_)
     simp_all[Q30]
    ·try simp at h18
     refine jq [1,4,29] ?_
     refine jd (fun h26=> ?_) (fun h26=> ?_)
     ·try simp at h26
      refine jq [2] ?_
      refine Q4 (je0 ?_)
      simp_all[Q30]
     ·try simp at h26
      refine Q5 (jq [1,4,31] ?_)
      refine' Qau (l1:=[(1,.ptr 0 0 0),(4,.int .i64 i.op),(31,.bool (decide (i.op=36∨i.op=38)))]) (l0:=[(1,.ptr 0 0 0),(4,.int .i64 i.op),(31,.bool (decide (i.op=36∨i.op=38)))]) [1,4,31] Z8 Z17 (fun h28=> ?a1_3) (fun h28=> ?a0_3) ?ak_3
      case a1_3=>
       try simp at h28
       refine Q3 ?_
       exact ⟨rfl,Eq.trans Z23 (by refine congr (congrArg St.mk (congrArg (sp 46) ?_)) rfl;(try simp_all[tk1,tk2]);try grind)⟩
      case a0_3=>
       try simp at h28
       refine Qd (Q8.weak jr (Le.keep [1,4,31] _)) ?_
       exact ⟨rfl,Eq.trans Z23 (by refine congr (congrArg St.mk (congrArg (sp 46) ?_)) rfl;(try simp_all[tk1,tk2]);try grind)⟩
      case ak_3=>
       refine Q21 (Le.of_eq Z8) ?_
       refine jd (fun h28=> ?_) (fun h28=> ?_)
       ·try simp at h28
        refine Q0 [2] (jt 2 (k:=(jc [] (c:=(by apply Q9o<;>exact Z0)) (a:=Q9u) (k:=(jh hX Z6))))) ?_
        refine Q4 (je0 ?_)
        simp_all[Q30]
       ·try simp at h28
        refine jq [1,38] ?_
        refine jd (fun h31=> ?_) (fun h31=> ?_)
        ·try simp at h31
         refine Q0 [2] (jt 2 (k:=(jc [] (c:=(by apply Q9o<;>exact Z0)) (a:=Q9u) (k:=jr)))) ?_
         refine Q4 (je0 ?_)
         simp_all[Q30]
        ·try simp at h31
         refine Q3 (Q5 (Q0 [45] (jt 2 (k:=(jc [] (c:=(by apply Q22<;>exact Z0)) (a:=Q1q) (k:=jf)))) ?_))
         refine jd (fun h33=> ?_) (fun h33=> ?_)
         ·try simp at h33
          refine jq [2] ?_
          refine Q4 (je0 ?_)
          simp_all[Q30]
         ·try simp at h33
          refine Q3 (jq [2] ?_)
          refine Q4 (je0 ?_)
          simp_all[Q30]
end Go.Proofs
namespace Go.Proofs
open Go Go.Ev
theorem Q4k:Q6 Tryz.prog 161:=jcb Tryz.func161
theorem Q4i{n:Int}:Ct Tryz.prog 161 [.int .i64 n] [] (eT ⟨n,[],0⟩) []:=by
 refine jbS Tryz.func161 5 fun X hX=> ?_
 refine jq [0,2] ?_
 refine jq [2] ?_
 refine Q4 (je0 ?_)
 simp
end Go.Proofs
namespace Go.Proofs
open Go Go.Ev
theorem Q1h:Q6 Tryz.prog 181:=jcb Tryz.func181
theorem Qj4{F:SF}{st lo tk:List Typ}{ys:List Typ}(hs:st.length≤1000)(hy:ys.length≤1000):Ct Tryz.prog 181 [.ptr 0 0 0,.lst false 3 (ys.map eT)] [some (20,[oFV F (.lst true 3 (st.map eT)) (.arr 1 0 lo.length) (.lst false 3 (tk.map eT))]),some (3,lo.map eT)] (.int .i64 0) [some (20,[oFV F (.lst true 3 ((st++ys).map eT)) (.arr 1 0 lo.length) (.lst false 3 (tk.map eT))]),some (3,lo.map eT)]:=by
 have w1:(st.length+ys.length)*32≤140737488355328:=by omega
 have w2:st.length+ys.length≤1099511627776:=by omega
 refine jbS Tryz.func181 16 fun X hX=> ?_
 refine Q0 [0,1] (jh hX (by simp[w1,w2];rfl)) ?_
 refine Q21 (Le.expose 0 0 17 Z24) ?_
 refine Q0 [] (jh hX (by simp[w1,w2];rfl)) ?_
 refine Q21 (Le.absorb 0 0 17 Z8) ?_
 refine Q0 [4] (jh hX (by simp[w1,w2];rfl)) ?_
 refine Q4 (Qq (by simp[w1,w2];rfl) Z17 (.of_eq ?_) ?_)
 all_goals clear hX
 ·skip
  rfl
 ·skip
  simp
  exact List.take_of_length_le Z3
theorem Q1p{F:SF}{st lo tk:List Typ}{ys:List Typ}(hs:st.length≤1000)(hy:ys.length≤1000):Ct Tryz.prog 181 [.ptr 0 0 0,.lst false 3 (ys.map eT)] [some (20,[oFl F st lo tk])] (.int .i64 0) [some (20,[oFl F (st++ys) (lo) tk])]:=by
 have w1:(st.length+ys.length)*32≤140737488355328:=by omega
 have w2:st.length+ys.length≤1099511627776:=by omega
 refine jbS Tryz.func181 16 fun X hX=> ?_
 refine Q0 [0,1] (jh hX (by simp[w1,w2];rfl)) ?_
 refine Q21 (Le.expose 0 0 17 Z24) ?_
 refine Q0 [] (jh hX (by simp[w1,w2];rfl)) ?_
 refine Q21 (Le.absorb 0 0 17 Z8) ?_
 refine Q0 [4] (jh hX (by simp[w1,w2];rfl)) ?_
 refine Q4 (Qq (by simp[w1,w2];rfl) Z17 (.of_eq ?_) ?_)
 all_goals clear hX
 ·skip
  rfl
 ·skip
  simp
  exact List.take_of_length_le Z3
end Go.Proofs
namespace Go.Proofs
open Go Go.Ev
theorem Q43:Q6 Tryz.prog 253:=jcb Tryz.func253
theorem Q41{F:SF}{x y z:V}:Ct Tryz.prog 253 [pFl F x y z] [] (.bool (decide (F.m.name=[60,105,110,105,116,62]))) []:=by
 refine jbS Tryz.func253 9 fun X hX=> ?_
 refine jq [0] ?_
 refine jq [2] ?_
 refine Q4 (je0 ?_)
 simp
end Go.Proofs
