/- Part 12 of what the proofs lean on: what the functions of the program and of the reference compute. Conditions: none. -/
import Derived.Test.YtkjgmpccmpmmiaaGreatK10
import Derived.Test.YtkjgmpccmpmmiaaGreatRows
set_option linter.all false
set_option linter.unusedVariables false
set_option linter.unusedSimpArgs false
set_option maxHeartbeats 2000000
set_option maxRecDepth 100000
namespace Go.Proofs
open Go Go.Ev
theorem Q5a:Q6 Tryz.prog 15:=jcb Tryz.func15
theorem Q59{l:List Cls}{c m a:Int}{f:Frm}(hl:l.length≤1048576)(hs:Q1r l≤1048576)(h1:f.stack.length≤1048576)(h2:f.locals.length≤1048576):Ct Tryz.prog 15 [.lst false 6 (l.map eC),.int .i64 c,.int .i64 m,.int .i64 a,eFr f] [] (oFo (Qc3 l c m a f)) []:=by
 rw[←Q13n l c m a f hs]
 rcases Qwm l c m a f with ⟨hV,hN⟩|⟨hV,hN,hC⟩|⟨hV,hN,hC⟩
 all_goals first|(have hP:=Qp2 hs (show Qjo l c m a f=true by assumption);obtain ⟨hP1,hP2,hP3,hP4,hP5,hP6,hP7,hP8,hP9,hP10,⟨hP11,hP14⟩,hP12,hP13⟩:=hP)|skip
 all_goals
  refine jbS Tryz.func15 35 fun X hX=> ?_
  refine Q0 [0,1,2,3,9,10] (jh hX (by simp[hV,Qbh];rfl)) ?_
  refine Q0 [10,11,12] (js hX 5 (by simp[hV,Qbh];rfl) (Q8.call [] rfl Z3 rfl (by simp[hV,Qbh];rfl) Z8 (by apply Qs2<;>exact Z20) Qsh Z3 Z3 (by simp[hV,Qbh];rfl) (jh hX (by simp[hV,Qbh];rfl)))) ?_
  refine Q5 (Q0 [10,11,12,23] (jh hX (by simp[hV,Qbh];rfl)) ?_)
  refine jd (fun h2=> ?_) (fun h2=> ?_)
  ·try simp at h2
   all_goals
    refine Qd (js hX 1 (by simp[hV,Qbh];rfl) (Q8.call [2] rfl Z3 rfl (by simp[hV,Qbh];rfl) Z8 (by apply (Qj5 (F:=Q7i l c m a) (st:=f.stack) (lo:=f.locals) (tk:=[]))<;>first|assumption|omega|simp) Qje Z3 Z3 (by simp[hV,Qbh];rfl) (jh hX (by simp[hV,Qbh];rfl)))) ?_
    refine Q5 (Q0 [10,11,12,27] (jh hX (by simp[hV,Qbh];rfl)) ?_)
    refine jd (fun h4=> ?_) (fun h4=> ?_)
    ·try simp at h4
     all_goals
      refine Q0 [10] (jh hX (by simp[hV,Qbh];rfl)) ?_
      refine Q4 (Q1z (by simp[hV,Qbh];rfl) ?_ rfl)
      first|(rw[Qdf,if_pos hN];exact Wk.agg (.cons (Wk.nilSlice _ _) (.cons (Wk.nilSlice _ _) (.cons (Wk.refl _) .nil))))|(rw[Qdf,if_neg hN,if_neg (by simp[hC])];exact Wk.agg (.cons (Wk.nilSlice _ _) (.cons (Wk.nilSlice _ _) (.cons (Wk.refl _) .nil))))|(rw[Qdf,if_neg hN,if_pos hC,if_neg h4];exact Wk.agg (.cons (Wk.nilSlice _ _) (.cons (Wk.nilSlice _ _) (.cons (Wk.refl _) .nil))))
    ·try simp at h4
     all_goals
      refine Q21 (Le.expose 2 0 17 Z24) ?_
      refine Q21 (Le.expose 2 0 18 Z24) ?_
      refine Q3 (Q0 [10] (jh hX (by simp[hV,Qbh];rfl)) ?_)
      refine Q4 (Q1z (by simp[hV,Qbh];rfl) ?_ rfl)
      rw[Qdf,if_neg hN,if_pos hC,if_pos (by simpa using h4)];exact Wk.refl _
  ·try simp at h2
   all_goals
    refine Q3 (Q5 (Q0 [10,11,12,27] (jh hX (by simp[hV,Qbh];rfl)) ?_))
    refine jd (fun h4=> ?_) (fun h4=> ?_)
    ·try simp at h4
     all_goals
      refine Q0 [10] (jh hX (by simp[hV,Qbh];rfl)) ?_
      refine Q4 (Q1z (by simp[hV,Qbh];rfl) ?_ rfl)
      first|(rw[Qdf,if_pos hN];exact Wk.agg (.cons (Wk.nilSlice _ _) (.cons (Wk.nilSlice _ _) (.cons (Wk.refl _) .nil))))|(rw[Qdf,if_neg hN,if_neg (by simp[hC])];exact Wk.agg (.cons (Wk.nilSlice _ _) (.cons (Wk.nilSlice _ _) (.cons (Wk.refl _) .nil))))|(rw[Qdf,if_neg hN,if_pos hC,if_neg h4];exact Wk.agg (.cons (Wk.nilSlice _ _) (.cons (Wk.nilSlice _ _) (.cons (Wk.refl _) .nil))))
    ·try simp at h4
     all_goals
      refine Q21 (Le.expose 2 0 17 Z24) ?_
      refine Q21 (Le.expose 2 0 18 Z24) ?_
      refine Q3 (Q0 [10] (jh hX (by simp[hV,Qbh];rfl)) ?_)
      refine Q4 (Q1z (by simp[hV,Qbh];rfl) ?_ rfl)
      rw[Qdf,if_neg hN,if_pos hC,if_pos (by simpa using h4)];exact Wk.refl _
end Go.Proofs
namespace Go.Proofs
open Go Go.Ev
theorem Qsf:Q6 Tryz.prog 120:=jcb Tryz.func120
theorem Qs0{x y:Typ}:Ct Tryz.prog 120 [eT x,eT y] [] (.bool (decide (x=y))) []:=by
 refine jbS Tryz.func120 20 fun X hX=> ?_
 refine jq [2,3] ?_
 refine Q5 (jq [2,3,9] ?_)
 refine jd (fun h1=> ?_) (fun h1=> ?_)
 ·try simp at h1
  refine jq [4] ?_
  refine Q4 (je0 ?_)
  (try simp at*)<;>cases x<;>cases y<;>simp_all
 ·try simp at h1
  refine Q3 (Q5 (jq [2,3,14] ?_))
  refine jd (fun h3=> ?_) (fun h3=> ?_)
  ·try simp at h3
   refine jq [4] ?_
   refine Q4 (je0 ?_)
   (try simp at*)<;>cases x<;>cases y<;>simp_all
  ·try simp at h3
   refine Q3 (Q5 (jq [19] ?_))
   refine jd (fun h5=> ?_) (fun h5=> ?_)
   ·try simp at h5
    refine jq [4] ?_
    refine Q4 (je0 ?_)
    (try simp at*)<;>cases x<;>cases y<;>simp_all
   ·try simp at h5
    refine Q3 (jq [4] ?_)
    refine Q4 (je0 ?_)
    (try simp at*)<;>cases x<;>cases y<;>simp_all
end Go.Proofs
namespace Go.Proofs
open Go Go.Ev
theorem Q8i:Q6 Tryz.prog 61:=jcb Tryz.func61
theorem Q8g{l1 l2:List Typ}(q1:l1.length<4611686018427387904)(q2:l2.length<4611686018427387904):Ct Tryz.prog 61 [.lst false 3 (l1.map eT),.lst false 3 (l2.map eT)] [] (.bool (decide (l1=l2))) []:=by
 refine jbS Tryz.func61 27 fun X hX=> ?_
 refine jq [0,1] ?_
 refine Q5 (jq [0,1,10] ?_)
 refine jd (fun h1=> ?_) (fun h1=> ?_)
 ·try simp at h1
  replace h1: ¬l1.length=l2.length:=by omega
  refine jq [4] ?_
  refine Q4 (je0 ?_)
  have: ¬l1=l2:=fun e=>h1 (by rw[e])
  simp[this]
 ·try simp at h1
  replace h1:l1.length=l2.length:=by omega
  refine Q3 (Q5 (jq [0,1,5] ?_))
  refine Q9 (Qo (α:=Nat) [0,1,5] (fun i=>[(5,.int .i64 i)]) (fun i=>[]) (fun i=>i≤l1.length∧(l1.drop i=l2.drop i↔l1=l2)) (fun i=>l1.length-i) (0) (fun i=>by simp;rfl) Z3 ?_ ?_)
  ·simp
  rintro i ⟨hi,hI⟩
  refine Q5 (jq [0,1,5,14] ?_)
  refine jd (fun h4=> ?_) (fun h4=> ?_)
  ·try simp at h4
   have h4b:i<l1.length:=by omega
   have h4c:i<l2.length:=by omega
   rw[List.drop_eq_getElem_cons h4b,List.drop_eq_getElem_cons h4c,List.cons.injEq] at hI
   refine Q3 (Q5 (Q9 (jD [0,1,5,26] (jS 8 (by simp[h4,h4b,h4c];rfl) (jC (c:=by apply Qs0<;>first|assumption|omega|exact hb1 _ (List.getElem_mem _)|exact hb2 _ (List.getElem_mem _)) (a:=Qsf) (k:=(jQ Z8)))) ?_)))
   refine jd (fun h6=> ?_) (fun h6=> ?_)
   ·try simp at h6
    refine jq [4] ?_
    refine Q4 (je (by simp[h4,h4b,h4c];rfl) ?_)
    simp_all
   ·try simp at h6
    refine Q3 (Qd (jh hX Z6) ?_)
    refine Qp (i+1) [0,1,5] (by simp[h4,h4b,h4c];try (simp (disch:=omega) only[Q7])) ?_ ?_
    ·exact ⟨by omega,by simp_all⟩
    ·omega
  ·try simp at h4
   refine Qr (jq [4] ?_)
   refine Q4 (je (by simp[h4];rfl) ?_)
   have:l1.drop i=[]:=List.drop_eq_nil_of_le Za
   have e2:l2.drop i=[]:=List.drop_eq_nil_of_le Za
   simp_all
end Go.Proofs
namespace Go.Proofs
open Go Go.Ev
theorem Qfk:Q6 Tryz.prog 18:=jcb Tryz.func18
theorem Qm2{x y:Frm}(p0:x.stack.length<4611686018427387904)(p2:x.locals.length<4611686018427387904)(q0:y.stack.length<4611686018427387904)(q2:y.locals.length<4611686018427387904):Ct Tryz.prog 18 [eFr x,eFr y] [] (.bool (decide (x=y))) []:=by
 refine jbS Tryz.func18 17 fun X hX=> ?_
 refine jq [2,3] ?_
 refine Q5 (Q0 [2,3,10] (jt 4 (k:=(jc [] (c:=(by apply Q8g<;>exact Z20)) (a:=Q8i) (k:=jr)))) ?_)
 refine jd (fun h1=> ?_) (fun h1=> ?_)
 ·try simp at h1
  refine jq [4] ?_
  refine Q4 (je0 ?_)
  (try simp at*)<;>cases x<;>cases y<;>simp_all
 ·try simp at h1
  refine Q3 (Q5 (Q0 [16] (jt 4 (k:=(jc [] (c:=(by apply Q8g<;>exact Z20)) (a:=Q8i) (k:=jr)))) ?_))
  refine jd (fun h3=> ?_) (fun h3=> ?_)
  ·try simp at h3
   refine jq [4] ?_
   refine Q4 (je0 ?_)
   (try simp at*)<;>cases x<;>cases y<;>simp_all
  ·try simp at h3
   refine Q3 (jq [4] ?_)
   refine Q4 (je0 ?_)
   (try simp at*)<;>cases x<;>cases y<;>simp_all
theorem Qpl{x y:Frm}(hx:Qmt x)(hy:Qmt y):Ct Tryz.prog 18 [eFr x,eFr y] [] (.bool (decide (x=y))) []:=by
 simp only[Qmt] at hx hy
 obtain ⟨p0,p1,p2,p3⟩:=hx
 obtain ⟨q0,q1,q2,q3⟩:=hy
 refine jbS Tryz.func18 17 fun X hX=> ?_
 refine jq [2,3] ?_
 refine Q5 (Q0 [2,3,10] (jt 4 (k:=(jc [] (c:=(by apply Q8g<;>exact Z20)) (a:=Q8i) (k:=jr)))) ?_)
 refine jd (fun h1=> ?_) (fun h1=> ?_)
 ·try simp at h1
  refine jq [4] ?_
  refine Q4 (je0 ?_)
  (try simp at*)<;>cases x<;>cases y<;>simp_all
 ·try simp at h1
  refine Q3 (Q5 (Q0 [16] (jt 4 (k:=(jc [] (c:=(by apply Q8g<;>exact Z20)) (a:=Q8i) (k:=jr)))) ?_))
  refine jd (fun h3=> ?_) (fun h3=> ?_)
  ·try simp at h3
   refine jq [4] ?_
   refine Q4 (je0 ?_)
   (try simp at*)<;>cases x<;>cases y<;>simp_all
  ·try simp at h3
   refine Q3 (jq [4] ?_)
   refine Q4 (je0 ?_)
   (try simp at*)<;>cases x<;>cases y<;>simp_all
end Go.Proofs
namespace Go.Proofs
open Go Go.Ev
theorem Q8p:Q6 Tryz.prog 16:=jcb Tryz.func16
theorem Q8o{x y:FrO}(hx:Q12g x)(hy:Q12g y):Ct Tryz.prog 16 [eFo x,eFo y] [] (.bool (decide (x=y))) []:=by
 obtain ⟨p0,p2⟩:=hx
 obtain ⟨q0,q2⟩:=hy
 refine jbS Tryz.func16 16 fun X hX=> ?_
 refine jq [2,3] ?_
 refine Q5 (Q0 [2,3,10] (jt 4 (k:=(jc [] (c:=(by apply Qm2<;>exact Z20)) (a:=Qfk) (k:=jr)))) ?_)
 refine jd (fun h1=> ?_) (fun h1=> ?_)
 ·try simp at h1
  refine jq [4] ?_
  refine Q4 (je0 ?_)
  (try simp at*)<;>cases x<;>cases y<;>simp_all
 ·try simp at h1
  refine Q3 (Q5 (jq [15] ?_))
  refine jd (fun h3=> ?_) (fun h3=> ?_)
  ·try simp at h3
   refine jq [4] ?_
   refine Q4 (je0 ?_)
   (try simp at*)<;>cases x<;>cases y<;>simp_all
  ·try simp at h3
   refine Q3 (jq [4] ?_)
   refine Q4 (je0 ?_)
   (try simp at*)<;>cases x<;>cases y<;>simp_all
end Go.Proofs
namespace Go.Proofs
open Go Go.Ev
theorem Qpx:Q6 Tryz.prog 190:=jcb Tryz.func190
theorem Qpm{x y:Fld}:Ct Tryz.prog 190 [eF x,eF y] [] (.bool (decide (x=y))) []:=by
 refine jbS Tryz.func190 20 fun X hX=> ?_
 refine jq [2,3] ?_
 refine Q5 (jq [2,3,9] ?_)
 refine jd (fun h1=> ?_) (fun h1=> ?_)
 ·try simp at h1
  refine jq [4] ?_
  refine Q4 (je0 ?_)
  (try simp at*)<;>cases x<;>cases y<;>simp_all
 ·try simp at h1
  refine Q3 (Q5 (jq [2,3,14] ?_))
  refine jd (fun h3=> ?_) (fun h3=> ?_)
  ·try simp at h3
   refine jq [4] ?_
   refine Q4 (je0 ?_)
   (try simp at*)<;>cases x<;>cases y<;>simp_all
  ·try simp at h3
   refine Q3 (Q5 (jq [19] ?_))
   refine jd (fun h5=> ?_) (fun h5=> ?_)
   ·try simp at h5
    refine jq [4] ?_
    refine Q4 (je0 ?_)
    (try simp at*)<;>cases x<;>cases y<;>simp_all
   ·try simp at h5
    refine Q3 (jq [4] ?_)
    refine Q4 (je0 ?_)
    (try simp at*)<;>cases x<;>cases y<;>simp_all
end Go.Proofs
namespace Go.Proofs
open Go Go.Ev
theorem Qoe:Q6 Tryz.prog 118:=jcb Tryz.func118
theorem Qnp{l1 l2:List Fld}(q1:l1.length<4611686018427387904)(q2:l2.length<4611686018427387904):Ct Tryz.prog 118 [.lst false 3 (l1.map eF),.lst false 3 (l2.map eF)] [] (.bool (decide (l1=l2))) []:=by
 refine jbS Tryz.func118 27 fun X hX=> ?_
 refine jq [0,1] ?_
 refine Q5 (jq [0,1,10] ?_)
 refine jd (fun h1=> ?_) (fun h1=> ?_)
 ·try simp at h1
  replace h1: ¬l1.length=l2.length:=by omega
  refine jq [4] ?_
  refine Q4 (je0 ?_)
  have: ¬l1=l2:=fun e=>h1 (by rw[e])
  simp[this]
 ·try simp at h1
  replace h1:l1.length=l2.length:=by omega
  refine Q3 (Q5 (jq [0,1,5] ?_))
  refine Q9 (Qo (α:=Nat) [0,1,5] (fun i=>[(5,.int .i64 i)]) (fun i=>[]) (fun i=>i≤l1.length∧(l1.drop i=l2.drop i↔l1=l2)) (fun i=>l1.length-i) (0) (fun i=>by simp;rfl) Z3 ?_ ?_)
  ·simp
  rintro i ⟨hi,hI⟩
  refine Q5 (jq [0,1,5,14] ?_)
  refine jd (fun h4=> ?_) (fun h4=> ?_)
  ·try simp at h4
   have h4b:i<l1.length:=by omega
   have h4c:i<l2.length:=by omega
   rw[List.drop_eq_getElem_cons h4b,List.drop_eq_getElem_cons h4c,List.cons.injEq] at hI
   refine Q3 (Q5 (Q9 (jD [0,1,5,26] (jS 8 (by simp[h4,h4b,h4c];rfl) (jC (c:=by apply Qpm<;>first|assumption|omega|exact hb1 _ (List.getElem_mem _)|exact hb2 _ (List.getElem_mem _)) (a:=Qpx) (k:=(jQ Z8)))) ?_)))
   refine jd (fun h6=> ?_) (fun h6=> ?_)
   ·try simp at h6
    refine jq [4] ?_
    refine Q4 (je (by simp[h4,h4b,h4c];rfl) ?_)
    simp_all
   ·try simp at h6
    refine Q3 (Qd (jh hX Z6) ?_)
    refine Qp (i+1) [0,1,5] (by simp[h4,h4b,h4c];try (simp (disch:=omega) only[Q7])) ?_ ?_
    ·exact ⟨by omega,by simp_all⟩
    ·omega
  ·try simp at h4
   refine Qr (jq [4] ?_)
   refine Q4 (je (by simp[h4];rfl) ?_)
   have:l1.drop i=[]:=List.drop_eq_nil_of_le Za
   have e2:l2.drop i=[]:=List.drop_eq_nil_of_le Za
   simp_all
end Go.Proofs
namespace Go.Proofs
open Go Go.Ev
theorem Qt7:Q6 Tryz.prog 304:=jcb Tryz.func304
theorem Qt1{x y:Ins}:Ct Tryz.prog 304 [eI x,eI y] [] (.bool (decide (x=y))) []:=by
 refine jbS Tryz.func304 30 fun X hX=> ?_
 refine jq [2,3] ?_
 refine Q5 (jq [2,3,9] ?_)
 refine jd (fun h1=> ?_) (fun h1=> ?_)
 ·try simp at h1
  refine jq [4] ?_
  refine Q4 (je0 ?_)
  (try simp at*)<;>cases x<;>cases y<;>simp_all
 ·try simp at h1
  refine Q3 (Q5 (jq [2,3,14] ?_))
  refine jd (fun h3=> ?_) (fun h3=> ?_)
  ·try simp at h3
   refine jq [4] ?_
   refine Q4 (je0 ?_)
   (try simp at*)<;>cases x<;>cases y<;>simp_all
  ·try simp at h3
   refine Q3 (Q5 (jq [2,3,19] ?_))
   refine jd (fun h5=> ?_) (fun h5=> ?_)
   ·try simp at h5
    refine jq [4] ?_
    refine Q4 (je0 ?_)
    (try simp at*)<;>cases x<;>cases y<;>simp_all
   ·try simp at h5
    refine Q3 (Q5 (jq [2,3,24] ?_))
    refine jd (fun h7=> ?_) (fun h7=> ?_)
    ·try simp at h7
     refine jq [4] ?_
     refine Q4 (je0 ?_)
     (try simp at*)<;>cases x<;>cases y<;>simp_all
    ·try simp at h7
     refine Q3 (Q5 (jq [29] ?_))
     refine jd (fun h9=> ?_) (fun h9=> ?_)
     ·try simp at h9
      refine jq [4] ?_
      refine Q4 (je0 ?_)
      (try simp at*)<;>cases x<;>cases y<;>simp_all
     ·try simp at h9
      refine Q3 (jq [4] ?_)
      refine Q4 (je0 ?_)
      (try simp at*)<;>cases x<;>cases y<;>simp_all
end Go.Proofs
namespace Go.Proofs
open Go Go.Ev
theorem Qsg:Q6 Tryz.prog 267:=jcb Tryz.func267
theorem Qs1{l1 l2:List Ins}(q1:l1.length<4611686018427387904)(q2:l2.length<4611686018427387904):Ct Tryz.prog 267 [.lst false 5 (l1.map eI),.lst false 5 (l2.map eI)] [] (.bool (decide (l1=l2))) []:=by
 refine jbS Tryz.func267 27 fun X hX=> ?_
 refine jq [0,1] ?_
 refine Q5 (jq [0,1,10] ?_)
 refine jd (fun h1=> ?_) (fun h1=> ?_)
 ·try simp at h1
  replace h1: ¬l1.length=l2.length:=by omega
  refine jq [4] ?_
  refine Q4 (je0 ?_)
  have: ¬l1=l2:=fun e=>h1 (by rw[e])
  simp[this]
 ·try simp at h1
  replace h1:l1.length=l2.length:=by omega
  refine Q3 (Q5 (jq [0,1,5] ?_))
  refine Q9 (Qo (α:=Nat) [0,1,5] (fun i=>[(5,.int .i64 i)]) (fun i=>[]) (fun i=>i≤l1.length∧(l1.drop i=l2.drop i↔l1=l2)) (fun i=>l1.length-i) (0) (fun i=>by simp;rfl) Z3 ?_ ?_)
  ·simp
  rintro i ⟨hi,hI⟩
  refine Q5 (jq [0,1,5,14] ?_)
  refine jd (fun h4=> ?_) (fun h4=> ?_)
  ·try simp at h4
   have h4b:i<l1.length:=by omega
   have h4c:i<l2.length:=by omega
   rw[List.drop_eq_getElem_cons h4b,List.drop_eq_getElem_cons h4c,List.cons.injEq] at hI
   refine Q3 (Q5 (Q9 (jD [0,1,5,26] (jS 8 (by simp[h4,h4b,h4c];rfl) (jC (c:=by apply Qt1<;>first|assumption|omega|exact hb1 _ (List.getElem_mem _)|exact hb2 _ (List.getElem_mem _)) (a:=Qt7) (k:=(jQ Z8)))) ?_)))
   refine jd (fun h6=> ?_) (fun h6=> ?_)
   ·try simp at h6
    refine jq [4] ?_
    refine Q4 (je (by simp[h4,h4b,h4c];rfl) ?_)
    simp_all
   ·try simp at h6
    refine Q3 (Qd (jh hX Z6) ?_)
    refine Qp (i+1) [0,1,5] (by simp[h4,h4b,h4c];try (simp (disch:=omega) only[Q7])) ?_ ?_
    ·exact ⟨by omega,by simp_all⟩
    ·omega
  ·try simp at h4
   refine Qr (jq [4] ?_)
   refine Q4 (je (by simp[h4];rfl) ?_)
   have:l1.drop i=[]:=List.drop_eq_nil_of_le Za
   have e2:l2.drop i=[]:=List.drop_eq_nil_of_le Za
   simp_all
end Go.Proofs
namespace Go.Proofs
open Go Go.Ev
theorem Qml:Q6 Tryz.prog 305:=jcb Tryz.func305
theorem Qm1{x y:Hdl}:Ct Tryz.prog 305 [eH x,eH y] [] (.bool (decide (x=y))) []:=by
 refine jbS Tryz.func305 25 fun X hX=> ?_
 refine jq [2,3] ?_
 refine Q5 (jq [2,3,9] ?_)
 refine jd (fun h1=> ?_) (fun h1=> ?_)
 ·try simp at h1
  refine jq [4] ?_
  refine Q4 (je0 ?_)
  (try simp at*)<;>cases x<;>cases y<;>simp_all
 ·try simp at h1
  refine Q3 (Q5 (jq [2,3,14] ?_))
  refine jd (fun h3=> ?_) (fun h3=> ?_)
  ·try simp at h3
   refine jq [4] ?_
   refine Q4 (je0 ?_)
   (try simp at*)<;>cases x<;>cases y<;>simp_all
  ·try simp at h3
   refine Q3 (Q5 (jq [2,3,19] ?_))
   refine jd (fun h5=> ?_) (fun h5=> ?_)
   ·try simp at h5
    refine jq [4] ?_
    refine Q4 (je0 ?_)
    (try simp at*)<;>cases x<;>cases y<;>simp_all
   ·try simp at h5
    refine Q3 (Q5 (jq [24] ?_))
    refine jd (fun h7=> ?_) (fun h7=> ?_)
    ·try simp at h7
     refine jq [4] ?_
     refine Q4 (je0 ?_)
     (try simp at*)<;>cases x<;>cases y<;>simp_all
    ·try simp at h7
     refine Q3 (jq [4] ?_)
     refine Q4 (je0 ?_)
     (try simp at*)<;>cases x<;>cases y<;>simp_all
end Go.Proofs
namespace Go.Proofs
open Go Go.Ev
theorem Qks:Q6 Tryz.prog 268:=jcb Tryz.func268
theorem Qk9{l1 l2:List Hdl}(q1:l1.length<4611686018427387904)(q2:l2.length<4611686018427387904):Ct Tryz.prog 268 [.lst false 4 (l1.map eH),.lst false 4 (l2.map eH)] [] (.bool (decide (l1=l2))) []:=by
 refine jbS Tryz.func268 27 fun X hX=> ?_
 refine jq [0,1] ?_
 refine Q5 (jq [0,1,10] ?_)
 refine jd (fun h1=> ?_) (fun h1=> ?_)
 ·try simp at h1
  replace h1: ¬l1.length=l2.length:=by omega
  refine jq [4] ?_
  refine Q4 (je0 ?_)
  have: ¬l1=l2:=fun e=>h1 (by rw[e])
  simp[this]
 ·try simp at h1
  replace h1:l1.length=l2.length:=by omega
  refine Q3 (Q5 (jq [0,1,5] ?_))
  refine Q9 (Qo (α:=Nat) [0,1,5] (fun i=>[(5,.int .i64 i)]) (fun i=>[]) (fun i=>i≤l1.length∧(l1.drop i=l2.drop i↔l1=l2)) (fun i=>l1.length-i) (0) (fun i=>by simp;rfl) Z3 ?_ ?_)
  ·simp
  rintro i ⟨hi,hI⟩
  refine Q5 (jq [0,1,5,14] ?_)
  refine jd (fun h4=> ?_) (fun h4=> ?_)
  ·try simp at h4
   have h4b:i<l1.length:=by omega
   have h4c:i<l2.length:=by omega
   rw[List.drop_eq_getElem_cons h4b,List.drop_eq_getElem_cons h4c,List.cons.injEq] at hI
   refine Q3 (Q5 (Q9 (jD [0,1,5,26] (jS 8 (by simp[h4,h4b,h4c];rfl) (jC (c:=by apply Qm1<;>first|assumption|omega|exact hb1 _ (List.getElem_mem _)|exact hb2 _ (List.getElem_mem _)) (a:=Qml) (k:=(jQ Z8)))) ?_)))
   refine jd (fun h6=> ?_) (fun h6=> ?_)
   ·try simp at h6
    refine jq [4] ?_
    refine Q4 (je (by simp[h4,h4b,h4c];rfl) ?_)
    simp_all
   ·try simp at h6
    refine Q3 (Qd (jh hX Z6) ?_)
    refine Qp (i+1) [0,1,5] (by simp[h4,h4b,h4c];try (simp (disch:=omega) only[Q7])) ?_ ?_
    ·exact ⟨by omega,by simp_all⟩
    ·omega
  ·try simp at h4
   refine Qr (jq [4] ?_)
   refine Q4 (je (by simp[h4];rfl) ?_)
   have:l1.drop i=[]:=List.drop_eq_nil_of_le Za
   have e2:l2.drop i=[]:=List.drop_eq_nil_of_le Za
   simp_all
end Go.Proofs
namespace Go.Proofs
open Go Go.Ev
theorem Qod:Q6 Tryz.prog 191:=jcb Tryz.func191
theorem Qno{x y:Mth}(hx:Qsk x)(hy:Qsk y):Ct Tryz.prog 191 [eM x,eM y] [] (.bool (decide (x=y))) []:=by
 simp only[Qsk] at hx hy
 obtain ⟨p0,p1,p2,p3,p4,p5⟩:=hx
 obtain ⟨q0,q1,q2,q3,q4,q5⟩:=hy
 refine jbS Tryz.func191 52 fun X hX=> ?_
 refine jq [2,3] ?_
 refine Q5 (jq [2,3,9] ?_)
 refine jd (fun h1=> ?_) (fun h1=> ?_)
 ·try simp at h1
  refine jq [4] ?_
  refine Q4 (je0 ?_)
  (try simp at*)<;>cases x<;>cases y<;>simp_all
 ·try simp at h1
  refine Q3 (Q5 (jq [2,3,14] ?_))
  refine jd (fun h3=> ?_) (fun h3=> ?_)
  ·try simp at h3
   refine jq [4] ?_
   refine Q4 (je0 ?_)
   (try simp at*)<;>cases x<;>cases y<;>simp_all
  ·try simp at h3
   refine Q3 (Q5 (jq [2,3,19] ?_))
   refine jd (fun h5=> ?_) (fun h5=> ?_)
   ·try simp at h5
    refine jq [4] ?_
    refine Q4 (je0 ?_)
    (try simp at*)<;>cases x<;>cases y<;>simp_all
   ·try simp at h5
    refine Q3 (Q5 (jq [2,3,24] ?_))
    refine jd (fun h7=> ?_) (fun h7=> ?_)
    ·try simp at h7
     refine jq [4] ?_
     refine Q4 (je0 ?_)
     (try simp at*)<;>cases x<;>cases y<;>simp_all
    ·try simp at h7
     refine Q3 (Q5 (jq [2,3,29] ?_))
     refine jd (fun h9=> ?_) (fun h9=> ?_)
     ·try simp at h9
      refine jq [4] ?_
      refine Q4 (je0 ?_)
      (try simp at*)<;>cases x<;>cases y<;>simp_all
     ·try simp at h9
      refine Q3 (Q5 (jq [2,3,34] ?_))
      refine jd (fun h11=> ?_) (fun h11=> ?_)
      ·try simp at h11
       refine jq [4] ?_
       refine Q4 (je0 ?_)
       (try simp at*)<;>cases x<;>cases y<;>simp_all
      ·try simp at h11
       refine Q3 (Q5 (jq [2,3,39] ?_))
       refine jd (fun h13=> ?_) (fun h13=> ?_)
       ·try simp at h13
        refine jq [4] ?_
        refine Q4 (je0 ?_)
        (try simp at*)<;>cases x<;>cases y<;>simp_all
       ·try simp at h13
        refine Q3 (Q5 (Q0 [2,3,45] (jt 4 (k:=(jc [] (c:=(by apply Qs1<;>exact Z20)) (a:=Qsg) (k:=jr)))) ?_))
        refine jd (fun h15=> ?_) (fun h15=> ?_)
        ·try simp at h15
         refine jq [4] ?_
         refine Q4 (je0 ?_)
         (try simp at*)<;>cases x<;>cases y<;>simp_all
        ·try simp at h15
         refine Q3 (Q5 (Q0 [51] (jt 4 (k:=(jc [] (c:=(by apply Qk9<;>exact Z20)) (a:=Qks) (k:=jr)))) ?_))
         refine jd (fun h17=> ?_) (fun h17=> ?_)
         ·try simp at h17
          refine jq [4] ?_
          refine Q4 (je0 ?_)
          (try simp at*)<;>cases x<;>cases y<;>simp_all
         ·try simp at h17
          refine Q3 (jq [4] ?_)
          refine Q4 (je0 ?_)
          (try simp at*)<;>cases x<;>cases y<;>simp_all
end Go.Proofs
namespace Go.Proofs
open Go Go.Ev
theorem Qmk:Q6 Tryz.prog 119:=jcb Tryz.func119
theorem Qm0{l1 l2:List Mth}(q1:l1.length<4611686018427387904)(q2:l2.length<4611686018427387904)(hb1: ∀y∈l1,Qsk y)(hb2: ∀y∈l2,Qsk y):Ct Tryz.prog 119 [.lst false 9 (l1.map eM),.lst false 9 (l2.map eM)] [] (.bool (decide (l1=l2))) []:=by
 refine jbS Tryz.func119 27 fun X hX=> ?_
 refine jq [0,1] ?_
 refine Q5 (jq [0,1,10] ?_)
 refine jd (fun h1=> ?_) (fun h1=> ?_)
 ·try simp at h1
  replace h1: ¬l1.length=l2.length:=by omega
  refine jq [4] ?_
  refine Q4 (je0 ?_)
  have: ¬l1=l2:=fun e=>h1 (by rw[e])
  simp[this]
 ·try simp at h1
  replace h1:l1.length=l2.length:=by omega
  refine Q3 (Q5 (jq [0,1,5] ?_))
  refine Q9 (Qo (α:=Nat) [0,1,5] (fun i=>[(5,.int .i64 i)]) (fun i=>[]) (fun i=>i≤l1.length∧(l1.drop i=l2.drop i↔l1=l2)) (fun i=>l1.length-i) (0) (fun i=>by simp;rfl) Z3 ?_ ?_)
  ·simp
  rintro i ⟨hi,hI⟩
  refine Q5 (jq [0,1,5,14] ?_)
  refine jd (fun h4=> ?_) (fun h4=> ?_)
  ·try simp at h4
   have h4b:i<l1.length:=by omega
   have h4c:i<l2.length:=by omega
   rw[List.drop_eq_getElem_cons h4b,List.drop_eq_getElem_cons h4c,List.cons.injEq] at hI
   refine Q3 (Q5 (Q9 (jD [0,1,5,26] (jS 8 (by simp[h4,h4b,h4c];rfl) (jC (c:=by apply Qno<;>first|assumption|omega|exact hb1 _ (List.getElem_mem _)|exact hb2 _ (List.getElem_mem _)) (a:=Qod) (k:=(jQ Z8)))) ?_)))
   refine jd (fun h6=> ?_) (fun h6=> ?_)
   ·try simp at h6
    refine jq [4] ?_
    refine Q4 (je (by simp[h4,h4b,h4c];rfl) ?_)
    simp_all
   ·try simp at h6
    refine Q3 (Qd (jh hX Z6) ?_)
    refine Qp (i+1) [0,1,5] (by simp[h4,h4b,h4c];try (simp (disch:=omega) only[Q7])) ?_ ?_
    ·exact ⟨by omega,by simp_all⟩
    ·omega
  ·try simp at h4
   refine Qr (jq [4] ?_)
   refine Q4 (je (by simp[h4];rfl) ?_)
   have:l1.drop i=[]:=List.drop_eq_nil_of_le Za
   have e2:l2.drop i=[]:=List.drop_eq_nil_of_le Za
   simp_all
end Go.Proofs
namespace Go.Proofs
open Go Go.Ev
theorem Qpy:Q6 Tryz.prog 60:=jcb Tryz.func60
theorem Qpn{x y:Cls}(hx:Qq1 x)(hy:Qq1 y):Ct Tryz.prog 60 [eC x,eC y] [] (.bool (decide (x=y))) []:=by
 simp only[Qq1] at hx hy
 obtain ⟨p0,p1,p2,p3,p4,p5⟩:=hx
 obtain ⟨q0,q1,q2,q3,q4,q5⟩:=hy
 refine jbS Tryz.func60 37 fun X hX=> ?_
 refine jq [2,3] ?_
 refine Q5 (jq [2,3,9] ?_)
 refine jd (fun h1=> ?_) (fun h1=> ?_)
 ·try simp at h1
  refine jq [4] ?_
  refine Q4 (je0 ?_)
  (try simp at*)<;>cases x<;>cases y<;>simp_all
 ·try simp at h1
  refine Q3 (Q5 (jq [2,3,14] ?_))
  refine jd (fun h3=> ?_) (fun h3=> ?_)
  ·try simp at h3
   refine jq [4] ?_
   refine Q4 (je0 ?_)
   (try simp at*)<;>cases x<;>cases y<;>simp_all
  ·try simp at h3
   refine Q3 (Q5 (jq [2,3,19] ?_))
   refine jd (fun h5=> ?_) (fun h5=> ?_)
   ·try simp at h5
    refine jq [4] ?_
    refine Q4 (je0 ?_)
    (try simp at*)<;>cases x<;>cases y<;>simp_all
   ·try simp at h5
    refine Q3 (Q5 (jq [2,3,24] ?_))
    refine jd (fun h7=> ?_) (fun h7=> ?_)
    ·try simp at h7
     refine jq [4] ?_
     refine Q4 (je0 ?_)
     (try simp at*)<;>cases x<;>cases y<;>simp_all
    ·try simp at h7
     refine Q3 (Q5 (Q0 [2,3,30] (jt 4 (k:=(jc [] (c:=(by apply Qnp<;>exact Z20)) (a:=Qoe) (k:=jr)))) ?_))
     refine jd (fun h9=> ?_) (fun h9=> ?_)
     ·try simp at h9
      refine jq [4] ?_
      refine Q4 (je0 ?_)
      (try simp at*)<;>cases x<;>cases y<;>simp_all
     ·try simp at h9
      refine Q3 (Q5 (Q0 [36] (jt 4 (k:=(jc [] (c:=(by apply Qm0<;>exact Z20)) (a:=Qmk) (k:=jr)))) ?_))
      refine jd (fun h11=> ?_) (fun h11=> ?_)
      ·try simp at h11
       refine jq [4] ?_
       refine Q4 (je0 ?_)
       (try simp at*)<;>cases x<;>cases y<;>simp_all
      ·try simp at h11
       refine Q3 (jq [4] ?_)
       refine Q4 (je0 ?_)
       (try simp at*)<;>cases x<;>cases y<;>simp_all
end Go.Proofs
namespace Go.Proofs
open Go Go.Ev
theorem Qof:Q6 Tryz.prog 17:=jcb Tryz.func17
theorem Qnq{l1 l2:List Cls}(q1:l1.length<4611686018427387904)(q2:l2.length<4611686018427387904)(hb1: ∀y∈l1,Qq1 y)(hb2: ∀y∈l2,Qq1 y):Ct Tryz.prog 17 [.lst false 6 (l1.map eC),.lst false 6 (l2.map eC)] [] (.bool (decide (l1=l2))) []:=by
 refine jbS Tryz.func17 27 fun X hX=> ?_
 refine jq [0,1] ?_
 refine Q5 (jq [0,1,10] ?_)
 refine jd (fun h1=> ?_) (fun h1=> ?_)
 ·try simp at h1
  replace h1: ¬l1.length=l2.length:=by omega
  refine jq [4] ?_
  refine Q4 (je0 ?_)
  have: ¬l1=l2:=fun e=>h1 (by rw[e])
  simp[this]
 ·try simp at h1
  replace h1:l1.length=l2.length:=by omega
  refine Q3 (Q5 (jq [0,1,5] ?_))
  refine Q9 (Qo (α:=Nat) [0,1,5] (fun i=>[(5,.int .i64 i)]) (fun i=>[]) (fun i=>i≤l1.length∧(l1.drop i=l2.drop i↔l1=l2)) (fun i=>l1.length-i) (0) (fun i=>by simp;rfl) Z3 ?_ ?_)
  ·simp
  rintro i ⟨hi,hI⟩
  refine Q5 (jq [0,1,5,14] ?_)
  refine jd (fun h4=> ?_) (fun h4=> ?_)
  ·try simp at h4
   have h4b:i<l1.length:=by omega
   have h4c:i<l2.length:=by omega
   rw[List.drop_eq_getElem_cons h4b,List.drop_eq_getElem_cons h4c,List.cons.injEq] at hI
   refine Q3 (Q5 (Q9 (jD [0,1,5,26] (jS 8 (by simp[h4,h4b,h4c];rfl) (jC (c:=by apply Qpn<;>first|assumption|omega|exact hb1 _ (List.getElem_mem _)|exact hb2 _ (List.getElem_mem _)) (a:=Qpy) (k:=(jQ Z8)))) ?_)))
   refine jd (fun h6=> ?_) (fun h6=> ?_)
   ·try simp at h6
    refine jq [4] ?_
    refine Q4 (je (by simp[h4,h4b,h4c];rfl) ?_)
    simp_all
   ·try simp at h6
    refine Q3 (Qd (jh hX Z6) ?_)
    refine Qp (i+1) [0,1,5] (by simp[h4,h4b,h4c];try (simp (disch:=omega) only[Q7])) ?_ ?_
    ·exact ⟨by omega,by simp_all⟩
    ·omega
  ·try simp at h4
   refine Qr (jq [4] ?_)
   refine Q4 (je (by simp[h4];rfl) ?_)
   have:l1.drop i=[]:=List.drop_eq_nil_of_le Za
   have e2:l2.drop i=[]:=List.drop_eq_nil_of_le Za
   simp_all
end Go.Proofs
namespace Go.Proofs
open Go Go.Ev
theorem Q2f:Q6 Tryz.prog 62:=jcb Tryz.func62
theorem Q2d{k:Nat}(hk:k<4611686018427387904):Ct Tryz.prog 62 [.int .i64 k] [] (.str (Q6v k)) []:=by
 refine jbS Tryz.func62 20 fun X hX=> ?_
 refine jq [0] ?_
 refine Q5 (jq [0,5] ?_)
 refine jd (fun h1=> ?_) (fun h1=> ?_)
 ·try simp at h1
  refine Q0 [2] (jh hX Zx) ?_
  refine Q4 (je Zx ?_)
  simp[Q6v];omega
 ·try simp at h1
  refine Q3 (Q0 [0,3] (jh hX Zx) ?_)
  refine Q5 (Q9 (Qo (α:=Nat×Str) [0,3] (fun p=>[(0,.int .i64 p.1),(3,.str p.2)]) (fun p=>[]) (fun p=>p.1≤k∧Quz p.1 p.2=Quz k []∧p.2.length+p.1≤k) (fun p=>p.1) ((k,[])) (fun p=>by simp;rfl) Z3 ?_ ?_))
  ·simp
  rintro ⟨j,o⟩ ⟨hj,hI,hl⟩
  simp only at hj hI hl
  have hb0:o.length<9223372036854775806:=by omega
  have hb1:1+o.length<9223372036854775807:=by omega
  have hb2:=Q129 j
  refine Q5 (Q0 [0,3,7] (jh hX (by simp[h1,hb1,hb2,hb0];rfl)) ?_)
  refine jd (fun h4=> ?_) (fun h4=> ?_)
  ·try simp at h4
   refine Q3 (Q9 (Q0 [0,3] (jh hX (by simp[h1,hb1,hb2,hb0,h4];(try (simp (disch:=omega) only[Q7];(try simp[h1,hb1,hb2,hb0,h4])));rfl)) ?_))
   refine Qd (jh hX (by simp[h1,hb1,hb2,hb0,h4];rfl)) ?_
   refine Q13 ((j/10,UInt8.ofNat (48+j%10)::o)) [0,3] 0 (by simp[hX]) Z3 (by simp[h1,hb1,hb2,hb0,h4];try (simp (disch:=omega) only[Q7])) ?_ ?_
   ·exact ⟨by simp only;omega,by rw[←hI,Q13l h4],by simp only[List.length_cons];omega⟩
   ·simp only;omega
  ·try simp at h4
   refine Qr (Q0 [2] (jh hX (by simp[h1,hb1,hb2,hb0,h4];(try (simp (disch:=omega) only[Q7];(try simp[h1,hb1,hb2,hb0,h4])));rfl)) ?_)
   refine Q4 (je (by simp[h1,hb1,hb2,hb0,h4];rfl) ?_)
   obtain rfl:j=0:=by omega
   rw[Q105] at hI
   simp[Q6v,h1,←hI]
end Go.Proofs
namespace Go.Proofs
open Go Go.Ev
theorem Qkq:Q6 Tryz.prog 63:=jcb Tryz.func63
theorem Qk7{l:List Fld}{k:Nat}(hl:l.length≤1099511627776)(hk:k≤1099511627776):Ct Tryz.prog 63 [.arr 0 0 l.length,.int .i64 k] [some (3,l.map eF)] (.int .i64 ((k+3*l.length:Nat):Int)) [some (3,(mks mkF 3 k l.length).map eF)]:=by
 refine jbS Tryz.func63 38 fun X hX=> ?_
 refine jq [0,1] ?_
 refine Q5 (jq [0,1,5] ?_)
 refine Q9 (Qo (α:=Nat×Nat) [0,1,5] (fun p=>[(1,.int .i64 (p.2:Nat)),(5,.int .i64 (p.1:Nat))]) (fun p=>[(0,some (3,(mks mkF 3 k p.1).map eF++(l.map eF).drop p.1))]) (fun p=>p.1≤l.length∧p.2=k+3*p.1) (fun p=>l.length-p.1) ((0,k)) (fun p=>by simp;rfl) (by simp[mks]) ?_ ?_)
 ·simp
 rintro ⟨i,q⟩ ⟨hi,hq⟩
 simp only at hi hq
 obtain ⟨q1,e1⟩: ∃x,x=q+1:=⟨_,rfl⟩
 have w1:IntKind.i64.wrap ((q:Int)+1)=(q1:Int):=by rw[Q7 Za Za];omega
 obtain ⟨q2,e2⟩: ∃x,x=q1+1:=⟨_,rfl⟩
 have w2:IntKind.i64.wrap ((q1:Int)+1)=(q2:Int):=by rw[Q7 Za Za];omega
 obtain ⟨q3,e3⟩: ∃x,x=q2+1:=⟨_,rfl⟩
 have w3:IntKind.i64.wrap ((q2:Int)+1)=(q3:Int):=by rw[Q7 Za Za];omega
 have v2:=mod3 q2
 refine Q5 (Q0 [0,1,5,9] (jh hX (by simp[w1,w2,w3,v2];rfl)) ?_)
 refine jd (fun h2=> ?_) (fun h2=> ?_)
 ·try simp at h2
  rw[List.drop_eq_getElem_cons (show i<(l.map eF).length by simpa using h2),List.getElem_map]
  generalize hZ:(l.map eF).drop (i+1)=Z
  obtain ⟨Y,hY⟩: ∃Y,Y=(mks mkF 3 k i).map eF:=⟨_,rfl⟩
  rw[←hY]
  have hYl:Y.length=i:=by simp[hY,Q2z]
  have m1:=fun x=>Qxp hYl x Z
  have m2:=fun x y=>Qxo hYl x y Z
  have hnext:(mks mkF 3 k (i+1)).map eF++(l.map eF).drop (i+1)=Y++ .agg [.str (Q6v q),.str (Q6v q1),.bool (decide (q2%3=0))]::Z:=by
   rw[Qgy,←hq,hZ,hY]
   simp[mkF,e1,e2,e3]
   try omega
  refine Q3 (Q5 (Q9 (Q0 [0,1,5] (js hX 3 (by simp[w1,w2,w3,v2,h2,m1,m2,hYl];rfl) (jc [] (c:=(by apply Q2d<;>first|omega|assumption)) (a:=Q2f) (k:=(jh hX (by simp[w1,w2,w3,v2,h2,m1,m2,hYl];rfl))))) ?_)))
  refine Q0 [0,1,5] (jh hX (by simp[w1,w2,w3,v2,h2,m1,m2,hYl];(try (simp (disch:=omega) only[Q7];(try simp[w1,w2,w3,v2,h2,m1,m2,hYl])));rfl)) ?_
  refine Q0 [0,1,5] (js hX 3 (by simp[w1,w2,w3,v2,h2,m1,m2,hYl];rfl) (jc [] (c:=(by apply Q2d<;>first|omega|assumption)) (a:=Q2f) (k:=(jh hX (by simp[w1,w2,w3,v2,h2,m1,m2,hYl];rfl))))) ?_
  refine Q0 [0,1,5] (jh hX (by simp[w1,w2,w3,v2,h2,m1,m2,hYl];(try (simp (disch:=omega) only[Q7];(try simp[w1,w2,w3,v2,h2,m1,m2,hYl])));rfl)) ?_
  refine Q0 [0,1,5] (jh hX (by simp[w1,w2,w3,v2,h2,m1,m2,hYl];rfl)) ?_
  refine Qd (jh hX (by simp[w1,w2,w3,v2,h2,m1,m2,hYl];(try (simp (disch:=omega) only[Q7];(try simp[w1,w2,w3,v2,h2,m1,m2,hYl])));rfl)) ?_
  refine Qd (jh hX (by simp[w1,w2,w3,v2,h2,m1,m2,hYl];(try (simp (disch:=omega) only[Q7];(try simp[w1,w2,w3,v2,h2,m1,m2,hYl])));rfl)) ?_
  refine Qp ((i+1,q3)) [0,1,5] (by simp[hnext,w1,w2,w3];try (simp (disch:=omega) only[Q7]);try omega) ?_ ?_
  ·exact ⟨by simp only;omega,by simp only;omega⟩
  ·simp only;omega
 ·try simp at h2
  have hil:i=l.length:=by omega
  subst hil
  rw[List.drop_eq_nil_of_le Z3,List.append_nil]
  refine Qr (Q0 [4] (jh hX (by simp[w1,w2,w3,v2,h2];rfl)) ?_)
  refine Q4 (Qq (by simp[w1,w2,w3,v2,h2];rfl) Z17 (.of_eq ?_) ?_)
  all_goals clear hX
  ·skip
   simp;omega
  ·skip
   simp
end Go.Proofs
namespace Go.Proofs
open Go Go.Ev
theorem Qoc:Q6 Tryz.prog 121:=jcb Tryz.func121
theorem Qnn{l:List Ins}{k:Nat}(hl:l.length≤1099511627776)(hk:k≤1099511627776):Ct Tryz.prog 121 [.arr 0 0 l.length,.int .i64 k] [some (5,l.map eI)] (.int .i64 ((k+5*l.length:Nat):Int)) [some (5,(mks mkI 5 k l.length).map eI)]:=by
 refine jbS Tryz.func121 51 fun X hX=> ?_
 refine jq [0,1] ?_
 refine Q5 (jq [0,1,5] ?_)
 refine Q9 (Qo (α:=Nat×Nat) [0,1,5] (fun p=>[(1,.int .i64 (p.2:Nat)),(5,.int .i64 (p.1:Nat))]) (fun p=>[(0,some (5,(mks mkI 5 k p.1).map eI++(l.map eI).drop p.1))]) (fun p=>p.1≤l.length∧p.2=k+5*p.1) (fun p=>l.length-p.1) ((0,k)) (fun p=>by simp;rfl) (by simp[mks]) ?_ ?_)
 ·simp
 rintro ⟨i,q⟩ ⟨hi,hq⟩
 simp only at hi hq
 obtain ⟨q1,e1⟩: ∃x,x=q+1:=⟨_,rfl⟩
 have w1:IntKind.i64.wrap ((q:Int)+1)=(q1:Int):=by rw[Q7 Za Za];omega
 obtain ⟨q2,e2⟩: ∃x,x=q1+1:=⟨_,rfl⟩
 have w2:IntKind.i64.wrap ((q1:Int)+1)=(q2:Int):=by rw[Q7 Za Za];omega
 obtain ⟨q3,e3⟩: ∃x,x=q2+1:=⟨_,rfl⟩
 have w3:IntKind.i64.wrap ((q2:Int)+1)=(q3:Int):=by rw[Q7 Za Za];omega
 obtain ⟨q4,e4⟩: ∃x,x=q3+1:=⟨_,rfl⟩
 have w4:IntKind.i64.wrap ((q3:Int)+1)=(q4:Int):=by rw[Q7 Za Za];omega
 obtain ⟨q5,e5⟩: ∃x,x=q4+1:=⟨_,rfl⟩
 have w5:IntKind.i64.wrap ((q4:Int)+1)=(q5:Int):=by rw[Q7 Za Za];omega
 refine Q5 (Q0 [0,1,5,9] (jh hX (by simp[w1,w2,w3,w4,w5];rfl)) ?_)
 refine jd (fun h2=> ?_) (fun h2=> ?_)
 ·try simp at h2
  rw[List.drop_eq_getElem_cons (show i<(l.map eI).length by simpa using h2),List.getElem_map]
  generalize hZ:(l.map eI).drop (i+1)=Z
  obtain ⟨Y,hY⟩: ∃Y,Y=(mks mkI 5 k i).map eI:=⟨_,rfl⟩
  rw[←hY]
  have hYl:Y.length=i:=by simp[hY,Q2z]
  have m1:=fun x=>Qxp hYl x Z
  have m2:=fun x y=>Qxo hYl x y Z
  have hnext:(mks mkI 5 k (i+1)).map eI++(l.map eI).drop (i+1)=Y++ .agg [.int .i64 (q:Nat),.int .i64 (q1:Nat),.str (Q6v q2),.str (Q6v q3),.str (Q6v q4)]::Z:=by
   rw[Qgy,←hq,hZ,hY]
   simp[mkI,e1,e2,e3,e4,e5]
   try omega
  refine Q3 (Q5 (Q9 (Q0 [0,1,5] (jh hX (by simp[w1,w2,w3,w4,w5,h2,m1,m2,hYl];rfl)) ?_)))
  refine Q0 [0,1,5] (jh hX Z1u) ?_
  refine Q0 [0,1,5] (jh hX (by simp[w1,w2,w3,w4,w5,h2,m1,m2,hYl];rfl)) ?_
  refine Q0 [0,1,5] (jh hX Z1u) ?_
  refine Q0 [0,1,5] (js hX 3 (by simp[w1,w2,w3,w4,w5,h2,m1,m2,hYl];rfl) (jc [] (c:=(by apply Q2d<;>first|omega|assumption)) (a:=Q2f) (k:=(jh hX (by simp[w1,w2,w3,w4,w5,h2,m1,m2,hYl];rfl))))) ?_
  refine Q0 [0,1,5] (jh hX Z1u) ?_
  refine Q0 [0,1,5] (js hX 3 (by simp[w1,w2,w3,w4,w5,h2,m1,m2,hYl];rfl) (jc [] (c:=(by apply Q2d<;>first|omega|assumption)) (a:=Q2f) (k:=(jh hX (by simp[w1,w2,w3,w4,w5,h2,m1,m2,hYl];rfl))))) ?_
  refine Q0 [0,1,5] (jh hX Z1u) ?_
  refine Q0 [0,1,5] (js hX 3 (by simp[w1,w2,w3,w4,w5,h2,m1,m2,hYl];rfl) (jc [] (c:=(by apply Q2d<;>first|omega|assumption)) (a:=Q2f) (k:=(jh hX (by simp[w1,w2,w3,w4,w5,h2,m1,m2,hYl];rfl))))) ?_
  refine Qd (jh hX Z1u) ?_
  refine Qd (jh hX Z1u) ?_
  refine Qp ((i+1,q5)) [0,1,5] (by simp[hnext,w1,w2,w3,w4,w5];try (simp (disch:=omega) only[Q7]);try omega) ?_ ?_
  ·exact ⟨by simp only;omega,by simp only;omega⟩
  ·simp only;omega
 ·try simp at h2
  have hil:i=l.length:=by omega
  subst hil
  rw[List.drop_eq_nil_of_le Z3,List.append_nil]
  refine Qr (Q0 [4] (jh hX (by simp[w1,w2,w3,w4,w5,h2];rfl)) ?_)
  refine Q4 (Qq (by simp[w1,w2,w3,w4,w5,h2];rfl) Z17 (.of_eq ?_) ?_)
  all_goals clear hX
  ·skip
   simp;omega
  ·skip
   simp
end Go.Proofs
namespace Go.Proofs
open Go Go.Ev
theorem Qht:Q6 Tryz.prog 122:=jcb Tryz.func122
theorem Qhd{l:List Hdl}{k:Nat}(hl:l.length≤1099511627776)(hk:k≤1099511627776):Ct Tryz.prog 122 [.arr 0 0 l.length,.int .i64 k] [some (4,l.map eH)] (.int .i64 ((k+4*l.length:Nat):Int)) [some (4,(mks mkH 4 k l.length).map eH)]:=by
 refine jbS Tryz.func122 42 fun X hX=> ?_
 refine jq [0,1] ?_
 refine Q5 (jq [0,1,5] ?_)
 refine Q9 (Qo (α:=Nat×Nat) [0,1,5] (fun p=>[(1,.int .i64 (p.2:Nat)),(5,.int .i64 (p.1:Nat))]) (fun p=>[(0,some (4,(mks mkH 4 k p.1).map eH++(l.map eH).drop p.1))]) (fun p=>p.1≤l.length∧p.2=k+4*p.1) (fun p=>l.length-p.1) ((0,k)) (fun p=>by simp;rfl) (by simp[mks]) ?_ ?_)
 ·simp
 rintro ⟨i,q⟩ ⟨hi,hq⟩
 simp only at hi hq
 obtain ⟨q1,e1⟩: ∃x,x=q+1:=⟨_,rfl⟩
 have w1:IntKind.i64.wrap ((q:Int)+1)=(q1:Int):=by rw[Q7 Za Za];omega
 obtain ⟨q2,e2⟩: ∃x,x=q1+1:=⟨_,rfl⟩
 have w2:IntKind.i64.wrap ((q1:Int)+1)=(q2:Int):=by rw[Q7 Za Za];omega
 obtain ⟨q3,e3⟩: ∃x,x=q2+1:=⟨_,rfl⟩
 have w3:IntKind.i64.wrap ((q2:Int)+1)=(q3:Int):=by rw[Q7 Za Za];omega
 obtain ⟨q4,e4⟩: ∃x,x=q3+1:=⟨_,rfl⟩
 have w4:IntKind.i64.wrap ((q3:Int)+1)=(q4:Int):=by rw[Q7 Za Za];omega
 refine Q5 (Q0 [0,1,5,9] (jh hX (by simp[w1,w2,w3,w4];rfl)) ?_)
 refine jd (fun h2=> ?_) (fun h2=> ?_)
 ·try simp at h2
  rw[List.drop_eq_getElem_cons (show i<(l.map eH).length by simpa using h2),List.getElem_map]
  generalize hZ:(l.map eH).drop (i+1)=Z
  obtain ⟨Y,hY⟩: ∃Y,Y=(mks mkH 4 k i).map eH:=⟨_,rfl⟩
  rw[←hY]
  have hYl:Y.length=i:=by simp[hY,Q2z]
  have m1:=fun x=>Qxp hYl x Z
  have m2:=fun x y=>Qxo hYl x y Z
  have hnext:(mks mkH 4 k (i+1)).map eH++(l.map eH).drop (i+1)=Y++ .agg [.int .i64 (q:Nat),.int .i64 (q1:Nat),.int .i64 (q2:Nat),.str (Q6v q3)]::Z:=by
   rw[Qgy,←hq,hZ,hY]
   simp[mkH,e1,e2,e3,e4]
   try omega
  refine Q3 (Q5 (Q9 (Q0 [0,1,5] (jh hX (by simp[w1,w2,w3,w4,h2,m1,m2,hYl];rfl)) ?_)))
  refine Q0 [0,1,5] (jh hX Z2c) ?_
  refine Q0 [0,1,5] (jh hX (by simp[w1,w2,w3,w4,h2,m1,m2,hYl];rfl)) ?_
  refine Q0 [0,1,5] (jh hX Z2c) ?_
  refine Q0 [0,1,5] (jh hX (by simp[w1,w2,w3,w4,h2,m1,m2,hYl];rfl)) ?_
  refine Q0 [0,1,5] (jh hX Z2c) ?_
  refine Q0 [0,1,5] (js hX 3 (by simp[w1,w2,w3,w4,h2,m1,m2,hYl];rfl) (jc [] (c:=(by apply Q2d<;>first|omega|assumption)) (a:=Q2f) (k:=(jh hX (by simp[w1,w2,w3,w4,h2,m1,m2,hYl];rfl))))) ?_
  refine Qd (jh hX Z2c) ?_
  refine Qd (jh hX Z2c) ?_
  refine Qp ((i+1,q4)) [0,1,5] (by simp[hnext,w1,w2,w3,w4];try (simp (disch:=omega) only[Q7]);try omega) ?_ ?_
  ·exact ⟨by simp only;omega,by simp only;omega⟩
  ·simp only;omega
 ·try simp at h2
  have hil:i=l.length:=by omega
  subst hil
  rw[List.drop_eq_nil_of_le Z3,List.append_nil]
  refine Qr (Q0 [4] (jh hX (by simp[w1,w2,w3,w4,h2];rfl)) ?_)
  refine Q4 (Qq (by simp[w1,w2,w3,w4,h2];rfl) Z17 (.of_eq ?_) ?_)
  all_goals clear hX
  ·skip
   simp;omega
  ·skip
   simp
end Go.Proofs
namespace Go.Proofs
open Go Go.Ev
theorem Qj9:Q6 Tryz.prog 64:=jcb Tryz.func64
theorem Qiz{l:List Mth}{k:Nat}(hk:k+Q70 l≤1073741824):Ct Tryz.prog 64 [.arr 0 0 l.length,.int .i64 k] [some (9,l.map oM)] (.int .i64 ((k+Q70 l:Nat):Int)) [some (9,(Qiv k l).map oM)]:=by
 have hl:l.length≤1073741824:=by have:=Qu7 l;omega
 refine jbS Tryz.func64 84 fun X hX=> ?_
 refine jq [0,1] ?_
 refine Q5 (jq [0,1,5] ?_)
 refine Q9 (Qo (α:=Nat×Nat) [0,1,5] (fun p=>[(1,.int .i64 (p.2:Nat)),(5,.int .i64 (p.1:Nat))]) (fun p=>[(0,some (9,(Qiv k (l.take p.1)).map oM++(l.map oM).drop p.1))]) (fun p=>p.1≤l.length∧p.2=k+Q70 (l.take p.1)) (fun p=>l.length-p.1) ((0,k)) (fun p=>by simp;rfl) (by simp[Qiv]) ?_ ?_)
 ·simp[Q70]
 rintro ⟨i,q⟩ ⟨hi,hq⟩
 simp only at hi hq
 have hqB:q≤1073741824:=by have:=Qkg l i;omega
 obtain ⟨q1,e1⟩: ∃x,x=q+1:=⟨_,rfl⟩
 have w1:IntKind.i64.wrap ((q:Int)+1)=(q1:Int):=by rw[Q7 Za Za];omega
 obtain ⟨q2,e2⟩: ∃x,x=q1+1:=⟨_,rfl⟩
 have w2:IntKind.i64.wrap ((q1:Int)+1)=(q2:Int):=by rw[Q7 Za Za];omega
 obtain ⟨q3,e3⟩: ∃x,x=q2+1:=⟨_,rfl⟩
 have w3:IntKind.i64.wrap ((q2:Int)+1)=(q3:Int):=by rw[Q7 Za Za];omega
 obtain ⟨q4,e4⟩: ∃x,x=q3+1:=⟨_,rfl⟩
 have w4:IntKind.i64.wrap ((q3:Int)+1)=(q4:Int):=by rw[Q7 Za Za];omega
 obtain ⟨q5,e5⟩: ∃x,x=q4+1:=⟨_,rfl⟩
 have w5:IntKind.i64.wrap ((q4:Int)+1)=(q5:Int):=by rw[Q7 Za Za];omega
 obtain ⟨q6,e6⟩: ∃x,x=q5+1:=⟨_,rfl⟩
 have w6:IntKind.i64.wrap ((q5:Int)+1)=(q6:Int):=by rw[Q7 Za Za];omega
 obtain ⟨q7,e7⟩: ∃x,x=q6+1:=⟨_,rfl⟩
 have w7:IntKind.i64.wrap ((q6:Int)+1)=(q7:Int):=by rw[Q7 Za Za];omega
 have v2:=mod3 q2
 have v3:=mod3 q3
 have v4:=mod3 q4
 refine Q5 (Q0 [0,1,5,9] (jh hX (by simp[w1,w2,w3,w4,w5,w6,w7,v2,v3,v4];rfl)) ?_)
 refine jd (fun h2=> ?_) (fun h2=> ?_)
 ·try simp at h2
  have hB:=Q12b l i h2
  simp only[Qvd] at hB
  rw[List.drop_eq_getElem_cons (show i<(l.map oM).length by simpa using h2),List.getElem_map]
  obtain ⟨Z,hZ⟩: ∃Z,Z=(l.map oM).drop (i+1):=⟨_,rfl⟩
  rw[←hZ]
  obtain ⟨Y,hY⟩: ∃Y,Y=(Qiv k (l.take i)).map oM:=⟨_,rfl⟩
  rw[←hY]
  have hYl:Y.length=i:=by rw[hY,List.length_map,Q8b,List.length_take];omega
  have hYZ: ∀x,i<(Y++x::Z).length:=fun x=>by simp[hYl]
  have m1:=fun x=>Qxp hYl x Z
  have m2:=fun x y=>Qxo hYl x y Z
  have m3:=fun p x=>Qxn (p:=p) (x:=x) (Y:=Y) (Z:=Z) (by rw[hY];simp) (by rw[hZ,←List.map_drop];exact Q16m p _)
  have hnext:(Qiv k (l.take (i+1))).map oM++(l.map oM).drop (i+1)=Y++ .agg [.str (Q6v q),.str (Q6v q1),.bool (decide (q2%3=0)),.bool (decide (q3%3=0)),.bool (decide (q4%3=0)),.int .i64 (q5:Nat),.int .i64 (q6:Nat),.lst true 5 ((mks mkI 5 q7 l[i].code.length).map eI),.lst true 4 ((mks mkH 4 (q7+5*l[i].code.length) l[i].hdls.length).map eH)]::Z:=by
   rw[Qtp h2,←hq,←hZ,hY]
   simp only[List.map_append,List.map_cons,List.map_nil,List.append_assoc,List.singleton_append,oM,mkM]
   simp[e1,e2,e3,e4,e5,e6,e7]
   try omega
  refine Q21 (Le.expose 0 i 7 (by simp[St.expose,m1,m2,hYl];rfl)) ?_
  refine Q21 (Le.expose 0 i 8 (by simp[St.expose,m1,m2,hYl];rfl)) ?_
  refine Q3 (Q5 (Q9 (Q0 [0,1,5] (js hX 3 Z1l (jc [] (c:=(by apply Q2d<;>first|omega|assumption|(simp;omega))) (a:=Q2f) (k:=(jh hX Z1l)))) ?_)))
  refine Q0 [0,1,5] (jh hX Z12) ?_
  refine Q0 [0,1,5] (js hX 3 Z1l (jc [] (c:=(by apply Q2d<;>first|omega|assumption|(simp;omega))) (a:=Q2f) (k:=(jh hX Z1l)))) ?_
  refine Q0 [0,1,5] (jh hX Z12) ?_
  refine Q0 [0,1,5] (jh hX Z1l) ?_
  refine Q0 [0,1,5] (jh hX Z12) ?_
  refine Q0 [0,1,5] (jh hX Z1l) ?_
  refine Q0 [0,1,5] (jh hX Z12) ?_
  refine Q0 [0,1,5] (jh hX Z1l) ?_
  refine Q0 [0,1,5] (jh hX Z12) ?_
  refine Q0 [0,1,5] (jh hX Z1l) ?_
  refine Q0 [0,1,5] (jh hX Z12) ?_
  refine Q0 [0,1,5] (jh hX Z1l) ?_
  refine Q0 [0,1,5] (jh hX Z12) ?_
  refine Q0 [0,1,5] (js hX 6 Z1l (jc [1] (c:=(by (try simp only[mapL_T,mapL_F,mapL_I,mapL_H,mapL_M,mapL_C]);apply Qnn<;>first|omega|assumption|(simp;omega))) (a:=Qoc) (k:=(jh hX Z1l)))) ?_
  refine Qd (js hX 6 Z1l (jc [2] (c:=(by (try simp only[mapL_T,mapL_F,mapL_I,mapL_H,mapL_M,mapL_C]);apply Qhd<;>first|omega|assumption|(simp;omega))) (a:=Qht) (k:=(jh hX Z1l)))) ?_
  refine Qd (jh hX Z12) ?_
  refine ⟨(i+1,(q7+5*l[i].code.length)+4*l[i].hdls.length),Le.trans (Le.keep [0,1,5] _) (Le.trans (Le.absorb 0 i 7 (by simp[m1,m2,m3,hYl,hYZ,Q2z,Q8b,Qbs,Qa0];rfl)) (Le.trans (Le.absorb 0 i 8 (by simp[m1,m2,m3,hYl,hYZ,Q2z,Q8b,Qbs,Qa0];rfl)) (Le.trans (Le.trim 1 (by simp[hX]) _ Z3) (Le.of_eq (by simp[hnext,m1,m2,m3,hYl,hYZ,Q2z,Q8b,Qbs,Qa0,V.jk,jkL,w1,w2,w3,w4,w5,w6,w7];try omega))))),?_,?_⟩
  ·exact ⟨by simp only;omega,by simp only;rw[Qkh h2];simp only[Qvd];omega⟩
  ·simp only;omega
 ·try simp at h2
  have hil:i=l.length:=by omega
  subst hil
  rw[List.drop_eq_nil_of_le Z3,List.append_nil,List.take_of_length_le (Nat.le_refl _)]
  rw[List.take_of_length_le (Nat.le_refl _)] at hq
  refine Qr (Q0 [4] (jh hX (by simp[w1,w2,w3,w4,w5,w6,w7,v2,v3,v4,h2];rfl)) ?_)
  refine Q4 (Qq (by simp[w1,w2,w3,w4,w5,w6,w7,v2,v3,v4,h2];rfl) Z17 (.of_eq ?_) ?_)
  all_goals clear hX
  ·skip
   simp;omega
  ·skip
   simp
end Go.Proofs
namespace Go.Proofs
open Go Go.Ev
theorem Qkr:Q6 Tryz.prog 19:=jcb Tryz.func19
theorem Qk8{l:List Cls}{k:Nat}(hk:k+Q6m l≤1073741824):Ct Tryz.prog 19 [.arr 0 0 l.length,.int .i64 k] [some (6,l.map oC)] (.int .i64 ((k+Q6m l:Nat):Int)) [some (6,(Qpb k l).map oC)]:=by
 have hl:l.length≤1073741824:=by have:=Qu8 l;omega
 refine jbS Tryz.func19 61 fun X hX=> ?_
 refine jq [0,1] ?_
 refine Q5 (jq [0,1,5] ?_)
 refine Q9 (Qo (α:=Nat×Nat) [0,1,5] (fun p=>[(1,.int .i64 (p.2:Nat)),(5,.int .i64 (p.1:Nat))]) (fun p=>[(0,some (6,(Qpb k (l.take p.1)).map oC++(l.map oC).drop p.1))]) (fun p=>p.1≤l.length∧p.2=k+Q6m (l.take p.1)) (fun p=>l.length-p.1) ((0,k)) (fun p=>by simp;rfl) (by simp[Qpb]) ?_ ?_)
 ·simp[Q6m]
 rintro ⟨i,q⟩ ⟨hi,hq⟩
 simp only at hi hq
 have hqB:q≤1073741824:=by have:=Qki l i;omega
 obtain ⟨q1,e1⟩: ∃x,x=q+1:=⟨_,rfl⟩
 have w1:IntKind.i64.wrap ((q:Int)+1)=(q1:Int):=by rw[Q7 Za Za];omega
 obtain ⟨q2,e2⟩: ∃x,x=q1+1:=⟨_,rfl⟩
 have w2:IntKind.i64.wrap ((q1:Int)+1)=(q2:Int):=by rw[Q7 Za Za];omega
 obtain ⟨q3,e3⟩: ∃x,x=q2+1:=⟨_,rfl⟩
 have w3:IntKind.i64.wrap ((q2:Int)+1)=(q3:Int):=by rw[Q7 Za Za];omega
 obtain ⟨q4,e4⟩: ∃x,x=q3+1:=⟨_,rfl⟩
 have w4:IntKind.i64.wrap ((q3:Int)+1)=(q4:Int):=by rw[Q7 Za Za];omega
 have v2:=mod3 q2
 have v3:=mod3 q3
 refine Q5 (Q0 [0,1,5,9] (jh hX (by simp[w1,w2,w3,w4,v2,v3];rfl)) ?_)
 refine jd (fun h2=> ?_) (fun h2=> ?_)
 ·try simp at h2
  have hB:=Q12c l i h2
  simp only[Qve] at hB
  rw[List.drop_eq_getElem_cons (show i<(l.map oC).length by simpa using h2),List.getElem_map]
  obtain ⟨Z,hZ⟩: ∃Z,Z=(l.map oC).drop (i+1):=⟨_,rfl⟩
  rw[←hZ]
  obtain ⟨Y,hY⟩: ∃Y,Y=(Qpb k (l.take i)).map oC:=⟨_,rfl⟩
  rw[←hY]
  have hYl:Y.length=i:=by rw[hY,List.length_map,Qwe,List.length_take];omega
  have hYZ: ∀x,i<(Y++x::Z).length:=fun x=>by simp[hYl]
  have m1:=fun x=>Qxp hYl x Z
  have m2:=fun x y=>Qxo hYl x y Z
  have m3:=fun p x=>Qxn (p:=p) (x:=x) (Y:=Y) (Z:=Z) (by rw[hY];simp) (by rw[hZ,←List.map_drop];exact Q16n p _)
  have hnext:(Qpb k (l.take (i+1))).map oC++(l.map oC).drop (i+1)=Y++ .agg [.str (Q6v q),.str (Q6v q1),.bool (decide (q2%3=0)),.bool (decide (q3%3=0)),.lst true 3 ((mks mkF 3 q4 l[i].fields.length).map eF),.lst true 9 ((Qiv (q4+3*l[i].fields.length) l[i].methods).map oM)]::Z:=by
   rw[Qtq h2,←hq,←hZ,hY]
   simp only[List.map_append,List.map_cons,List.map_nil,List.append_assoc,List.singleton_append,oC,mkC]
   simp[e1,e2,e3,e4]
   try omega
  refine Q21 (Le.expose 0 i 4 (by simp[St.expose,m1,m2,hYl];rfl)) ?_
  refine Q21 (Le.expose 0 i 5 (by simp[St.expose,m1,m2,hYl];rfl)) ?_
  refine Q3 (Q5 (Q9 (Q0 [0,1,5] (js hX 3 (by simp[w1,w2,w3,w4,v2,v3,h2,m1,m2,hYl,hYZ];rfl) (jc [] (c:=(by apply Q2d<;>first|omega|assumption|(simp;omega))) (a:=Q2f) (k:=(jh hX (by simp[w1,w2,w3,w4,v2,v3,h2,m1,m2,hYl,hYZ];rfl))))) ?_)))
  refine Q0 [0,1,5] (jh hX Z1z) ?_
  refine Q0 [0,1,5] (js hX 3 (by simp[w1,w2,w3,w4,v2,v3,h2,m1,m2,hYl,hYZ];rfl) (jc [] (c:=(by apply Q2d<;>first|omega|assumption|(simp;omega))) (a:=Q2f) (k:=(jh hX (by simp[w1,w2,w3,w4,v2,v3,h2,m1,m2,hYl,hYZ];rfl))))) ?_
  refine Q0 [0,1,5] (jh hX Z1z) ?_
  refine Q0 [0,1,5] (jh hX (by simp[w1,w2,w3,w4,v2,v3,h2,m1,m2,hYl,hYZ];rfl)) ?_
  refine Q0 [0,1,5] (jh hX Z1z) ?_
  refine Q0 [0,1,5] (jh hX (by simp[w1,w2,w3,w4,v2,v3,h2,m1,m2,hYl,hYZ];rfl)) ?_
  refine Q0 [0,1,5] (jh hX Z1z) ?_
  refine Q0 [0,1,5] (js hX 6 (by simp[w1,w2,w3,w4,v2,v3,h2,m1,m2,hYl,hYZ];rfl) (jc [1] (c:=(by (try simp only[mapL_T,mapL_F,mapL_I,mapL_H,mapL_M,mapL_C]);apply Qk7<;>first|omega|assumption|(simp;omega))) (a:=Qkq) (k:=(jh hX (by simp[w1,w2,w3,w4,v2,v3,h2,m1,m2,hYl,hYZ];rfl))))) ?_
  refine Qd (js hX 6 (by simp[w1,w2,w3,w4,v2,v3,h2,m1,m2,hYl,hYZ];rfl) (jc [2] (c:=(by (try simp only[mapL_T,mapL_F,mapL_I,mapL_H,mapL_M,mapL_C]);apply Qiz<;>first|omega|assumption|(simp;omega))) (a:=Qj9) (k:=(jh hX (by simp[w1,w2,w3,w4,v2,v3,h2,m1,m2,hYl,hYZ];rfl))))) ?_
  refine Qd (jh hX Z1z) ?_
  refine ⟨(i+1,(q4+3*l[i].fields.length)+Q70 l[i].methods),Le.trans (Le.keep [0,1,5] _) (Le.trans (Le.absorb 0 i 4 (by simp[m1,m2,m3,hYl,hYZ,Q2z,Q8b,Qbs,Qa0];rfl)) (Le.trans (Le.absorb 0 i 5 (by simp[m1,m2,m3,hYl,hYZ,Q2z,Q8b,Qbs,Qa0];rfl)) (Le.trans (Le.trim 1 (by simp[hX]) _ Z3) (Le.of_eq (by simp[hnext,m1,m2,m3,hYl,hYZ,Q2z,Q8b,Qbs,Qa0,V.jk,jkL,w1,w2,w3,w4];try omega))))),?_,?_⟩
  ·exact ⟨by simp only;omega,by simp only;rw[Qkj h2];simp only[Qve];omega⟩
  ·simp only;omega
 ·try simp at h2
  have hil:i=l.length:=by omega
  subst hil
  rw[List.drop_eq_nil_of_le Z3,List.append_nil,List.take_of_length_le (Nat.le_refl _)]
  rw[List.take_of_length_le (Nat.le_refl _)] at hq
  refine Qr (Q0 [4] (jh hX (by simp[w1,w2,w3,w4,v2,v3,h2];rfl)) ?_)
  refine Q4 (Qq (by simp[w1,w2,w3,w4,v2,v3,h2];rfl) Z17 (.of_eq ?_) ?_)
  all_goals clear hX
  ·skip
   simp;omega
  ·skip
   simp
end Go.Proofs
namespace Go.Proofs
open Go Go.Ev
theorem Qd5:Q6 Tryz.prog 65:=jcb Tryz.func65
theorem Qd0{l:List Typ}{k:Nat}(hl:l.length≤1099511627776)(hk:k≤1099511627776):Ct Tryz.prog 65 [.arr 0 0 l.length,.int .i64 k] [some (3,l.map eT)] (.int .i64 ((k+3*l.length:Nat):Int)) [some (3,(mks mkT 3 k l.length).map eT)]:=by
 refine jbS Tryz.func65 35 fun X hX=> ?_
 refine jq [0,1] ?_
 refine Q5 (jq [0,1,5] ?_)
 refine Q9 (Qo (α:=Nat×Nat) [0,1,5] (fun p=>[(1,.int .i64 (p.2:Nat)),(5,.int .i64 (p.1:Nat))]) (fun p=>[(0,some (3,(mks mkT 3 k p.1).map eT++(l.map eT).drop p.1))]) (fun p=>p.1≤l.length∧p.2=k+3*p.1) (fun p=>l.length-p.1) ((0,k)) (fun p=>by simp;rfl) (by simp[mks]) ?_ ?_)
 ·simp
 rintro ⟨i,q⟩ ⟨hi,hq⟩
 simp only at hi hq
 obtain ⟨q1,e1⟩: ∃x,x=q+1:=⟨_,rfl⟩
 have w1:IntKind.i64.wrap ((q:Int)+1)=(q1:Int):=by rw[Q7 Za Za];omega
 obtain ⟨q2,e2⟩: ∃x,x=q1+1:=⟨_,rfl⟩
 have w2:IntKind.i64.wrap ((q1:Int)+1)=(q2:Int):=by rw[Q7 Za Za];omega
 obtain ⟨q3,e3⟩: ∃x,x=q2+1:=⟨_,rfl⟩
 have w3:IntKind.i64.wrap ((q2:Int)+1)=(q3:Int):=by rw[Q7 Za Za];omega
 refine Q5 (Q0 [0,1,5,9] (jh hX (by simp[w1,w2,w3];rfl)) ?_)
 refine jd (fun h2=> ?_) (fun h2=> ?_)
 ·try simp at h2
  rw[List.drop_eq_getElem_cons (show i<(l.map eT).length by simpa using h2),List.getElem_map]
  generalize hZ:(l.map eT).drop (i+1)=Z
  obtain ⟨Y,hY⟩: ∃Y,Y=(mks mkT 3 k i).map eT:=⟨_,rfl⟩
  rw[←hY]
  have hYl:Y.length=i:=by simp[hY,Q2z]
  have m1:=fun x=>Qxp hYl x Z
  have m2:=fun x y=>Qxo hYl x y Z
  have hnext:(mks mkT 3 k (i+1)).map eT++(l.map eT).drop (i+1)=Y++ .agg [.int .i64 (q:Nat),.str (Q6v q1),.int .i64 (q2:Nat)]::Z:=by
   rw[Qgy,←hq,hZ,hY]
   simp[mkT,e1,e2,e3]
   try omega
  refine Q3 (Q5 (Q9 (Q0 [0,1,5] (jh hX (by simp[w1,w2,w3,h2,m1,m2,hYl];rfl)) ?_)))
  refine Q0 [0,1,5] (jh hX (by simp[w1,w2,w3,h2,m1,m2,hYl];(try (simp (disch:=omega) only[Q7];(try simp[w1,w2,w3,h2,m1,m2,hYl])));rfl)) ?_
  refine Q0 [0,1,5] (js hX 3 (by simp[w1,w2,w3,h2,m1,m2,hYl];rfl) (jc [] (c:=(by apply Q2d<;>first|omega|assumption)) (a:=Q2f) (k:=(jh hX (by simp[w1,w2,w3,h2,m1,m2,hYl];rfl))))) ?_
  refine Q0 [0,1,5] (jh hX (by simp[w1,w2,w3,h2,m1,m2,hYl];(try (simp (disch:=omega) only[Q7];(try simp[w1,w2,w3,h2,m1,m2,hYl])));rfl)) ?_
  refine Q0 [0,1,5] (jh hX (by simp[w1,w2,w3,h2,m1,m2,hYl];rfl)) ?_
  refine Qd (jh hX (by simp[w1,w2,w3,h2,m1,m2,hYl];(try (simp (disch:=omega) only[Q7];(try simp[w1,w2,w3,h2,m1,m2,hYl])));rfl)) ?_
  refine Qd (jh hX (by simp[w1,w2,w3,h2,m1,m2,hYl];(try (simp (disch:=omega) only[Q7];(try simp[w1,w2,w3,h2,m1,m2,hYl])));rfl)) ?_
  refine Qp ((i+1,q3)) [0,1,5] (by simp[hnext,w1,w2,w3];try (simp (disch:=omega) only[Q7]);try omega) ?_ ?_
  ·exact ⟨by simp only;omega,by simp only;omega⟩
  ·simp only;omega
 ·try simp at h2
  have hil:i=l.length:=by omega
  subst hil
  rw[List.drop_eq_nil_of_le Z3,List.append_nil]
  refine Qr (Q0 [4] (jh hX (by simp[w1,w2,w3,h2];rfl)) ?_)
  refine Q4 (Qq (by simp[w1,w2,w3,h2];rfl) Z17 (.of_eq ?_) ?_)
  all_goals clear hX
  ·skip
   simp;omega
  ·skip
   simp
end Go.Proofs
namespace Go.Proofs
open Go Go.Ev
theorem Qd6:Q6 Tryz.prog 20:=jcb Tryz.func20
theorem Qd1{s t:List Typ}{k:Nat}(hs:s.length≤1048576)(ht:t.length≤1048576)(hk:k≤1073741824):Ct Tryz.prog 20 [.agg [.arr 0 0 s.length,.arr 1 0 t.length],.int .i64 (k:Nat)] [some (3,s.map eT),some (3,t.map eT)] (.int .i64 ((k+3*s.length+3*t.length:Nat):Int)) [some (3,(mks mkT 3 k s.length).map eT),some (3,(mks mkT 3 (k+3*s.length) t.length).map eT)]:=by
 refine jbS Tryz.func20 14 fun X hX=> ?_
 refine jq [1,2] ?_
 refine Q0 [1,2] (jt 3 (k:=(jc [0] (c:=(by (try simp only[mapL_T,mapL_F,mapL_I,mapL_H,mapL_M,mapL_C]);apply Qd0<;>first|omega|(change k+3*s.length≤_;omega)|(simp;omega))) (a:=Qd5) (k:=jr)))) ?_
 refine Q0 [1] (jt 3 (k:=(jc [1] (c:=(by (try simp only[mapL_T,mapL_F,mapL_I,mapL_H,mapL_M,mapL_C]);apply Qd0<;>first|omega|(change k+3*s.length≤_;omega)|(simp;omega))) (a:=Qd5) (k:=jr)))) ?_
 refine jq [4] ?_
 refine Q4 (Qq Z8 Z17 (.of_eq ?_) ?_)
 all_goals clear hX
 ·skip
  simp
 ·skip
  simp
end Go.Proofs
namespace Go.Proofs
open Go Go.Ev
theorem Qhu:Q6 Tryz.prog 21:=jcb Tryz.func21
theorem Qhe{s t:List Typ}{k:Nat}(hs:s.length≤1048576)(ht:t.length≤1048576)(hk:k≤1073741824){c:Int}:Ct Tryz.prog 21 [.agg [.arr 0 0 s.length,.arr 1 0 t.length,.int .i64 c],.int .i64 (k:Nat)] [some (3,s.map eT),some (3,t.map eT)] (.int .i64 ((k+3*s.length+3*t.length:Nat):Int)) [some (3,(mks mkT 3 k s.length).map eT),some (3,(mks mkT 3 (k+3*s.length) t.length).map eT)]:=by
 refine jbS Tryz.func21 10 fun X hX=> ?_
 refine jq [1,2] ?_
 refine Q0 [1] (jt 3 (k:=(jc [0,1] (c:=(by (try simp only[mapL_T,mapL_F,mapL_I,mapL_H,mapL_M,mapL_C]);apply Qd1<;>first|omega|(change k+3*s.length≤_;omega)|(simp;omega))) (a:=Qd6) (k:=jr)))) ?_
 refine jq [4] ?_
 refine Q4 (Qq Z8 Z17 (.of_eq ?_) ?_)
 all_goals clear hX
 ·skip
  simp
 ·skip
  simp
end Go.Proofs
namespace Go.Proofs
open Go Go.Ev
theorem Qd7:Q6 Tryz.prog 123:=jcb Tryz.func123
theorem Qd2{k n:Nat}(hl:n≤1099511627776)(hk:k≤1099511627776):Ct Tryz.prog 123 [.lst false 3 ((mks mkT 3 k n).map eT),.int .i64 k] [] (.int .i64 ((k+3*n:Nat):Int)) []:=by
 refine jbS Tryz.func123 41 fun X hX=> ?_
 refine Q0 [0,1] (jh hX (by simp[Q2z];rfl)) ?_
 refine Q5 (Q0 [0,1,5] (jh hX (by simp[Q2z];rfl)) ?_)
 refine Q9 (Qo (α:=Nat×Nat) [0,1,5] (fun p=>[(1,.int .i64 (p.2:Nat)),(5,.int .i64 (p.1:Nat))]) (fun p=>[]) (fun p=>p.1≤n∧p.2=k+3*p.1) (fun p=>n-p.1) ((0,k)) (fun p=>by simp;rfl) Z3 ?_ ?_)
 ·simp
 rintro ⟨i,q⟩ ⟨hi,hq⟩
 simp only at hi hq
 obtain ⟨q1,e1⟩: ∃x,x=q+1:=⟨_,rfl⟩
 have w1:IntKind.i64.wrap ((q:Int)+1)=(q1:Int):=by rw[Q7 Za Za];omega
 obtain ⟨q2,e2⟩: ∃x,x=q1+1:=⟨_,rfl⟩
 have w2:IntKind.i64.wrap ((q1:Int)+1)=(q2:Int):=by rw[Q7 Za Za];omega
 obtain ⟨q3,e3⟩: ∃x,x=q2+1:=⟨_,rfl⟩
 have w3:IntKind.i64.wrap ((q2:Int)+1)=(q3:Int):=by rw[Q7 Za Za];omega
 have v1:(q:Int)+1=(q1:Int):=by omega
 have u1:q+1=q1:=by omega
 have v2:(q:Int)+2=(q2:Int):=by omega
 have u2:q+2=q2:=by omega
 refine Q5 (Q0 [0,1,5,9] (jh hX (by simp[w1,w2,w3,v1,u1,v2,u2,Q2z];rfl)) ?_)
 refine jd (fun h2=> ?_) (fun h2=> ?_)
 ·try simp at h2
  have hg: ∀h,(mks mkT 3 k n)[i]'h=mkT q:=fun h=>by rw[Q13k h2,hq]
  refine Q3 (Q5 (Q9 (Q5 (Q0 [0,1,5,18] (jh hX (by simp[w1,w2,w3,v1,u1,v2,u2,h2,hg,mkT,Q2z];rfl)) ?_))))
  refine jd (fun h4=> ?_) (fun h4=> ?_)
  ·try simp at h4
   all_goals
    refine Q0 [4] (jh hX (by simp[w1,w2,w3,v1,u1,v2,u2,h2,hg,mkT,Q2z];rfl)) ?_
    refine Q4 (je (by simp[w1,w2,w3,v1,u1,v2,u2,h2,hg,mkT,Q2z];rfl) ?_)
    simp;omega
  ·try simp at h4
   all_goals
    refine Q3 (Q0 [0,1,5] (jh hX Z2d) ?_)
    refine Q5 (jD [0,1,5,28] (jS 6 (by simp[w1,w2,w3,v1,u1,v2,u2,h2,hg,mkT,Q2z];rfl) (jC (c:=by apply Q2d<;>first|omega|assumption) (a:=Q2f) (k:=(jQ (by simp[w1,w2,w3,v1,u1,v2,u2,h2,hg,mkT,Q2z];rfl))))) ?_)
    refine jd (fun h7=> ?_) (fun h7=> ?_)
    ·try simp at h7
     all_goals
      refine Q0 [4] (jh hX (by simp[w1,w2,w3,v1,u1,v2,u2,h2,hg,mkT,Q2z];rfl)) ?_
      refine Q4 (je (by simp[w1,w2,w3,v1,u1,v2,u2,h2,hg,mkT,Q2z];rfl) ?_)
      simp;omega
    ·try simp at h7
     all_goals
      refine Q3 (Q0 [0,1,5] (jh hX Z2d) ?_)
      refine Q5 (Q0 [0,1,5,37] (jh hX (by simp[w1,w2,w3,v1,u1,v2,u2,h2,hg,mkT,Q2z];rfl)) ?_)
      refine jd (fun h10=> ?_) (fun h10=> ?_)
      ·try simp at h10
       all_goals
        refine Q0 [4] (jh hX (by simp[w1,w2,w3,v1,u1,v2,u2,h2,hg,mkT,Q2z];rfl)) ?_
        refine Q4 (je (by simp[w1,w2,w3,v1,u1,v2,u2,h2,hg,mkT,Q2z];rfl) ?_)
        simp;omega
      ·try simp at h10
       all_goals
        refine Q3 (Qd (jh hX Z2d) ?_)
        refine Qd (jh hX Z2d) ?_
        refine Qp ((i+1,q3)) [0,1,5] (by simp[w1,w2,w3,v1,u1,v2,u2,h2,hg,mkT];try (simp (disch:=omega) only[Q7])) ?_ ?_
        ·exact ⟨by simp only;omega,by simp only;omega⟩
        ·simp only;omega
 ·try simp at h2
  refine Qr (Q0 [4] (jh hX (by simp[w1,w2,w3,v1,u1,v2,u2,h2,Q2z];rfl)) ?_)
  refine Q4 (je (by simp[w1,w2,w3,v1,u1,v2,u2,h2,Q2z];rfl) ?_)
  simp;omega
end Go.Proofs
namespace Go.Proofs
open Go Go.Ev
theorem Qmj:Q6 Tryz.prog 66:=jcb Tryz.func66
theorem Qlz{s t k:Nat}(hs:s≤1048576)(ht:t≤1048576)(hk:k≤1073741824):Ct Tryz.prog 66 [.agg [.lst false 3 ((mks mkT 3 k s).map eT),.lst false 3 ((mks mkT 3 (k+3*s) t).map eT)],.int .i64 (k:Nat)] [] (.int .i64 ((k+3*s+3*t:Nat):Int)) []:=by
 refine jbS Tryz.func66 18 fun X hX=> ?_
 refine jq [1,2] ?_
 refine Q0 [1,2] (jt 3 (k:=(jc [] (c:=(by apply Qd2<;>first|omega|assumption)) (a:=Qd7) (k:=jr)))) ?_
 refine Q5 (jq [1,2,10] ?_)
 refine jd (fun h2=> ?_) (fun h2=> ?_)
 ·try simp at h2
  refine jq [4] ?_
  refine Q4 (je Zy ?_)
  (try simp)<;>(try omega)
 ·try simp at h2
  refine Q3 (Q0 [1] (js hX 3 Zy (jc [] (c:=(by apply Qd2<;>first|omega|assumption)) (a:=Qd7) (k:=jr))) ?_)
  refine Q5 (jq [1,16] ?_)
  refine jd (fun h5=> ?_) (fun h5=> ?_)
  ·try simp at h5
   refine jq [4] ?_
   refine Q4 (je (by simp[h2,h5];rfl) ?_)
   (try simp)<;>(try omega)
  ·try simp at h5
   refine Q3 (jq [4] ?_)
   refine Q4 (je (by simp[h2,h5];rfl) ?_)
   (try simp)<;>(try omega)
end Go.Proofs
namespace Go.Proofs
open Go Go.Ev
theorem Qaq:Q6 Tryz.prog 22:=jcb Tryz.func22
theorem Qam{s t k:Nat}(hs:s≤1048576)(ht:t≤1048576)(hk:k≤1073741824){c:Int}:Ct Tryz.prog 22 [.agg [.lst false 3 ((mks mkT 3 k s).map eT),.lst false 3 ((mks mkT 3 (k+3*s) t).map eT),.int .i64 c],.int .i64 (k:Nat)] [] (.int .i64 ((k+3*s+3*t:Nat):Int)) []:=by
 refine jbS Tryz.func22 12 fun X hX=> ?_
 refine jq [1,2] ?_
 refine Q0 [1] (jt 3 (k:=(jc [] (c:=(by apply Qlz<;>first|omega|assumption)) (a:=Qmj) (k:=jr)))) ?_
 refine Q5 (jq [1,10] ?_)
 refine jd (fun h2=> ?_) (fun h2=> ?_)
 ·try simp at h2
  refine jq [4] ?_
  refine Q4 (je Zy ?_)
  (try simp)<;>(try omega)
 ·try simp at h2
  refine Q3 (jq [4] ?_)
  refine Q4 (je Zy ?_)
  (try simp)<;>(try omega)
end Go.Proofs
namespace Go.Proofs
open Go Go.Ev
theorem Qch{l:List Cls}{n1:Int}{n2:Int}{n3:Int}{f4:Frm}(hl:l.length<4611686018427387904)(bl: ∀y∈l,Qq1 y)(hn1: -9223372036854775808≤n1∧n1<9223372036854775808)(hn2: -9223372036854775808≤n2∧n2<9223372036854775808)(hn3: -9223372036854775808≤n3∧n3<9223372036854775808)(hf4:Qmt f4):Ct Tryz.prog 3 [.lst false 6 (l.map eC),.int .i64 n1,.int .i64 n2,.int .i64 n3,eFr f4] [] (.bool true) []:=by
 refine jbS Tryz.func3 107 fun X hX=> ?_
 refine jq [0,1,2,3,9] ?_
 refine jq [0,1,2,3,9,11] ?_
 refine Q0 [0,1,2,3,9,11] (jt 2 (k:=(jc [] (c:=(by apply Qnm<;>exact Z27)) (a:=Qob) (k:=jr)))) ?_
 refine Q5 (jq [0,1,2,3,9,11,24] ?_)
 refine jd (fun h3=> ?_) (fun h3=> ?_)
 ·try simp at h3
  refine jq [10] ?_
  refine Q4 (je (by simp[h3];rfl) ?_)
  first|omega|(simp_all;done)|(simp_all<;>omega)
 ·try simp at h3
  have k3:=Q10z h3
  have hsL:Q1r l≤1048576:=by have:=k3.1;unfold Q1r;omega
  refine Q3 (Q0 [0,1,2,3,9,11] (js hX 2 (by simp[h3];rfl) (jc [] (c:=(by apply Qpi<;>exact Z27)) (a:=Qpu) (k:=jr))) ?_)
  refine Q5 (jq [0,1,2,3,9,29] ?_)
  refine jd (fun h6=> ?_) (fun h6=> ?_)
  ·try simp at h6
   refine jq [10] ?_
   refine Q4 (je (by simp[h3,h6];rfl) ?_)
   first|omega|(simp_all;done)|(simp_all<;>omega)
  ·try simp at h6
   have k6:=Q10z h6
   have hsL:Q1r l≤1048576:=by have:=k3.1;unfold Q1r;omega
   have hb:=Qy7 l n1 n2 n3 f4
   obtain ⟨u5,u6⟩:=Qrl l n1 n2 n3 f4
   obtain ⟨u1,u2⟩:f4.stack.length≤1048576∧f4.locals.length≤1048576:=by simp only[Qjt] at k6;omega
   have hc:Q6m l≤7340032:=by have:=Qs5 l;omega
   refine Q3 (jK 9 [0,2,3,4,5] (.two 1 8 (.two 6 8 (.two 7 8 (.one 8 .tail) (.one 7 .tail)) (.one 6 (.one 7 .tail))) (.one 1 (.one 6 (.one 7 .tail)))) [0,1,2,3,9,12] ([0]) hX (by simp[h3,h6];rfl) (.two (jN (p:=fun X hX=>(jF (c:=(by apply Q56<;>exact Z1q)) (a:=Q57) (k:=jf))) (k:=(.two (jN (p:=fun X hX=>(jF (c:=Z1y) (a:=Q47) (k:=jf))) (k:=(.two (jN (p:=fun X hX=>(jF (c:=(by apply Q6p<;>exact Z27)) (a:=Q6r) (k:=jf))) (k:=(jN (p:=fun X hX=>jr) (k:=.tail)))) (jN (p:=fun X hX=>jr) (k:=(jN (p:=fun X hX=>(jF (c:=(by apply Q6p<;>exact Z27)) (a:=Q6r) (k:=jf))) (k:=.tail))))))) (jN (p:=fun X hX=>jr) (k:=(jN (p:=fun X hX=>(jF (c:=Z1y) (a:=Q47) (k:=jf))) (k:=(jN (p:=fun X hX=>(jF (c:=(by apply Q6p<;>exact Z27)) (a:=Q6r) (k:=jf))) (k:=.tail))))))))) (jN (p:=fun X hX=>jr) (k:=(jN (p:=fun X hX=>(jF (c:=(by apply Q56<;>exact Z1q)) (a:=Q57) (k:=jf))) (k:=(jN (p:=fun X hX=>(jF (c:=Z1y) (a:=Q47) (k:=jf))) (k:=(jN (p:=fun X hX=>(jF (c:=(by apply Q6p<;>exact Z27)) (a:=Q6r) (k:=jf))) (k:=.tail))))))))) (jh hX (by simp[h3,h6];rfl)) ?_)
   refine Q0 [0,1,2,3,9,12,13] (jt 1 (k:=(jc [] (c:=(by apply Q56<;>exact Z1q)) (a:=Q57) (k:=jr)))) ?_
   refine Q0 [0,1,2,3,9,12,13,14] (js hX 1 (by simp[h3,h6];rfl) (jc [] (c:=Z1y) (a:=Q47) (k:=(jh hX (by simp[h3,h6];rfl))))) ?_
   refine Q0 [0,1,2,3,9,12,13,14,15] (js hX 5 (by simp[h3,h6];rfl) (jB (c:=(by apply Q59<;>exact Z27)) (a:=Q5a) (k:=(jh hX (by simp[h3,h6];rfl))))) ?_
   refine Q5 (Q0 [0,1,2,3,9,12,13,14,15,51] (js hX 2 (by simp[h3,h6];rfl) (jB (c:=(by apply Q8o<;>exact Z27)) (a:=Q8p) (k:=jr))) ?_)
   refine jd (fun h12=> ?_) (fun h12=> ?_)
   ·try simp at h12
    all_goals
     refine jq [10] ?_
     refine Q4 (je (by simp[h3,h6];rfl) ?_)
     first|omega|(simp_all;done)|(simp_all<;>omega)
   ·try simp at h12
    all_goals
     refine Q3 (Q5 (Q0 [0,1,2,3,9,12,13,14,15,56] (jt 2 (k:=(jF (c:=(by apply Q56<;>exact Z1q)) (a:=Q57) (k:=(jB (c:=(by apply Qnq<;>exact Z27)) (a:=Qof) (k:=jr)))))) ?_))
     refine jd (fun h14=> ?_) (fun h14=> ?_)
     ·try simp at h14
      all_goals
       refine jq [10] ?_
       refine Q4 (je (by simp[h3,h6];rfl) ?_)
       first|omega|(simp_all;done)|(simp_all<;>omega)
     ·try simp at h14
      all_goals
       refine Q3 (Q5 (jL 3 [0,1] [2] [0,1,2,3,9,12,13,14,15,61] ([0,5]) hX (by simp[h3,h6];rfl) (jH (p:=fun X hX=>(jF (c:=Z1y) (a:=Q47) (k:=jf))) (k:=.nil)) (jB (c:=(by apply Qpl<;>exact Z27)) (a:=Qfk) (k:=jr)) ?_))
       refine jd (fun h16=> ?_) (fun h16=> ?_)
       ·try simp at h16
        all_goals
         refine jq [10] ?_
         refine Q4 (je (by simp[h3,h6];rfl) ?_)
         first|omega|(simp_all;done)|(simp_all<;>omega)
       ·try simp at h16
        all_goals
         refine Q3 (jq [0,1,2,3,9,12,13,14,15,16] ?_)
         refine Q0 [0,1,2,3,9,12,14,15,16] (jt 2 (k:=(jc [2] (c:=(by (try simp only[mapL_T,mapL_F,mapL_I,mapL_H,mapL_M,mapL_C]);apply Qk8 (k:=1)<;>exact Z27)) (a:=Qkr) (k:=jr)))) ?_
         refine Q0 [0,1,2,3,9,12,15,16] (js hX 2 (by simp[h3,h6];rfl) (jc [3,4] (c:=(by (try simp only[mapL_T,mapL_F,mapL_I,mapL_H,mapL_M,mapL_C]);apply Qd1 (k:=1+Q6m l)<;>exact Z27)) (a:=Qd6) (k:=jr))) ?_
         have nz:(0≤1+(Q6m l:Int)+3*(f4.stack.length:Int)+3*(f4.locals.length:Int))=True:=eq_true Za
         refine Q5 ?_
         first|(refine Q0 [0,1,2,3,9,12,15,75] (js hX 5 (by simp[h3,h6,nz];rfl) (jB (c:=(by apply Q8o<;>exact Z27)) (a:=Q8p) (k:=jr))) ?_)
         refine jd (fun h21=> ?_) (fun h21=> ?_)
         ·try simp at h21
          all_goals
           refine jq [10] ?_
           refine Q4 (je (by simp[h3,h6,nz,h21];rfl) ?_)
           first|omega|(simp_all;done)|(simp_all<;>omega)
         ·try simp at h21
          all_goals
           refine Q3 (jq [0,1,2,3,9,12,15,17] ?_)
           refine Q0 [0,1,2,3,9,12,15,17] (js hX 2 (by simp[h3,h6,nz,h21];rfl) (jc [6,7] (c:=(by (try simp only[mapL_T,mapL_F,mapL_I,mapL_H,mapL_M,mapL_C]);apply Qhe (k:=1)<;>exact Z27)) (a:=Qhu) (k:=jr))) ?_
           refine jq [0,1,2,3,9,12,15,17,18] ?_
           refine Q0 [0,1,2,3,9,12,15,17,18] (js hX 2 (by simp[h3,h6,nz,h21];rfl) (jB (c:=(by apply Qam (k:=1)<;>exact Z27)) (a:=Qaq) (k:=jr))) ?_
           refine Q5 (jq [0,1,2,3,9,12,15,17,18,83] ?_)
           refine jd (fun h27=> ?_) (fun h27=> ?_)
           ·try simp at h27
            all_goals
             refine jq [10] ?_
             refine Q4 (je (by simp[h3,h6,nz,h21,h27];rfl) ?_)
             first|omega|(simp_all;done)|(simp_all<;>omega)
           ·try simp at h27
            all_goals
             refine Q3 (Q5 (jq [0,1,2,3,9,12,15,17,86] ?_))
             refine jd (fun h29=> ?_) (fun h29=> ?_)
             ·try simp at h29
              all_goals
               refine jq [10] ?_
               refine Q4 (je (by simp[h3,h6,nz,h21,h27];rfl) ?_)
               first|omega|(simp_all;done)|(simp_all<;>omega)
             ·try simp at h29
              all_goals
               refine Q3 (jK 9 [0,2,3,4,5] (.two 1 8 (.two 6 8 (.two 7 8 (.one 8 .tail) (.one 7 .tail)) (.one 6 (.one 7 .tail))) (.one 1 (.one 6 (.one 7 .tail)))) [12,15,17,19] ([0]) hX (by simp[h3,h6,nz,h21,h27];rfl) (.two (jN (p:=fun X hX=>(jF (c:=(by apply Q56<;>exact Z1q)) (a:=Q57) (k:=jf))) (k:=(.two (jN (p:=fun X hX=>(jF (c:=Z1y) (a:=Q47) (k:=jf))) (k:=(.two (jN (p:=fun X hX=>(jF (c:=(by apply Q59<;>exact Z27)) (a:=Q5a) (k:=jf))) (k:=(jN (p:=fun X hX=>jr) (k:=.tail)))) (jN (p:=fun X hX=>jr) (k:=(jN (p:=fun X hX=>(jF (c:=(by apply Q59<;>exact Z27)) (a:=Q5a) (k:=jf))) (k:=.tail))))))) (jN (p:=fun X hX=>jr) (k:=(jN (p:=fun X hX=>(jF (c:=Z1y) (a:=Q47) (k:=jf))) (k:=(jN (p:=fun X hX=>(jF (c:=(by apply Q59<;>exact Z27)) (a:=Q5a) (k:=jf))) (k:=.tail))))))))) (jN (p:=fun X hX=>jr) (k:=(jN (p:=fun X hX=>(jF (c:=(by apply Q56<;>exact Z1q)) (a:=Q57) (k:=jf))) (k:=(jN (p:=fun X hX=>(jF (c:=Z1y) (a:=Q47) (k:=jf))) (k:=(jN (p:=fun X hX=>(jF (c:=(by apply Q59<;>exact Z27)) (a:=Q5a) (k:=jf))) (k:=.tail))))))))) (jh hX (by simp[h3,h6,nz,h21,h27];rfl)) ?_)
               refine Q5 (Q0 [15,17,98] (js hX 2 (by simp[h3,h6,nz,h21,h27];rfl) (jc [] (c:=(by apply Q8o<;>exact Z27)) (a:=Q8p) (k:=jr))) ?_)
               refine jd (fun h32=> ?_) (fun h32=> ?_)
               ·try simp at h32
                all_goals
                 refine jq [10] ?_
                 refine Q4 (je (by simp[h3,h6,nz,h21,h27];rfl) ?_)
                 first|omega|(simp_all;done)|(simp_all<;>omega)
               ·try simp at h32
                all_goals
                 refine Q3 (jq [15,17,18] ?_)
                 refine Q0 [17,18] (js hX 2 (by simp[h3,h6,nz,h21,h27];rfl) (jB (c:=(by apply Qam (k:=1)<;>exact Z27)) (a:=Qaq) (k:=jr))) ?_
                 refine Q5 (jq [17,18,103] ?_)
                 refine jd (fun h36=> ?_) (fun h36=> ?_)
                 ·try simp at h36
                  all_goals
                   refine jq [10] ?_
                   refine Q4 (je (by simp[h3,h6,nz,h21,h27,h36];rfl) ?_)
                   first|omega|(simp_all;done)|(simp_all<;>omega)
                 ·try simp at h36
                  all_goals
                   refine Q3 (Q5 (jq [106] ?_))
                   refine jd (fun h38=> ?_) (fun h38=> ?_)
                   ·try simp at h38
                    all_goals
                     refine jq [10] ?_
                     refine Q4 (je (by simp[h3,h6,nz,h21,h27,h36];rfl) ?_)
                     first|omega|(simp_all;done)|(simp_all<;>omega)
                   ·try simp at h38
                    all_goals
                     refine Q3 (jq [10] ?_)
                     refine Q4 (je (by simp[h3,h6,nz,h21,h27,h36];rfl) ?_)
                     first|omega|(simp_all;done)|(simp_all<;>omega)
end Go.Proofs
namespace Go.Proofs
open Go Go.Ev
abbrev tcF:List Tc:=[.str,.str,.bool]
abbrev tcI:List Tc:=[.int .i64,.int .i64,.str,.str,.str]
abbrev tcH:List Tc:=[.int .i64,.int .i64,.int .i64,.str]
abbrev tcM:List Tc:=[.str,.str,.bool,.bool,.bool,.int .i64,.int .i64,.lst false tcI,.lst false tcH]
abbrev tcC:List Tc:=[.str,.str,.bool,.bool,.lst false tcF,.lst false tcM]
theorem Qws{α:Type}{enc:α→V}{Q:α→Prop}: ∀{xs:List V},(∀x∈xs,∃a,x=enc a∧Q a)→ ∃l:List α,xs=l.map enc∧ ∀a∈l,Q a
 |[],_=>⟨[],rfl,fun _ h=>by cases h⟩
 |x::xs,h=>by
  obtain ⟨a,rfl,ha⟩:=h x Z3
  obtain ⟨l,rfl,hl⟩:=Qws (enc:=enc) (Q:=Q) (xs:=xs) fun y hy=>h y (by simp[hy])
  exact ⟨a::l,rfl,fun b hb=>by
   rcases List.mem_cons.1 hb with rfl|hb
   ·exact ha
   ·exact hl b hb⟩
theorem Q25{c:Tc}{cs:List Tc}{vs:List V}(h:okL (c::cs) vs): ∃v ws,vs=v::ws∧okC c v∧okL cs ws:=by
 cases vs with
 |nil=>simp[okL] at h
 |cons v ws=>exact ⟨v,ws,rfl,h⟩
theorem Qen{vs:List V}(h:okL [] vs):vs=[]:=by
 cases vs with
 |nil=>rfl
 |cons v ws=>simp[okL] at h
theorem Q9a{v:V}(h:okC .str v): ∃l,v= .str l∧l.length≤140737488351232:=h
theorem Qdt{v:V}(h:okC .bool v): ∃b,v= .bool b:=h
theorem Qab{v:V}(h:okC (.int .i64) v): ∃n,v= .int .i64 n∧ -9223372036854775808≤n∧n<9223372036854775808:=by
 obtain ⟨n,rfl,hn⟩:=h
 refine ⟨n,rfl,?_⟩
 simp[Lit.wf,IntKind.min,IntKind.max,IntKind.signed,IntKind.bits] at hn
 omega
theorem Qeo{α:Type}{enc:α→V}{Q:α→Prop}{cs:List Tc}{v:V}(h:okC (.lst false cs) v)(hd: ∀vs,okL cs vs→ ∃a,V.agg vs=enc a∧Q a):
  ∃l:List α,v= .lst false cs.length (l.map enc)∧l.length≤140737488351232∧ ∀a∈l,Q a:=by
 obtain ⟨xs,rfl,hl,hx⟩:=h
 obtain ⟨l,rfl,hq⟩:=Qws (enc:=enc) (Q:=Q) (xs:=xs) fun x hx'=>by
  have:=hx x hx'
  simp only[Bool.false_eq_true,if_false] at this
  obtain ⟨vs,rfl,hv⟩:=this
  exact hd vs hv
 exact ⟨l,rfl,by rw[List.length_map] at hl;exact hl,hq⟩
theorem decF{vs:List V}(h:okL tcF vs): ∃x:Fld,V.agg vs=eF x∧bigF x:=by
 obtain ⟨_,_,rfl,h0,h⟩:=Q25 h
 obtain ⟨_,_,rfl,h1,h⟩:=Q25 h
 obtain ⟨_,_,rfl,h2,h⟩:=Q25 h
 obtain rfl:=Qen h
 obtain ⟨a,rfl,ha⟩:=Q9a h0
 obtain ⟨b,rfl,hb⟩:=Q9a h1
 obtain ⟨c,rfl⟩:=Qdt h2
 exact ⟨⟨a,b,c⟩,rfl,by simp only[bigF];omega⟩
theorem decI{vs:List V}(h:okL tcI vs): ∃x:Ins,V.agg vs=eI x∧bigI x:=by
 obtain ⟨_,_,rfl,h0,h⟩:=Q25 h
 obtain ⟨_,_,rfl,h1,h⟩:=Q25 h
 obtain ⟨_,_,rfl,h2,h⟩:=Q25 h
 obtain ⟨_,_,rfl,h3,h⟩:=Q25 h
 obtain ⟨_,_,rfl,h4,h⟩:=Q25 h
 obtain rfl:=Qen h
 obtain ⟨a,rfl,ha⟩:=Qab h0
 obtain ⟨b,rfl,hb⟩:=Qab h1
 obtain ⟨c,rfl,hc⟩:=Q9a h2
 obtain ⟨d,rfl,hd⟩:=Q9a h3
 obtain ⟨e,rfl,he⟩:=Q9a h4
 exact ⟨⟨a,b,c,d,e⟩,rfl,by simp only[bigI];omega⟩
theorem decH{vs:List V}(h:okL tcH vs): ∃x:Hdl,V.agg vs=eH x∧bigH x:=by
 obtain ⟨_,_,rfl,h0,h⟩:=Q25 h
 obtain ⟨_,_,rfl,h1,h⟩:=Q25 h
 obtain ⟨_,_,rfl,h2,h⟩:=Q25 h
 obtain ⟨_,_,rfl,h3,h⟩:=Q25 h
 obtain rfl:=Qen h
 obtain ⟨a,rfl,ha⟩:=Qab h0
 obtain ⟨b,rfl,hb⟩:=Qab h1
 obtain ⟨c,rfl,hc⟩:=Qab h2
 obtain ⟨d,rfl,hd⟩:=Q9a h3
 exact ⟨⟨a,b,c,d⟩,rfl,by simp only[bigH];omega⟩
theorem decM{vs:List V}(h:okL tcM vs): ∃x:Mth,V.agg vs=eM x∧Qsk x:=by
 obtain ⟨_,_,rfl,h0,h⟩:=Q25 h
 obtain ⟨_,_,rfl,h1,h⟩:=Q25 h
 obtain ⟨_,_,rfl,h2,h⟩:=Q25 h
 obtain ⟨_,_,rfl,h3,h⟩:=Q25 h
 obtain ⟨_,_,rfl,h4,h⟩:=Q25 h
 obtain ⟨_,_,rfl,h5,h⟩:=Q25 h
 obtain ⟨_,_,rfl,h6,h⟩:=Q25 h
 obtain ⟨_,_,rfl,h7,h⟩:=Q25 h
 obtain ⟨_,_,rfl,h8,h⟩:=Q25 h
 obtain rfl:=Qen h
 obtain ⟨a,rfl,ha⟩:=Q9a h0
 obtain ⟨b,rfl,hb⟩:=Q9a h1
 obtain ⟨c,rfl⟩:=Qdt h2
 obtain ⟨d,rfl⟩:=Qdt h3
 obtain ⟨e,rfl⟩:=Qdt h4
 obtain ⟨f,rfl,_⟩:=Qab h5
 obtain ⟨g,rfl,_⟩:=Qab h6
 obtain ⟨i,rfl,hi,hi2⟩:=Qeo h7 fun vs=>decI
 obtain ⟨j,rfl,hj,hj2⟩:=Qeo h8 fun vs=>decH
 exact ⟨⟨a,b,c,d,e,f,g,i,j⟩,rfl,by simp only[Qsk];exact ⟨by omega,by omega,by omega,hi2,by omega,hj2⟩⟩
theorem decC{vs:List V}(h:okL tcC vs): ∃x:Cls,V.agg vs=eC x∧Qq1 x:=by
 obtain ⟨_,_,rfl,h0,h⟩:=Q25 h
 obtain ⟨_,_,rfl,h1,h⟩:=Q25 h
 obtain ⟨_,_,rfl,h2,h⟩:=Q25 h
 obtain ⟨_,_,rfl,h3,h⟩:=Q25 h
 obtain ⟨_,_,rfl,h4,h⟩:=Q25 h
 obtain ⟨_,_,rfl,h5,h⟩:=Q25 h
 obtain rfl:=Qen h
 obtain ⟨a,rfl,ha⟩:=Q9a h0
 obtain ⟨b,rfl,hb⟩:=Q9a h1
 obtain ⟨c,rfl⟩:=Qdt h2
 obtain ⟨d,rfl⟩:=Qdt h3
 obtain ⟨i,rfl,hi,hi2⟩:=Qeo h4 fun vs=>decF
 obtain ⟨j,rfl,hj,hj2⟩:=Qeo h5 fun vs=>decM
 exact ⟨⟨a,b,c,d,i,j⟩,rfl,by simp only[Qq1];exact ⟨by omega,by omega,by omega,hi2,by omega,hj2⟩⟩
theorem Qqy{x:Bool×List Tc}{r:List (Bool×List Tc)}{vs:List V}(h:okA (x::r) vs): ∃v ws,vs=v::ws∧(if x.1=true then okL x.2 [v] else∃us,v= .agg us∧okL x.2 us)∧okA r ws:=by
 cases vs with
 |nil=>simp[okA] at h
 |cons v ws=>exact ⟨v,ws,rfl,h⟩
theorem Q13h{vs:List V}(h:okA [] vs):vs=[]:=by
 cases vs with
 |nil=>rfl
 |cons v ws=>simp[okA] at h
abbrev aC:Bool×List Tc:=(true,[.lst false tcC])
theorem Q16i{r:List (Bool×List Tc)}{vs:List V}(h:okA (aC::r) vs): ∃(l:List Cls) (ws:List V),vs= .lst false 6 (l.map eC)::ws∧l.length<4611686018427387904∧(∀y∈l,Qq1 y)∧okA r ws:=by
 obtain ⟨v,ws,rfl,h1,h2⟩:=Qqy h
 simp only[if_true] at h1
 obtain ⟨l,rfl,hl,hq⟩:=Qeo h1.1 fun vs=>decC
 exact ⟨l,ws,rfl,by omega,hq,h2⟩
end Go.Proofs
namespace Go.Proofs
open Go Go.Ev
abbrev tcT:List Tc:=[.int .i64,.str,.int .i64]
theorem decT{vs:List V}(h:okL tcT vs): ∃x:Typ,V.agg vs=eT x∧Qy6 x:=by
 obtain ⟨_,_,rfl,h0,h⟩:=Q25 h
 obtain ⟨_,_,rfl,h1,h⟩:=Q25 h
 obtain ⟨_,_,rfl,h2,h⟩:=Q25 h
 obtain rfl:=Qen h
 obtain ⟨a,rfl,_⟩:=Qab h0
 obtain ⟨b,rfl,hb⟩:=Q9a h1
 obtain ⟨c,rfl,_⟩:=Qab h2
 exact ⟨⟨a,b,c⟩,rfl,by simp only[Qy6];omega⟩
end Go.Proofs
namespace Go.Proofs
open Go Go.Ev
abbrev tcFr:List Tc:=[.lst false tcT,.lst false tcT]
theorem Q16u{vs:List V}(h:okL tcFr vs): ∃x:Frm,V.agg vs=eFr x∧Qmt x:=by
 obtain ⟨_,_,rfl,h0,h⟩:=Q25 h
 obtain ⟨_,_,rfl,h1,h⟩:=Q25 h
 obtain rfl:=Qen h
 obtain ⟨i,rfl,hi,hi2⟩:=Qeo h0 fun vs=>decT
 obtain ⟨j,rfl,hj,hj2⟩:=Qeo h1 fun vs=>decT
 exact ⟨⟨i,j⟩,rfl,by simp only[Qmt];exact ⟨by omega,hi2,by omega,hj2⟩⟩
abbrev aF:Bool×List Tc:=(false,tcFr)
theorem Q16h{r:List (Bool×List Tc)}{vs:List V}(h:okA (aF::r) vs): ∃(t:Frm) (ws:List V),vs=eFr t::ws∧Qmt t∧okA r ws:=by
 obtain ⟨v,ws,rfl,h1,h2⟩:=Qqy h
 simp only[Bool.false_eq_true,if_false] at h1
 obtain ⟨us,rfl,h1⟩:=h1
 obtain ⟨t,e,hb⟩:=Q16u h1
 exact ⟨t,ws,by rw[e],hb,h2⟩
abbrev aI:Bool×List Tc:=(true,[.int .i64])
theorem Q11h{r:List (Bool×List Tc)}{vs:List V}(h:okA (aI::r) vs): ∃(n:Int) (ws:List V),vs= .int .i64 n::ws∧(-9223372036854775808≤n∧n<9223372036854775808)∧okA r ws:=by
 obtain ⟨v,ws,rfl,h1,h2⟩:=Qqy h
 simp only[if_true] at h1
 obtain ⟨n,rfl,hn⟩:=Qab h1.1
 exact ⟨n,ws,rfl,hn,h2⟩
end Go.Proofs
namespace Go.Proofs.YtkjgmpccmpmmiaaGreat
open Go Go.Ev Go.Proofs Go.RowKit Go.ChangeShapes Go.WideShapes
theorem s_k1:ownKnob Tryz.checked.prog.godebug=none:=by kernel_rfl
theorem s_h2:laidOutB Tryz.checked.prog=true:=by kernel_rfl
theorem s_h3:mapsRowed Tryz.checked.prog=true:=by kernel_rfl
theorem s_h6:((Rows.fnExactFlowEffectRow.stops==[])&&(Tryz.checked.prog.stops==[])&&(Rows.fnExactFlowEffectRow.knobs==[])&&(Tryz.checked.prog.stopKnobs==[]))=true:=by kernel_rfl
theorem Q165:(Rows.fnExactFlowEffectRow.plainKeys==Tryz.checked.prog.plainKeys)=true:=by kernel_rfl
theorem Q164:(Rows.fnExactFlowEffectRow.shortTexts.isNone&&Tryz.checked.prog.stopsHeard)=true:=by kernel_rfl
theorem Q14z:Tryz.checked.prog.mayEnter=true:=by kernel_rfl
theorem Q163:(Rows.fnExactFlowEffectRow.lifted==Tryz.checked.prog.liftsFinal)=true:=by kernel_rfl
theorem Q162:(Tryz.checked.prog.make==some Rows.fnExactFlowEffectRow.make)=true:=by kernel_rfl
end Go.Proofs.YtkjgmpccmpmmiaaGreat
