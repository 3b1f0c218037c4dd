/- Part 8 of what the proofs lean on: what the functions of the program and of the reference compute. Conditions: none. -/
import Derived.Test.YtkjgmpccmpmmiaaGreatK06
set_option linter.all false
set_option linter.unusedVariables false
set_option linter.unusedSimpArgs false
set_option maxHeartbeats 2000000
set_option maxRecDepth 100000
namespace Go.Proofs
open Go Go.Ev
theorem Qo6:Q6 Tryz.prog 214:=jcb Tryz.func214
theorem Qnh{x:Ins}(h:Q5x x≤1099511627776):Ct Tryz.prog 214 [eI x] [] (.bool (Q1o x)) []:=by
 simp only[Q5x] at h
 refine jbS Tryz.func214 145 fun X hX=> ?_
 refine jq [1] ?_
 refine Q5 (Q0 [1,5] (jt 2 (k:=(jc [] (c:=(by apply Qhc<;>exact Z4)) (a:=Qhs) (k:=jf)))) ?_)
 refine Q9 (jq [1,5,6] ?_)
 refine jd (fun h2=> ?_) (fun h2=> ?_)
 ·try simp at h2
  refine Q0 [2] (jt 4 (k:=(jm 3 11 [14] (p:=by intro b;(try simp at b);exact (js hX 1 Z1 (Q8.call [] rfl Z3 rfl Z1 Z8 (by apply Q7r<;>exact Z4) Q7u Z3 Z3 Z1 (jh hX Z1)))) (q:=Z1p) (k:=jr)))) ?_
  refine Q4 (je0 ?_)
  (try simp_all[Q1o,Q3e,Q9d,Qm])<;>grind
 ·try simp at h2
  refine jq [1,5,15] ?_
  refine jd (fun h4=> ?_) (fun h4=> ?_)
  ·try simp at h4
   refine Q0 [2] (jt 2 (k:=(jc [] (c:=(by apply Qrv<;>exact Z4)) (a:=Qsa) (k:=(jt 1 (k:=(jm 3 20 [23] (p:=by intro b;(try simp at b);exact (js hX 1 Z1 (Q8.call [] rfl Z3 rfl Z1 Z8 (by apply Q7r<;>exact Z4) Q7u Z3 Z3 Z1 (jh hX Z1)))) (q:=Z1p) (k:=jr)))))))) ?_
   refine Q4 (je0 ?_)
   (try simp_all[Q1o,Q3e,Q9d,Qm])<;>grind
  ·try simp at h4
   refine jq [1,5,24] ?_
   refine jd (fun h6=> ?_) (fun h6=> ?_)
   ·try simp at h6
    refine Q0 [2] (jt 4 (k:=(jm 4 29 [1,33] (p:=fun b7_4=>by (try simp at b7_4);exact (jh hX (by simp[-Qc,-Qb,b7_4];rfl))) (q:=fun b7_4=>by (try simp at b7_4);exact (jh hX Z1)) (k:=(jt 1 (k:=(jm 3 34 [37] (p:=fun b7_9=>by (try simp at b7_9);exact (js hX 1 (by simp[-Qc,-Qb,b7_9];rfl) (Q8.call [] rfl Z3 rfl Z1 Z8 (by apply Q7r<;>exact Z4) Q7u Z3 Z3 Z1 (jh hX Z1)))) (q:=fun b7_9=>by (try simp at b7_9);exact (jh hX Z1)) (k:=jr)))))))) ?_
    refine Q4 (je0 ?_)
    (try simp_all[Q1o,Q3e,Q9d,Qm])<;>grind
   ·try simp at h6
    refine jq [1,5,38] ?_
    refine jd (fun h8=> ?_) (fun h8=> ?_)
    ·try simp at h8
     refine Q0 [2] (jt 4 (k:=(jm 4 43 [1,47] (p:=fun b9_4=>by (try simp at b9_4);exact (jh hX (by simp[-Qc,-Qb,b9_4];rfl))) (q:=fun b9_4=>by (try simp at b9_4);exact (jh hX Z1)) (k:=(jt 1 (k:=(jm 3 48 [51] (p:=fun b9_9=>by (try simp at b9_9);exact (js hX 1 (by simp[-Qc,-Qb,b9_9];rfl) (Q8.call [] rfl Z3 rfl Z1 Z8 (by apply Q7r<;>exact Z4) Q7u Z3 Z3 Z1 (jh hX Z1)))) (q:=fun b9_9=>by (try simp at b9_9);exact (jh hX Z1)) (k:=jr)))))))) ?_
     refine Q4 (je0 ?_)
     (try simp_all[Q1o,Q3e,Q9d,Qm])<;>grind
    ·try simp at h8
     refine jq [1,5,52] ?_
     refine jd (fun h10=> ?_) (fun h10=> ?_)
     ·try simp at h10
      refine Q0 [2] (jt 4 (k:=(jm 4 57 [1,61] (p:=by intro b;(try simp at b);exact (js hX 2 Z1 (Q8.call [] rfl Z3 rfl Z1 Z8 (by apply Q2r<;>exact Z4) Q2s Z3 Z3 Z1 (jh hX Z1)))) (q:=Z1p) (k:=(jt 1 (k:=(jm 4 62 [1,66] (p:=Z1p) (q:=Z1p) (k:=(jt 1 (k:=(jm 4 67 [71] (p:=Z1p) (q:=Z1p) (k:=jr)))))))))))) ?_
      refine Q4 (je0 ?_)
      (try simp_all[Q1o,Q3e,Q9d,Qm])<;>grind
     ·try simp at h10
      refine jq [1,5,72] ?_
      refine jd (fun h12=> ?_) (fun h12=> ?_)
      ·try simp at h12
       refine Q0 [2] (jt 4 (k:=(jm 4 77 [1,81] (p:=Z1p) (q:=Z1p) (k:=(jt 1 (k:=(jm 4 82 [1,86] (p:=Z1p) (q:=Z1p) (k:=(jt 1 (k:=(jm 4 87 [1,91] (p:=by intro b;(try simp at b);exact (js hX 2 Z1 (Q8.call [] rfl Z3 rfl Z1 Z8 (by apply Q79<;>exact Z4) Q7d Z3 Z3 Z1 (jh hX Z1)))) (q:=Z1p) (k:=(jt 1 (k:=(jm 5 92 [97] (p:=fun b13_19=>by (try simp at b13_19);(have hlt:=(Q2n b13_19.2).1;have hat:=Q3a (n:=91) hlt);exact (jh hX (by simp[-Qc,-Qb,hlt];rfl))) (q:=fun b13_19=>by (try simp at b13_19);exact (jh hX Z1)) (k:=jr)))))))))))))))) ?_
       refine Q4 (je0 ?_)
       by_cases hd:Q1k x.desc=true
       ·have hlt:=(Q2n hd).1
        have hat:=Q3a (n:=91) hlt
        have had:=Qc hlt
        (try simp_all[Q1o,Q3e])<;>grind
       ·(try simp_all[Q1o,Q3e])<;>grind
      ·try simp at h12
       refine jq [1,5,98] ?_
       refine jd (fun h14=> ?_) (fun h14=> ?_)
       ·try simp at h14
        refine Q0 [2] (jt 4 (k:=(jm 4 103 [1,107] (p:=by intro b;(try simp at b);exact (js hX 2 Z1 (Q8.call [] rfl Z3 rfl Z1 Z8 (by apply Q2r<;>exact Z4) Q2s Z3 Z3 Z1 (jh hX Z1)))) (q:=Z1p) (k:=(jt 1 (k:=(jm 4 108 [1,112] (p:=by intro b;(try simp at b);exact (js hX 2 Z1 (Q8.call [] rfl Z3 rfl Z1 Z8 (by apply Q2r<;>exact Z4) Q2s Z3 Z3 Z1 (jh hX Z1)))) (q:=Z1p) (k:=(jt 1 (k:=(jm 4 113 [117] (p:=by intro b;(try simp at b);exact (js hX 2 Z1 (Q8.call [] rfl Z3 rfl Z1 Z8 (by apply Q79<;>exact Z4) Q7d Z3 Z3 Z1 (jh hX Z1)))) (q:=Z1p) (k:=jr)))))))))))) ?_
        refine Q4 (je0 ?_)
        (try simp_all[Q1o,Q3e,Q9d,Qm])<;>grind
       ·try simp at h14
        refine jq [1,118] ?_
        refine jd (fun h16=> ?_) (fun h16=> ?_)
        ·try simp at h16
         refine Q0 [2] (jt 4 (k:=(jm 4 123 [1,127] (p:=by intro b;(try simp at b);exact (js hX 2 Z1 (Q8.call [] rfl Z3 rfl Z1 Z8 (by apply Q2r<;>exact Z4) Q2s Z3 Z3 Z1 (jh hX Z1)))) (q:=Z1p) (k:=(jt 1 (k:=(jm 9 128 [1,137] (p:=by intro b;(try simp at b);exact (js hX 2 Z1 (Q8.call [] rfl Z3 rfl Z1 Z8 (by apply Q2r<;>exact Z4) Q2s Z3 Z3 Z1 (js hX 1 Z1 (jm 4 132 [1,128,136] (p:=Z1p) (q:=Z1p) (k:=(jh hX Z1))))))) (q:=Z1p) (k:=(jt 1 (k:=(jm 6 138 [144] (p:=by intro b;(try simp at b);exact (js hX 2 Z1 (Q8.callF rfl Z3 rfl Z1 (by apply Q69<;>exact Z4) Q6e (by (try simp[-Qc,-Qb]);rfl) (jh hX Z1)))) (q:=Z1p) (k:=jr)))))))))))) ?_
         refine Q4 (je0 ?_)
         (try simp_all[Q1o,Q3e,Q9d,Qm])<;>grind
        ·try simp at h16
         refine Q3 (jq [2] ?_)
         refine Q4 (je0 ?_)
         (try simp_all[Q1o,Q3e,Q9d,Qm])<;>grind
end Go.Proofs
namespace Go.Proofs
open Go Go.Ev
theorem Qkl:Q6 Tryz.prog 216:=jcb Tryz.func216
theorem Qk2{x:Hdl}{n:Int}(h:x.cls.length≤1099511627776):Ct Tryz.prog 216 [eH x,.int .i64 n] [] (.bool (Q67 n x)) []:=by
 refine jbS Tryz.func216 37 fun X hX=> ?_
 refine jq [1,2] ?_
 refine Q0 [4] (jt 4 (k:=(jm 6 8 [1,2,14] (p:=fun b1_4=>by (try simp at b1_4);exact (jh hX (by simp[-Qc,-Qb,b1_4];rfl))) (q:=fun b1_4=>by (try simp at b1_4);exact (jh hX Z1)) (k:=(jt 1 (k:=(jm 5 15 [1,2,20] (p:=fun b1_11=>by (try simp at b1_11);exact (jh hX (by simp[-Qc,-Qb,b1_11];rfl))) (q:=fun b1_11=>by (try simp at b1_11);exact (jh hX Z1)) (k:=(jt 1 (k:=(jm 4 21 [1,2,25] (p:=fun b1_17=>by (try simp at b1_17);exact (jh hX (by simp[-Qc,-Qb,b1_17];rfl))) (q:=fun b1_17=>by (try simp at b1_17);exact (jh hX Z1)) (k:=(jt 1 (k:=(jm 5 26 [2,31] (p:=fun b1_22=>by (try simp at b1_22);exact (jh hX (by simp[-Qc,-Qb,b1_22];rfl))) (q:=fun b1_22=>by (try simp at b1_22);exact (jh hX Z1)) (k:=(jt 1 (k:=(jm 4 32 [36] (p:=fun b1_28=>by (try simp at b1_28);exact (js hX 2 (by simp[-Qc,-Qb,b1_28];rfl) (Q8.call [] rfl Z3 rfl Z1 Z8 (by apply Q2r<;>exact Z4) Q2s Z3 Z3 Z1 (jh hX Z1)))) (q:=fun b1_28=>by (try simp at b1_28);exact (jh hX Z1)) (k:=jr)))))))))))))))))))) ?_
 refine Q4 (je0 ?_)
 (try simp_all[Q67])<;>grind
end Go.Proofs
namespace Go.Proofs
open Go Go.Ev
theorem Qj8:Q6 Tryz.prog 134:=jcb Tryz.func134
theorem Qiy{x:Mth}(h:Q3t x≤1099511627776):Ct Tryz.prog 134 [eM x] [] (.bool (Q3d x)) []:=by
 simp only[Q3t] at h
 refine jbS Tryz.func134 180 fun X hX=> ?_
 refine jq [1] ?_
 refine Q0 [1,3] (jt 2 (k:=(jF (c:=(by apply Q69<;>exact Z1r)) (a:=Q6e) (k:=jr)))) ?_
 refine Q5 (Q0 [1,3,44] (jt 2 (k:=(jc [] (c:=(by apply Q2r<;>exact Z1r)) (a:=Q2s) (k:=(jt 2 (k:=(jm 4 15 [1,3,19] (p:=Z1p) (q:=Z1p) (k:=(jt 1 (k:=(jm 4 20 [1,3,24] (p:=Z1p) (q:=Z1p) (k:=(jt 1 (k:=(jm 4 25 [1,3,29] (p:=Z1p) (q:=Z1p) (k:=(jt 1 (k:=(jm 4 30 [1,3,34] (p:=fun b2_20=>by (try simp at b2_20);exact (jh hX Z1)) (q:=fun b2_20=>by (try simp at b2_20);exact (jh hX (by simp[-Qc,-Qb,b2_20];rfl))) (k:=(jt 1 (k:=(jm 4 35 [1,3,39] (p:=fun b2_25=>by (try simp at b2_25);exact (jh hX Z1)) (q:=fun b2_25=>by (try simp at b2_25);exact (jh hX (by simp[-Qc,-Qb,b2_25];rfl))) (k:=(jt 1 (k:=(jm 4 40 [1,3,44] (p:=fun b2_30=>by (try simp at b2_30);exact (jh hX Z1)) (q:=fun b2_30=>by (try simp at b2_30);exact (jh hX (by simp[-Qc,-Qb,b2_30];rfl))) (k:=jf)))))))))))))))))))))))))))) ?_)
 refine jd (fun h2=> ?_) (fun h2=> ?_)
 ·try simp at h2
  have hh:Q4g x=false:=by unfold Q4g Qm;grind
  refine jq [2] ?_
  refine Q4 (je Zy ?_)
  rw[Qct hh]
 ·try simp at h2
  have hh:Q4g x=true:=by unfold Q4g Qm;grind
  refine Q3 (Q5 (Q0 [1,3,46] (jh hX Zy) ?_))
  refine jd (fun h4=> ?_) (fun h4=> ?_)
  ·try simp at h4
   refine Q0 [2] (js hX 4 Zy (jm 4 50 [1,54] (p:=by intro b;(try simp at b);exact (jh hX (by simp[-Qc,-Qb,h2];rfl))) (q:=Z1p) (k:=(jt 1 (k:=(jm 5 55 [1,60] (p:=by intro b;(try simp at b);exact (jh hX (by simp[-Qc,-Qb,h2];rfl))) (q:=Z1p) (k:=(jt 1 (k:=(jm 5 61 [1,66] (p:=by intro b;(try simp at b);exact (jh hX (by simp[-Qc,-Qb,h2];rfl))) (q:=Z1p) (k:=(jt 1 (k:=(jm 4 67 [1,71] (p:=by intro b;(try simp at b);exact (jh hX (by simp[-Qc,-Qb,h2];rfl))) (q:=Z1p) (k:=(jt 1 (k:=(jm 4 72 [1,76] (p:=by intro b;(try simp at b);exact (jh hX (by simp[-Qc,-Qb,h2];rfl))) (q:=Z1p) (k:=(jt 1 (k:=(jm 4 77 [81] (p:=by intro b;(try simp at b);exact (jh hX (by simp[-Qc,-Qb,h2];rfl))) (q:=Z1p) (k:=jr))))))))))))))))))))))) ?_
   refine Q4 (je Zy ?_)
   rw[Q9b hh h4]
   simp[Qm];grind
  ·try simp at h4
   refine Q3 (Q0 [1,3,4] (jh hX Zy) ?_)
   refine Q0 [1,3,4,5] (jh hX Zy) ?_
   refine Q5 (Q0 [1,3,4,5,91] (jh hX Zy) ?_)
   refine' Qau [1,3,4,5] Z8 Z17 (fun h8=> ?a1_1) (fun h8=> ?a0_1) ?ak_1
   case a1_1=>
    try simp at h8
    refine Qd (jh hX Z6) ?_
    exact ⟨rfl,Eq.trans Z23 Z17⟩
   case a0_1=>
    try simp at h8
    refine Q3 ?_
    exact ⟨rfl,Eq.trans Z23 Z17⟩
   case ak_1=>
    refine Q21 (Le.of_eq Z8) ?_
    have hpl:=Qak x.desc
    have hw:IntKind.i64.wrap (((Qg x.desc).params.length:Int)+1)=(Qg x.desc).params.length+1:=Q7 Za Za
    simp only[hw]
    refine Q5 (Q0 [1,3,4,111] (jt 3 (k:=(jm 3 96 [1,3,4,5,99] (p:=Z1p) (q:=Z1p) (k:=(jt 1 (k:=(jm 5 100 [1,3,4,105] (p:=fun b10_7=>by (try simp at b10_7);exact (jh hX Z1)) (q:=fun b10_7=>by (try simp at b10_7);exact (jh hX (by simp[-Qc,-Qb,h2,b10_7];rfl))) (k:=(jt 1 (k:=(jm 5 106 [1,3,4,111] (p:=fun b10_13=>by (try simp at b10_13);exact (jh hX Z1)) (q:=fun b10_13=>by (try simp at b10_13);exact (jh hX (by simp[-Qc,-Qb,h2,b10_13];rfl))) (k:=jf)))))))))))) ?_)
    refine jd (fun h10=> ?_) (fun h10=> ?_)
    ·try simp at h10
     rw[Qlk h4 (by unfold Qgu;grind)]
     refine jq [2] ?_
     refine Q4 (je (by simp[h2,h10];rfl) ?_)
     rfl
    ·try simp at h10
     rw[Qow hh h4 (by unfold Qgu;grind)]
     refine Q3 (Q5 (jq [1,3,4,6] ?_))
     refine Q9 (Qo (α:=Nat) [1,3,4,6] (fun i=>[(6,.int .i64 i)]) (fun i=>[]) (fun i=>i≤x.code.length∧(x.code.drop i).all (Q83 x.code.length)=x.code.all (Q83 x.code.length)) (fun i=>x.code.length-i) (0) (fun i=>by simp;rfl) Z3 ?_ ?_)
     ·simp
     rintro i ⟨hi,hI⟩
     refine Q5 (Q0 [1,3,4,6,116] (jh hX (by simp[h2,h10];rfl)) ?_)
     refine jd (fun h13=> ?_) (fun h13=> ?_)
     ·try simp at h13
      rw[Q5b h13] at hI
      refine Q3 (Q5 (Q9 (Q0 [1,3,4,6,145] (js hX 5 (by simp[h2,h10,h13];rfl) (jc [] (c:=(by apply Qnh<;>exact Z1r)) (a:=Qo6) (k:=(jt 2 (k:=(jm 19 126 [1,3,4,6,145] (p:=Z1p) (q:=by intro b;(try simp at b);exact (js hX 6 (by simp[-Qc,-Qb,h2,h10,h13];rfl) (Q8.call [] rfl Z3 rfl Z1 Z8 (by apply Qhc<;>exact Z1r) Qhs Z3 Z3 Z1 (js hX 2 Z1 (jm 9 135 [1,3,4,6,126,144] (p:=by intro b;(try simp at b);exact (jh hX (by simp[-Qc,-Qb,h2,h10,h13];rfl))) (q:=Z1p) (k:=(jh hX Z1))))))) (k:=jf))))))) ?_)))
      refine jd (fun h15=> ?_) (fun h15=> ?_)
      ·try simp at h15
       refine jq [2] ?_
       refine Q4 (je (by simp[h2,h10,h13,h15];rfl) ?_)
       simp only[Qb h13] at h15
       have:Q83 x.code.length x.code[i]=false:=by unfold Q83;grind
       simp[←hI,this]
      ·try simp at h15
       simp only[Qb h13] at h15
       have h15b:Q83 x.code.length x.code[i]=true:=by unfold Q83;grind
       rw[h15b,Bool.true_and] at hI
       refine Q3 (Qd (jh hX Z6) ?_)
       refine Qp (i+1) [1,3,4,6] (by simp[h2,h10,h13,h15];try (simp (disch:=omega) only[Q7])) ?_ ?_
       ·exact ⟨by omega,hI⟩
       ·omega
     ·try simp at h13
      rw[List.drop_eq_nil_of_le h13] at hI
      refine Qr (Q5 (jq [1,3,4,7] ?_))
      refine Q9 (Qo (α:=Nat) [1,3,4,7] (fun i=>[(7,.int .i64 i)]) (fun i=>[]) (fun i=>i≤x.hdls.length∧(x.hdls.drop i).all (Q67 x.code.length)=x.hdls.all (Q67 x.code.length)) (fun i=>x.hdls.length-i) (0) (fun i=>by simp;rfl) Z3 ?_ ?_)
      ·simp
      rintro i ⟨hi2,hI2⟩
      refine Q5 (Q0 [1,3,4,7,150] (jh hX (by simp[h2,h10,h13];rfl)) ?_)
      refine jd (fun h18=> ?_) (fun h18=> ?_)
      ·try simp at h18
       rw[Q5b h18] at hI2
       refine Q3 (Q5 (Q9 (Q0 [1,3,4,7,160] (js hX 6 (by simp[h2,h10,h13,h18];rfl) (jc [] (c:=(by apply Qk2<;>exact Z1r)) (a:=Qkl) (k:=jr))) ?_)))
       refine jd (fun h20=> ?_) (fun h20=> ?_)
       ·try simp at h20
        refine jq [2] ?_
        refine Q4 (je (by simp[h2,h10,h13,h18];rfl) ?_)
        simp[←hI2,h20]
       ·try simp at h20
        rw[h20,Bool.true_and] at hI2
        refine Q3 (Qd (jh hX Z6) ?_)
        refine Qp (i+1) [1,3,4,7] (by simp[h2,h10,h13,h18];try (simp (disch:=omega) only[Q7])) ?_ ?_
        ·exact ⟨by omega,hI2⟩
        ·omega
      ·try simp at h18
       rw[List.drop_eq_nil_of_le h18] at hI2
       refine Qr (Q0 [2] (js hX 4 (by simp[h2,h10,h13,h18];rfl) (jm 15 164 [179] (p:=Z1p) (q:=by intro b;(try simp at b);exact (js hX 4 (by simp[-Qc,-Qb,h2,h10,h13,h18];rfl) (jm 4 168 [3,164,172] (p:=by intro b;(try simp at b);exact (jh hX (by simp[-Qc,-Qb,h2,h10,h13,h18];rfl))) (q:=Z1p) (k:=(js hX 1 Z1 (jm 5 173 [164,178] (p:=by intro b;(try simp at b);exact (jh hX (by simp[-Qc,-Qb,h2,h10,h13,h18];rfl))) (q:=Z1p) (k:=(jh hX Z1)))))))) (k:=jr))) ?_)
       refine Q4 (je (by simp[h2,h10,h13,h18];rfl) ?_)
       simp[←hI,←hI2,Qm];grind
end Go.Proofs
namespace Go.Proofs
open Go Go.Ev
theorem Qkn:Q6 Tryz.prog 72:=jcb Tryz.func72
theorem Qk4{x:Cls}(h:Q1n x≤1099511627776):Ct Tryz.prog 72 [eC x] [] (.bool (Q49 x)) []:=by
 simp only[Q1n] at h
 refine jbS Tryz.func72 137 fun X hX=> ?_
 refine jq [1] ?_
 refine Q5 (Q0 [1,44] (jt 2 (k:=(jc [] (c:=(by apply Q2r<;>exact Z1j)) (a:=Q2s) (k:=(jt 2 (k:=(jm 5 12 [1,17] (p:=Z1p) (q:=by intro b;(try simp at b);exact (js hX 2 Z1 (Q8.call [] rfl Z3 rfl Z1 Z8 (by apply Q2r<;>exact Z1j) Q2s Z3 Z3 Z1 (jh hX Z1)))) (k:=(jt 1 (k:=(jm 6 18 [1,24] (p:=Z1p) (q:=Z1p) (k:=(jt 1 (k:=(jm 7 25 [1,32] (p:=Z1p) (q:=by intro b;(try simp at b);exact (js hX 3 Z1 (jm 3 28 [1,25,31] (p:=Z1p) (q:=Z1p) (k:=(jh hX Z1))))) (k:=(jt 1 (k:=(jm 5 33 [1,38] (p:=Z1p) (q:=Z1p) (k:=(jt 1 (k:=(jm 5 39 [1,44] (p:=fun b1_32=>by (try simp at b1_32);exact (jh hX Z1)) (q:=fun b1_32=>by (try simp at b1_32);exact (jh hX (by simp[-Qc,-Qb,b1_32];rfl))) (k:=jf)))))))))))))))))))))))) ?_)
 refine jd (fun h1=> ?_) (fun h1=> ?_)
 ·try simp at h1
  have hh:Qae x=false:=by unfold Qae;grind
  refine jq [2] ?_
  refine Q4 (je Zx ?_)
  simp[Q49,hh]
 ·try simp at h1
  have hh:Qae x=true:=by unfold Qae;grind
  rw[show Q49 x=(Qcx [] x.fields&&Qcs x.abstr [] x.methods) from by simp[Q49,hh]]
  refine Q3 (Q5 (jq [1,3] ?_))
  refine Q9 (Qo (α:=Nat) [1,3] (fun i=>[(3,.int .i64 i)]) (fun i=>[]) (fun i=>i≤x.fields.length∧Qcx (x.fields.take i) (x.fields.drop i)=Qcx [] x.fields) (fun i=>x.fields.length-i) (0) (fun i=>by simp;rfl) Z3 ?_ ?_)
  ·simp
  rintro i ⟨hi,hI⟩
  refine Q5 (Q0 [1,3,49] (jh hX Zx) ?_)
  refine jd (fun h4=> ?_) (fun h4=> ?_)
  ·try simp at h4
   rw[List.drop_eq_getElem_cons h4] at hI
   simp only[Qcx] at hI
   refine Q3 (Q5 (Q9 (Q5 (Q0 [1,3,69] (js hX 6 (by simp[h1,h4];rfl) (jc [] (c:=(by apply Q2r<;>exact Z1j)) (a:=Q2s) (k:=(jt 2 (k:=(jm 9 60 [1,3,69] (p:=Z1p) (q:=by intro b;(try simp at b);exact (js hX 6 (by simp[-Qc,-Qb,h1,h4];rfl) (Q8.call [] rfl Z3 rfl Z1 Z8 (by apply Q79<;>exact Z1j) Q7d Z3 Z3 Z1 (jh hX Z1)))) (k:=jf))))))) ?_))))
   refine jd (fun h6=> ?_) (fun h6=> ?_)
   ·try simp at h6
    refine jq [2] ?_
    refine Q4 (je (by simp[h1,h4];rfl) ?_)
    have h6b:(Q2u x.fields[i].name&&Q1k x.fields[i].type)=false:=by simp only[Qb h4] at h6;grind
    simp[←hI,h6b]
   ·try simp at h6
    have h6b:(Q2u x.fields[i].name&&Q1k x.fields[i].type)=true:=by simp only[Qb h4] at h6;grind
    refine Q3 (jq [1,3,4] ?_)
    refine Q9 (Qo (α:=Nat) [1,3,4] (fun k=>[(4,.int .i64 k)]) (fun k=>[]) (fun k=>k≤i∧((x.fields.take i).drop k).all (fun g=> !decide (g.name=x.fields[i].name))=(x.fields.take i).all (fun g=> !decide (g.name=x.fields[i].name))) (fun k=>i-k) (0) (fun k=>by simp;rfl) Z3 ?_ ?_)
    ·simp
    rintro k ⟨hk,hK⟩
    refine Q5 (jq [1,3,4,72] ?_)
    refine jd (fun h9=> ?_) (fun h9=> ?_)
    ·try simp at h9
     have hkl:k<(x.fields.take i).length:=by simp;omega
     have hkf:k<x.fields.length:=by omega
     rw[Q5b hkl,List.getElem_take] at hK
     refine Q3 (Q5 (Q9 (jD [1,3,4,87] (jQ (by simp[h1,h4,h9,hkf];rfl)) ?_)))
     refine jd (fun h11=> ?_) (fun h11=> ?_)
     ·try simp at h11
      refine jq [2] ?_
      refine Q4 (je (by simp[h1,h4,h9,hkf];rfl) ?_)
      simp[←hI,←hK,h11]
     ·try simp at h11
      simp only[h11,decide_false,Bool.not_false,Bool.true_and] at hK
      refine Q3 (Qd (jh hX Z6) ?_)
      refine Qp (k+1) [1,3,4] (by simp[h1,h4,h9,hkf];try (simp (disch:=omega) only[Q7])) ?_ ?_
      ·exact ⟨by omega,hK⟩
      ·omega
    ·try simp at h9
     rw[List.drop_eq_nil_of_le (by simp;omega)] at hK
     simp only[List.all_nil] at hK
     refine Qr (Qd (jh hX Z6) ?_)
     refine Qp (i+1) [1,3] (by simp[h1,h4,h9];try (simp (disch:=omega) only[Q7])) ?_ ?_
     ·exact ⟨by omega,by rw[List.take_succ_eq_append_getElem h4,←hI,h6b,←hK];simp⟩
     ·omega
  ·try simp at h4
   rw[List.drop_eq_nil_of_le h4] at hI
   simp only[Qcx] at hI
   rw[←hI,Bool.true_and]
   refine Qr (Q5 (jq [1,5] ?_))
   refine Q9 (Qo (α:=Nat) [1,5] (fun i=>[(5,.int .i64 i)]) (fun i=>[]) (fun i=>i≤x.methods.length∧Qcs x.abstr (x.methods.take i) (x.methods.drop i)=Qcs x.abstr [] x.methods) (fun i=>x.methods.length-i) (0) (fun i=>by simp;rfl) Z3 ?_ ?_)
   ·simp
   rintro i ⟨hi2,hI2⟩
   refine Q5 (Q0 [1,5,92] (jh hX (by simp[h1,h4];rfl)) ?_)
   refine jd (fun h14=> ?_) (fun h14=> ?_)
   ·try simp at h14
    rw[List.drop_eq_getElem_cons h14] at hI2
    simp only[Qcs] at hI2
    refine Q3 (Q5 (Q9 (Q0 [1,5,6] (jh hX (by simp[h1,h4,h14];rfl)) ?_)))
    refine Q5 (Q0 [1,5,6,111] (js hX 1 (by simp[h1,h4,h14];rfl) (jc [] (c:=(by apply Qiy<;>exact Z1j)) (a:=Qj8) (k:=(jt 2 (k:=(jm 8 103 [1,5,6,111] (p:=Z1p) (q:=by intro b;(try simp at b);exact (js hX 3 (by simp[-Qc,-Qb,h1,h4,h14];rfl) (jm 4 106 [1,5,6,103,110] (p:=by intro b;(try simp at b);exact (jh hX (by simp[-Qc,-Qb,h1,h4,h14];rfl))) (q:=Z1p) (k:=(jh hX Z1))))) (k:=jf))))))) ?_)
    refine jd (fun h17=> ?_) (fun h17=> ?_)
    ·try simp at h17
     refine jq [2] ?_
     refine Q4 (je (by simp[h1,h4,h14];rfl) ?_)
     have h17b:(Q3d x.methods[i]&& !(x.methods[i].abstr&& !x.abstr))=false:=by grind
     rw[←hI2,h17b,Bool.false_and,Bool.false_and]
    ·try simp at h17
     have h17b:(Q3d x.methods[i]&& !(x.methods[i].abstr&& !x.abstr))=true:=by grind
     refine Q3 (jq [1,5,6,7] ?_)
     refine Q9 (Qo (α:=Nat) [1,5,6,7] (fun k=>[(7,.int .i64 k)]) (fun k=>[]) (fun k=>k≤i∧((x.methods.take i).drop k).all (fun g=> !(decide (g.name=x.methods[i].name)&&decide (g.desc=x.methods[i].desc)))=(x.methods.take i).all (fun g=> !(decide (g.name=x.methods[i].name)&&decide (g.desc=x.methods[i].desc)))) (fun k=>i-k) (0) (fun k=>by simp;rfl) Z3 ?_ ?_)
     ·simp
     rintro k ⟨hk2,hK2⟩
     refine Q5 (jq [1,5,6,7,114] ?_)
     refine jd (fun h20=> ?_) (fun h20=> ?_)
     ·try simp at h20
      have hkl:k<(x.methods.take i).length:=by simp;omega
      have hkf:k<x.methods.length:=by omega
      rw[Q5b hkl,List.getElem_take] at hK2
      refine Q3 (Q5 (Q9 (jD [1,5,6,7,136] (jS 10 (by simp[h1,h4,h14,h20,hkf];rfl) (jM 10 126 [1,5,6,7,136] (p:=by intro b;(try simp at b);exact (jQ (by simp[-Qc,-Qb,h1,h4,h14,h20,hkf];rfl))) (q:=Z2e) (k:=(Q17.fin Z23)))) ?_)))
      refine jd (fun h22=> ?_) (fun h22=> ?_)
      ·try simp at h22
       refine jq [2] ?_
       refine Q4 (je (by simp[h1,h4,h14,h20,hkf];rfl) ?_)
       simp only[Qb hkf] at h22
       rw[←hI2,←hK2,decide_eq_true h22.1,decide_eq_true h22.2]
       simp
      ·try simp at h22
       simp only[Qb hkf] at h22
       have h22b:(!(decide (x.methods[k].name=x.methods[i].name)&&decide (x.methods[k].desc=x.methods[i].desc)))=true:=by simp;exact Decidable.not_or_of_imp h22
       rw[h22b,Bool.true_and] at hK2
       refine Q3 (Qd (jh hX Z6) ?_)
       refine Qp (k+1) [1,5,6,7] (by simp[h1,h4,h14,h20,hkf];try (simp (disch:=omega) only[Q7])) ?_ ?_
       ·exact ⟨by omega,hK2⟩
       ·omega
     ·try simp at h20
      rw[List.drop_eq_nil_of_le (by simp;omega)] at hK2
      simp only[List.all_nil] at hK2
      refine Qr (Qd (jh hX Z6) ?_)
      refine Q13 (i+1) [1,5] 1 (by simp[hX]) Z3 (by simp[h1,h4,h14,h20];try (simp (disch:=omega) only[Q7])) ?_ ?_
      ·exact ⟨by omega,by rw[List.take_succ_eq_append_getElem h14,←hI2,h17b,←hK2];simp⟩
      ·omega
   ·try simp at h14
    rw[List.drop_eq_nil_of_le h14] at hI2
    simp only[Qcs] at hI2
    rw[←hI2]
    refine Qr (jq [2] ?_)
    refine Q4 (je (by simp[h1,h4,h14];rfl) ?_)
    simp
end Go.Proofs
namespace Go.Proofs
open Go Go.Ev
theorem Qpr:Q6 Tryz.prog 135:=jcb Tryz.func135
theorem Qpe:Ct Tryz.prog 135 [] [] (.lst true 1 (Q44.map V.str)) []:=by
 refine jbS Tryz.func135 2 fun X hX=> ?_
 refine jq [] ?_
 refine jq [0] ?_
 refine Q4 (je0 ?_)
 simp[Q44]
end Go.Proofs
namespace Go.Proofs
open Go Go.Ev
theorem Q6d:Q6 Tryz.prog 73:=jcb Tryz.func73
theorem Q7q{n:Str}:Ct Tryz.prog 73 [.str n] [] (.int .i64 (Q1v n)) []:=by
 have hbl:=Qi4
 refine jbS Tryz.func73 19 fun X hX=> ?_
 refine jq [0] ?_
 refine Q0 [0,3] (jc [] (c:=(by apply Qpe<;>exact Z4)) (a:=Qpr) (k:=jr)) ?_
 refine Q5 (jq [0,3,4] ?_)
 refine Q9 (Qo (α:=Nat) [0,3,4] (fun i=>[(4,.int .i64 i)]) (fun i=>[]) (fun i=>i≤8∧Q7x n (Q44.drop i) i=Q1v n) (fun i=>8-i) (0) (fun i=>by simp;rfl) Z3 ?_ ?_)
 ·simp[Q1v]
 rintro i ⟨hi,hI⟩
 refine Q5 (jq [0,3,4,9] ?_)
 refine jd (fun h3=> ?_) (fun h3=> ?_)
 ·try simp at h3
  rw[List.drop_eq_getElem_cons h3] at hI
  simp only[Q7x] at hI
  refine Q3 (Q5 (Q9 (Q0 [0,3,4,17] (jh hX (by simp[h3];rfl)) ?_)))
  refine jd (fun h5=> ?_) (fun h5=> ?_)
  ·try simp at h5
   refine jq [2] ?_
   refine Q4 (je (by simp[h3];rfl) ?_)
   simp[←hI,h5]
  ·try simp at h5
   refine Q3 (Qd (jh hX Z6) ?_)
   refine Qp (i+1) [0,3,4] (by simp[h3];try (simp (disch:=omega) only[Q7])) ?_ ?_
   ·exact ⟨by omega,by simp[←hI,h5]⟩
   ·omega
 ·try simp at h3
  refine Qr (jq [2] ?_)
  refine Q4 (je (by simp[h3];rfl) ?_)
  simp[←hI,List.drop_eq_nil_of_le h3,Q7x]
end Go.Proofs
namespace Go.Proofs
open Go Go.Ev
theorem Q1j:Q6 Tryz.prog 74:=jcb Tryz.func74
theorem Q2l{l:List Cls}{n:Str}(hl:l.length≤1099511627776):Ct Tryz.prog 74 [.lst false 6 (l.map eC),.str n] [] (.int .i64 (Qk n l 0)) []:=by
 refine jbS Tryz.func74 20 fun X hX=> ?_
 refine jq [0,1] ?_
 refine Q5 (jq [0,1,5] ?_)
 refine Q9 (Qo (α:=Nat) [0,1,5] (fun i=>[(5,.int .i64 i)]) (fun i=>[]) (fun i=>i≤l.length∧Qk n (l.drop i) i=Qk n l 0) (fun i=>l.length-i) (0) (fun i=>by simp;rfl) Z3 ?_ ?_)
 ·simp
 rintro i ⟨hi,hI⟩
 refine Q5 (jq [0,1,5,9] ?_)
 refine jd (fun h2=> ?_) (fun h2=> ?_)
 ·try simp at h2
  rw[List.drop_eq_getElem_cons h2] at hI
  simp only[Qk] at hI
  refine Q3 (Q5 (Q9 (Q0 [0,1,5,18] (jh hX Zy) ?_)))
  refine jd (fun h4=> ?_) (fun h4=> ?_)
  ·try simp at h4
   refine jq [4] ?_
   refine Q4 (je Zy ?_)
   simp[←hI,h4]
  ·try simp at h4
   refine Q3 (Qd (jh hX Z6) ?_)
   refine Qp (i+1) [0,1,5] Z2a ?_ ?_
   ·exact ⟨by omega,by simp[←hI,h4]⟩
   ·omega
 ·try simp at h2
  refine Qr (jq [4] ?_)
  refine Q4 (je Zy ?_)
  simp[←hI,List.drop_eq_nil_of_le h2,Qk]
end Go.Proofs
namespace Go.Proofs
open Go Go.Ev
theorem Qw:Q6 Tryz.prog 75:=jcb Tryz.func75
theorem Q7p{l:List Cls}{n:Str}(hl:l.length≤1099511627776):Ct Tryz.prog 75 [.lst false 6 (l.map eC),.str n] [] (.bool (isKnown l n)) []:=by
 refine jbS Tryz.func75 14 fun X hX=> ?_
 refine jq [0,1] ?_
 refine Q0 [4] (jt 1 (k:=(jc [] (c:=(by apply Q7q<;>exact Z4)) (a:=Q6d) (k:=(jt 2 (k:=(jm 5 8 [13] (p:=Z1p) (q:=by intro b;(try simp at b);exact (js hX 2 Z1 (Q8.call [] rfl Z3 rfl Z1 Z8 (by apply Q2l<;>exact Z4) Q1j Z3 Z3 Z1 (jh hX Z1)))) (k:=jr)))))))) ?_
 refine Q4 (je0 ?_)
 (try simp_all[isKnown])
end Go.Proofs
namespace Go.Proofs
open Go Go.Ev
theorem Q9q:Q6 Tryz.prog 217:=jcb Tryz.func217
theorem Q9j{t:Str}(ht:t.length≤1099511627776):Ct Tryz.prog 217 [.str t] [] (.str (Q1c t)) []:=by
 refine jbS Tryz.func217 24 fun X hX=> ?_
 refine jq [0] ?_
 refine Q5 (Q0 [0,10] (jt 4 (k:=(jm 4 6 [0,10] (p:=Z1p) (q:=by intro b;(try simp at b);exact (js hX 1 Z1 (Q8.call [] rfl Z3 rfl Z1 Z8 (by apply Q79<;>exact Z4) Q7d Z3 Z3 Z1 (jh hX Z1)))) (k:=jf)))) ?_)
 refine jd (fun h1=> ?_) (fun h1=> ?_)
 ·try simp at h1
  have hx:Q1c t=[]:=by
   rw[Q1c,if_neg]
   rintro e
   have:=(Q2n e).2
   rcases h1 with h1|h1
   ·omega
   ·rw[h1] at e;cases e
  refine jq [2] ?_
  refine Q4 (je Zx ?_)
  rw[hx]
 ·try simp at h1
  have hlt:=(Q2n h1.2).1
  have hlt1:1≤t.length:=hlt
  have hlong:=Qgk h1.2
  refine Q3 (Q5 (Q0 [0,13] (jh hX (by simp[h1,hlt,hlt1];rfl)) ?_))
  refine' Qau [0] Z8 Z17 (fun h3=> ?a1_1) (fun h3=> ?a0_1) ?ak_1
  case a1_1=>
   try simp at h3
   refine Qd (jh hX (by simp[h1,hlt,hlt1];rfl)) ?_
   exact ⟨rfl,Eq.trans Z23 Z17⟩
  case a0_1=>
   try simp at h3
   refine Q3 ?_
   exact ⟨rfl,Eq.trans Z23 Z17⟩
  case ak_1=>
   refine Q21 (Le.of_eq Z8) ?_
   generalize hu:(bif _ then _ else t)=u
   have hu2:u=if Q28 t 0 91 then t.drop 1 else t:=by rw[←hu,Q3a hlt];simp[cond_eq_ite]
   have hx:Q1c t=Qjs u:=by rw[Q1c,if_pos h1.2,hu2];split<;>rfl
   rw[hx]
   clear hu hx
   have hu0:0<u.length:=by
    rw[hu2]
    split
    ·rename_i hb
     have:=hlong.1 hb
     simp;omega
    ·exact hlt
   have hul:u.length≤t.length:=by rw[hu2];split<;>simp
   have hu3:Q28 u 0 73=false→2<u.length:=by
    intro hb
    rw[hu2] at hb⊢
    split at hb
    ·rename_i hc
     rw[Qtw] at hb
     have:=hlong.2.1 hc hb
     rw[if_pos hc];simp;omega
    ·rename_i hc
     rw[if_neg hc]
     exact hlong.2.2 (by simpa using hc) hb
   have hat:=Q3a (n:=73) hu0
   refine Q5 (Q0 [0,18] (jh hX (by simp[h1,hlt,hlt1,hu0];rfl)) ?_)
   refine jd (fun h5=> ?_) (fun h5=> ?_)
   ·try simp at h5
    refine jq [2] ?_
    refine Q4 (je (by simp[h1,hlt,hlt1,hu0];rfl) ?_)
    rw[Qjs,if_pos (by rw[hat];simpa using h5)]
   ·try simp at h5
    have hat2:Q28 u 0 73=false:=by rw[hat];simpa using h5
    have hu4:=hu3 hat2
    have hs1:0≤(u.length:Int)-1:=by omega
    have hs2:((u.length:Int)-1).toNat=u.length-1:=by omega
    have hs3:u.length-1≤u.length:=by omega
    have hs4:1≤u.length-1:=by omega
    have hs5:1≤u.length:=hu0
    refine Q3 (Q0 [2] (jh hX (by simp[h1,hlt,hlt1,hu0,hs1,hs2,hs3,hs4,hs5];(try (simp (disch:=omega) only[Q7];(try simp[h1,hlt,hlt1,hu0,hs1,hs2,hs3,hs4,hs5])));rfl)) ?_)
    refine Q4 (je (by simp[h1,hlt,hlt1,hu0,hs1,hs2,hs3,hs4,hs5];rfl) ?_)
    rw[Qjs,if_neg (by simp[hat2])]
    simp[seg]
end Go.Proofs
namespace Go.Proofs
open Go Go.Ev
theorem Qb2:Q6 Tryz.prog 136:=jcb Tryz.func136
theorem Qaz{l:List Cls}{t:Str}(hl:l.length≤1099511627776)(ht:t.length≤1099511627776):Ct Tryz.prog 136 [.lst false 6 (l.map eC),.str t] [] (.bool (Q88 l t)) []:=by
 refine jbS Tryz.func136 15 fun X hX=> ?_
 refine jq [0,1] ?_
 refine Q0 [0,5] (jt 1 (k:=(jc [] (c:=(by apply Q9j<;>exact Z4)) (a:=Q9q) (k:=jr)))) ?_
 refine Q0 [4] (jt 3 (k:=(jm 4 10 [14] (p:=Z1p) (q:=by intro b;(try simp at b);exact (js hX 2 Z1 (Q8.call [] rfl Z3 rfl Z1 Z8 Zu Qw Z3 Z3 Z1 (jh hX Z1)))) (k:=jr)))) ?_
 refine Q4 (je0 ?_)
 (try simp_all[Q88])
end Go.Proofs
namespace Go.Proofs
open Go Go.Ev
theorem Qpq:Q6 Tryz.prog 137:=jcb Tryz.func137
theorem Qpd{l:List Cls}{t:Str}(hl:l.length≤1099511627776)(ht:t.length≤1099511627776):Ct Tryz.prog 137 [.lst false 6 (l.map eC),.str t] [] (.bool (Qp4 l t)) []:=by
 have hpl:=Qak t
 have hps:=Q9h t
 refine jbS Tryz.func137 29 fun X hX=> ?_
 refine jq [0,1] ?_
 refine Q0 [0,5] (jt 1 (k:=(jF (c:=(by apply Q69<;>first|assumption|omega|exact Nat.le_trans (hps.2 _ (List.getElem_mem _)) ht)) (a:=Q6e) (k:=jr)))) ?_
 refine Q5 (jq [0,5,6] ?_)
 refine Q9 (Qo (α:=Nat) [0,5,6] (fun i=>[(6,.int .i64 i)]) (fun i=>[]) (fun i=>i≤(Qg t).params.length∧((Qg t).params.drop i).all (Q88 l)=(Qg t).params.all (Q88 l)) (fun i=>(Qg t).params.length-i) (0) (fun i=>by simp;rfl) Z3 ?_ ?_)
 ·simp
 rintro i ⟨hi,hI⟩
 refine Q5 (jq [0,5,6,14] ?_)
 refine jd (fun h3=> ?_) (fun h3=> ?_)
 ·try simp at h3
  rw[Q5b h3] at hI
  refine Q3 (Q5 (Q9 (Q0 [0,5,6,24] (js hX 6 (by simp[h3];rfl) (jc [] (c:=(by apply Qaz<;>first|assumption|omega|exact Nat.le_trans (hps.2 _ (List.getElem_mem _)) ht)) (a:=Qb2) (k:=jr))) ?_)))
  refine jd (fun h5=> ?_) (fun h5=> ?_)
  ·try simp at h5
   refine jq [4] ?_
   refine Q4 (je (by simp[h3];rfl) ?_)
   simp[Qp4,←hI,h5]
  ·try simp at h5
   rw[h5,Bool.true_and] at hI
   refine Q3 (Qd (jh hX Z6) ?_)
   refine Qp (i+1) [0,5,6] (by simp[h3];try (simp (disch:=omega) only[Q7])) ?_ ?_
   ·exact ⟨by omega,hI⟩
   ·omega
 ·try simp at h3
  rw[List.drop_eq_nil_of_le h3] at hI
  refine Qr (Q0 [4] (js hX 3 (by simp[h3];rfl) (jc [] (c:=(by apply Qaz<;>first|assumption|omega|exact Nat.le_trans (hps.2 _ (List.getElem_mem _)) ht)) (a:=Qb2) (k:=jr))) ?_)
  refine Q4 (je (by simp[h3];rfl) ?_)
  simp[Qp4,←hI]
end Go.Proofs
namespace Go.Proofs
open Go Go.Ev
theorem Qo2:Q6 Tryz.prog 76:=jcb Tryz.func76
theorem Qnd{l:List Cls}{x:Cls}(hl:l.length≤1099511627776)(h:Q1n x≤1099511627776):Ct Tryz.prog 76 [.lst false 6 (l.map eC),eC x] [] (.bool (Qy3 l x)) []:=by
 simp only[Q1n] at h
 refine jbS Tryz.func76 39 fun X hX=> ?_
 refine jq [0,3] ?_
 refine Q5 (jq [0,3,5] ?_)
 refine Q9 (Qo (α:=Nat) [0,3,5] (fun i=>[(5,.int .i64 i)]) (fun i=>[]) (fun i=>i≤x.fields.length∧(x.fields.drop i).all (fun f=>Q88 l f.type)=x.fields.all (fun f=>Q88 l f.type)) (fun i=>x.fields.length-i) (0) (fun i=>by simp;rfl) Z3 ?_ ?_)
 ·simp
 rintro i ⟨hi,hI⟩
 refine Q5 (jq [0,3,5,11] ?_)
 refine jd (fun h2=> ?_) (fun h2=> ?_)
 ·try simp at h2
  rw[Q5b h2] at hI
  refine Q3 (Q5 (Q9 (Q0 [0,3,5,22] (js hX 7 Zy (jc [] (c:=(by apply Qaz<;>first|assumption|omega|(have:=Q3q (f:=Q89) (List.getElem_mem h2);simp only[Q89] at*;omega)|(have:=Q3q (f:=Q3t) (List.getElem_mem h7);simp only[Q3t] at*;omega))) (a:=Qb2) (k:=jr))) ?_)))
  refine jd (fun h4=> ?_) (fun h4=> ?_)
  ·try simp at h4
   refine jq [4] ?_
   refine Q4 (je Zy ?_)
   simp[Qy3,←hI,h4]
  ·try simp at h4
   rw[h4,Bool.true_and] at hI
   refine Q3 (Qd (jh hX Z6) ?_)
   refine Qp (i+1) [0,3,5] Z2a ?_ ?_
   ·exact ⟨by omega,hI⟩
   ·omega
 ·try simp at h2
  rw[List.drop_eq_nil_of_le h2] at hI
  refine Qr (Q5 (jq [0,3,6] ?_))
  refine Q9 (Qo (α:=Nat) [0,3,6] (fun i=>[(6,.int .i64 i)]) (fun i=>[]) (fun i=>i≤x.methods.length∧(x.methods.drop i).all (fun m=>Qp4 l m.desc)=x.methods.all (fun m=>Qp4 l m.desc)) (fun i=>x.methods.length-i) (0) (fun i=>by simp;rfl) Z3 ?_ ?_)
  ·simp
  rintro i ⟨hi2,hI2⟩
  refine Q5 (Q0 [0,3,6,27] (jh hX Zy) ?_)
  refine jd (fun h7=> ?_) (fun h7=> ?_)
  ·try simp at h7
   rw[Q5b h7] at hI2
   refine Q3 (Q5 (Q9 (Q0 [0,3,6,38] (js hX 7 (by simp[h2,h7];rfl) (jc [] (c:=(by apply Qpd<;>first|assumption|omega|(have:=Q3q (f:=Q89) (List.getElem_mem h2);simp only[Q89] at*;omega)|(have:=Q3q (f:=Q3t) (List.getElem_mem h7);simp only[Q3t] at*;omega))) (a:=Qpq) (k:=jr))) ?_)))
   refine jd (fun h9=> ?_) (fun h9=> ?_)
   ·try simp at h9
    refine jq [4] ?_
    refine Q4 (je (by simp[h2,h7];rfl) ?_)
    simp[Qy3,←hI2,h9]
   ·try simp at h9
    rw[h9,Bool.true_and] at hI2
    refine Q3 (Qd (jh hX Z6) ?_)
    refine Qp (i+1) [0,3,6] (by simp[h2,h7];try (simp (disch:=omega) only[Q7])) ?_ ?_
    ·exact ⟨by omega,hI2⟩
    ·omega
  ·try simp at h7
   rw[List.drop_eq_nil_of_le h7] at hI2
   refine Qr (jq [4] ?_)
   refine Q4 (je (by simp[h2,h7];rfl) ?_)
   simp[Qy3,←hI,←hI2]
end Go.Proofs
namespace Go.Proofs
open Go Go.Ev
theorem Q7c:Q6 Tryz.prog 138:=jcb Tryz.func138
theorem Q78{x:Cls}{n d:Str}(h:Q1n x≤1099511627776):Ct Tryz.prog 138 [eC x,.str n,.str d] [] (.int .i64 (Q1a n d x.methods 0)) []:=by
 simp only[Q1n] at h
 refine jbS Tryz.func138 34 fun X hX=> ?_
 refine jq [1,2,3] ?_
 refine Q5 (jq [1,2,3,7] ?_)
 refine Q9 (Qo (α:=Nat) [1,2,3,7] (fun i=>[(7,.int .i64 i)]) (fun i=>[]) (fun i=>i≤x.methods.length∧Q1a n d (x.methods.drop i) i=Q1a n d x.methods 0) (fun i=>x.methods.length-i) (0) (fun i=>by simp;rfl) Z3 ?_ ?_)
 ·simp
 rintro i ⟨hi,hI⟩
 refine Q5 (jq [1,2,3,7,12] ?_)
 refine jd (fun h2=> ?_) (fun h2=> ?_)
 ·try simp at h2
  rw[List.drop_eq_getElem_cons h2] at hI
  simp only[Q1a] at hI
  refine Q3 (Q5 (Q9 (Q0 [1,2,3,7,32] (js hX 9 Zy (jm 9 23 [1,2,3,7,32] (p:=by intro b;(try simp at b);exact (jh hX (by simp[-Qc,-Qb,h2];rfl))) (q:=Z1p) (k:=jf))) ?_)))
  refine jd (fun h4=> ?_) (fun h4=> ?_)
  ·try simp at h4
   refine jq [6] ?_
   refine Q4 (je Zy ?_)
   simp only[Qb h2] at h4
   rw[←hI,if_pos h4]
  ·try simp at h4
   simp only[Qb h2] at h4
   have h4c: ¬(x.methods[i].name=n∧x.methods[i].desc=d):=fun e=>h4 e.1 e.2
   refine Q3 (Qd (jh hX Z6) ?_)
   refine Qp (i+1) [1,2,3,7] Z2a ?_ ?_
   ·exact ⟨by omega,by rw[←hI,if_neg h4c]⟩
   ·omega
 ·try simp at h2
  refine Qr (jq [6] ?_)
  refine Q4 (je Zy ?_)
  simp[←hI,List.drop_eq_nil_of_le h2,Q1a]
end Go.Proofs
namespace Go.Proofs
open Go Go.Ev
theorem Qme:Q6 Tryz.prog 77:=jcb Tryz.func77
theorem Qlt{l:List Cls}{i:Nat}(hl:Q1r l≤1099511627776)(hi:i<l.length)(hu:Qk l[i].name l 0=i)(hEn: ∀j:Nat,j<l.length→Ql1 l (l.length+1) j):Ct Tryz.prog 77 [.lst false 6 (l.map eC),eC l[i]] [] (.bool (Que l i)) []:=by
 have hll:l.length≤1099511627776:=by unfold Q1r at hl;omega
 have hsz: ∀{k:Nat} (h:k<l.length),Q1n l[k]≤1099511627776:=fun h=>Nat.le_trans (Q4v h) hl
 have hE0:Ql1 l l.length (nxt l i):=by obtain ⟨g,h1,h2⟩:=Qmu (hEn i hi);rw[show l.length=g from by omega];exact h2
 refine jbS Tryz.func77 112 fun X hX=> ?_
 refine jq [0,3] ?_
 refine Q5 (Q0 [0,3,5] (jt 3 (k:=(jc [] (c:=Z1i) (a:=Q1j) (k:=jr)))) ?_)
 refine Q9 (Qo (α:=Nat×Int) [0,3,5] (fun a=>[(5,.int .i64 a.2)]) (fun a=>[]) (fun a=>Ql1 l a.1 a.2∧(-1≤a.2∧a.2<l.length)∧(∀u∈ups l a.1 a.2,u∈ups l (l.length+1) i)∧(ups l a.1 a.2).all (fun u=>(atL l u).methods.all (Q8m l l[i] i))=Que l i) (fun a=>a.1) ((l.length,nxt l i)) (fun a=>by simp;rfl) (by simp[Qbg,Qb hi]) ?_ ?_)
 ·exact ⟨hE0, @Qay l i,fun u h=>by rw[Qeg];exact List.mem_cons_of_mem _ h,by simp only[Que,Qb hi]⟩
 rintro ⟨f,up⟩ ⟨hE,hup,hS,hI⟩
 simp only at hE hup hS hI
 refine Q5 (jq [0,3,5,15] ?_)
 refine jd (fun h2=> ?_) (fun h2=> ?_)
 ·try simp at h2
  obtain ⟨p,rfl⟩: ∃k:Nat,up=k:=⟨up.toNat,by omega⟩
  have hp:p<l.length:=by omega
  obtain ⟨f,rfl,hE2⟩:=Qmu hE
  rw[Qeg] at hI
  simp only[List.all_cons,Qb hp] at hI
  have hml:l[p].methods.length≤1099511627776:=by have:=hsz hp;simp only[Q1n] at this;omega
  refine Q3 (Q5 (Q9 (jq [0,3,5,6] ?_)))
  refine Q9 (Qo (α:=Nat) [0,3,5,6] (fun j=>[(6,.int .i64 j)]) (fun j=>[]) (fun j=>j≤l[p].methods.length∧(l[p].methods.drop j).all (Q8m l l[i] i)=l[p].methods.all (Q8m l l[i] i)) (fun j=>l[p].methods.length-j) (0) (fun j=>by simp;rfl) Z3 ?_ ?_)
  ·simp
  rintro j ⟨hj,hJ⟩
  refine Q5 (Q0 [0,3,5,6,30] (jh hX (by simp[h2,hp];rfl)) ?_)
  refine jd (fun h5=> ?_) (fun h5=> ?_)
  ·try simp at h5
   rw[Q5b h5] at hJ
   refine Q3 (Q5 (Q9 (Q0 [0,3,5,6,7] (jh hX (by simp[h2,hp,h5];rfl)) ?_)))
   refine Q5 (Q0 [0,3,5,6,7,43] (jh hX (by simp[h2,hp,h5];rfl)) ?_)
   refine jd (fun h8=> ?_) (fun h8=> ?_)
   ·try simp at h8
    have hq8:Q8m l l[i] i l[p].methods[j]=true:=by simp[Q8m,h8,Qm]
    have hJ2:=hJ
    rw[hq8,Bool.true_and] at hJ2
    refine Qr (Qd (jh hX Z6) ?_)
    refine Q13 (j+1) [0,3,5,6] 1 (by simp[hX]) Z3 (by simp;try (simp (disch:=omega) only[Q7])) ?_ ?_
    ·exact ⟨by omega,hJ2⟩
    ·omega
   ·try simp at h8
    refine Q3 (Q0 [0,3,5,6,7,8] (js hX 5 (by simp[h2,hp,h5];rfl) (jc [] (c:=(by apply Q78<;>exact Z13)) (a:=Q7c) (k:=jr))) ?_)
    refine Q5 (jD [0,3,5,6,7,66] (jS 3 Z8 (jM 14 52 [0,3,5,6,7,66] (p:=fun b10_3=>by (try simp at b10_3);(have hk8:=Qep b10_3);exact (jS 3 (by simp[-Qc,-Qb,h2,hp,h5,b10_3,hk8,hi];rfl) (jM 10 55 [0,3,5,6,7,52,65] (p:=Z2e) (q:=by intro b;(try simp at b);exact (jQ (by simp[-Qc,-Qb,h2,hp,h5,b10_3,hk8,hi];rfl))) (k:=(jQ Z1))))) (q:=fun b10_3=>by (try simp at b10_3);exact (jQ Z1)) (k:=(Q17.fin Z23)))) ?_)
    refine jd (fun h10=> ?_) (fun h10=> ?_)
    ·try simp at h10
     have hq10:Q8m l l[i] i l[p].methods[j]=false:=by simp only[Q8m,decide_eq_false (show¬l[p].methods[j].name=Qm from h8)];simp;grind
     refine jq [4] ?_
     refine Q4 (je (by simp[h2,hp,h5,h10];rfl) ?_)
     rw[←hI,←hJ,hq10];simp
    ·try simp at h10
     have hq10:Q8m l l[i] i l[p].methods[j]= !(l[p].methods[j].abstr&& !l[i].abstr&&Qqz l l[p].methods[j].name l[p].methods[j].desc (l.length+1) i):=by simp only[Q8m,decide_eq_false (show¬l[p].methods[j].name=Qm from h8)];simp;grind
     refine Q3 (Q0 [0,3,5,6,7,73] (js hX 3 (by simp[h2,hp,h5,h10];rfl) (jm 4 69 [0,3,5,6,7,73] (p:=by intro b;(try simp at b);exact (jh hX (by simp[-Qc,-Qb,h2,hp,h5,h10];rfl))) (q:=Z1p) (k:=jf))) ?_)
     refine jd (fun h12=> ?_) (fun h12=> ?_)
     ·try simp at h12
      refine Q0 [0,3,5,6,7,9] (js hX 3 (by simp[h2,hp,h5,h10];rfl) (jc [] (c:=Z1i) (a:=Q1j) (k:=jr))) ?_
      refine Q5 (Q9 (Qo (α:=Nat×Int) [0,3,5,6,7,9] (fun a=>[(9,.int .i64 a.2)]) (fun a=>[]) (fun a=>Ql1 l a.1 a.2∧(0≤a.2∧a.2<l.length)∧Qqz l l[p].methods[j].name l[p].methods[j].desc a.1 a.2=Qqz l l[p].methods[j].name l[p].methods[j].desc (l.length+1) i∧ ∃u∈ups l a.1 a.2,0≤Q1a l[p].methods[j].name l[p].methods[j].desc (atL l u).methods 0) (fun a=>a.1) ((l.length+1,(i:Int))) (fun a=>by simp;rfl) (by simp[hu]) ?_ ?_))
      ·exact ⟨hEn i hi,by omega,rfl,p,hS p (by rw[Qeg];simp),by rw[Qb hp];exact Qwc h5⟩
      rintro ⟨g,q⟩ ⟨gE,gq,gN,gU⟩
      simp only at gE gq gN gU
      obtain ⟨q,rfl⟩: ∃k:Nat,q=k:=⟨q.toNat,by omega⟩
      have hq:q<l.length:=by omega
      obtain ⟨g,rfl,gE2⟩:=Qmu gE
      rw[Qw8,Qb hq] at gN
      rw[Qeg] at gU
      refine Q5 (jD [0,3,5,6,7,9,87] (jS 8 (by simp[h2,hp,h5,h10,hq];rfl) (jC (c:=by apply Q78<;>exact Z13) (a:=Q7c) (k:=(jQ Z8)))) ?_)
      refine jd (fun h14=> ?_) (fun h14=> ?_)
      ·try simp at h14
       rw[if_neg (by (try simp only[Qb hq] at h14);omega)] at gN
       have gU2: ∃u∈ups l g (nxt l q),0≤Q1a l[p].methods[j].name l[p].methods[j].desc (atL l u).methods 0:=by
        obtain ⟨u,h1,h2⟩:=gU
        rcases List.mem_cons.1 h1 with rfl|h1
        ·rw[Qb hq] at h2;(try simp only[Qb hq] at h14);omega
        ·exact ⟨u,h1,h2⟩
       have gP:0≤nxt l q:=by
        obtain ⟨u,h1,_⟩:=gU2
        rcases Int.lt_or_le (nxt l q) 0 with h|h
        ·cases g<;>simp[ups,h] at h1
        ·exact h
       refine Q3 (Q9 (Qd (js hX 6 (by simp[h2,hp,h5,h10,hq,h14];rfl) (jc [] (c:=Z1i) (a:=Q1j) (k:=jr))) ?_))
       refine Qp ((g,nxt l q)) [0,3,5,6,7,9] (by simp[Qbg,hq]) ?_ ?_
       ·exact ⟨gE2,⟨gP,(@Qay l q).2⟩,gN,gU2⟩
       ·simp
      ·try simp at h14
       have h14b:=Qep h14
       rw[if_pos h14,Qb h14b] at gN
       refine Qr (jD [0,3,5,6,111] (jS 13 (by simp[h2,hp,h5,h10,hq,h14,hq,h14b,h14];rfl) (jC (c:=by apply Q78<;>exact Z13) (a:=Q7c) (k:=(jQ (by simp[h2,hp,h5,h10,hq,h14,hq,h14b,h14];rfl))))) ?_)
       refine jd (fun h16=> ?_) (fun h16=> ?_)
       ·try simp at h16
        have hq16:Q8m l l[i] i l[p].methods[j]=false:=by rw[hq10,←gN,h16];grind
        refine jq [4] ?_
        refine Q4 (je (by simp[h2,hp,h5,h10,hq,h14,hq,h14b,h14];rfl) ?_)
        rw[←hI,←hJ,hq16];simp
       ·try simp at h16
        have hq16:Q8m l l[i] i l[p].methods[j]=true:=by rw[hq10,←gN,h16];simp
        have hJ2:=hJ
        rw[hq16,Bool.true_and] at hJ2
        refine Q3 (Qd (jh hX Z6) ?_)
        refine Q13 (j+1) [0,3,5,6] 1 (by simp[hX]) Z3 (by simp;try (simp (disch:=omega) only[Q7])) ?_ ?_
        ·exact ⟨by omega,hJ2⟩
        ·omega
     ·try simp at h12
      have hJ2:=hJ
      rw[hq10,show (l[p].methods[j].abstr&& !l[i].abstr)=false from by grind] at hJ2
      simp only[Bool.false_and,Bool.not_false,Bool.true_and] at hJ2
      refine Q3 (Qd (jh hX Z6) ?_)
      refine Q13 (j+1) [0,3,5,6] 1 (by simp[hX]) Z3 (by simp;try (simp (disch:=omega) only[Q7])) ?_ ?_
      ·exact ⟨by omega,hJ2⟩
      ·omega
  ·try simp at h5
   rw[List.drop_eq_nil_of_le h5] at hJ
   simp only[List.all_nil] at hJ
   rw[←hJ,Bool.true_and] at hI
   refine Qr (Qd (js hX 6 (by simp[h2,hp,h5];rfl) (jc [] (c:=Z1i) (a:=Q1j) (k:=jr))) ?_)
   refine Qp ((f,nxt l p)) [0,3,5] (by simp[Qbg,hp]) ?_ ?_
   ·exact ⟨hE2, @Qay l p,fun u h=>hS u (by rw[Qeg];exact List.mem_cons_of_mem _ h),hI⟩
   ·simp
 ·try simp at h2
  have hnil:ups l f up=[]:=by cases f<;>simp[ups,h2]
  rw[hnil] at hI
  refine Qr (jq [4] ?_)
  refine Q4 (je Zy ?_)
  simp[←hI]
end Go.Proofs
namespace Go.Proofs
open Go Go.Ev
theorem Qkm:Q6 Tryz.prog 27:=jcb Tryz.func27
theorem Qk3{l:List Cls}(hl:Q1r l≤1099511627776):Ct Tryz.prog 27 [.lst false 6 (l.map eC)] [] (.agg [.int .i64 (Q5r l).1,.int .i64 (Q5r l).2]) []:=by
 have hll:l.length≤1099511627776:=by unfold Q1r at hl;omega
 have hsz: ∀{k:Nat} (h:k<l.length),Q1n l[k]≤1099511627776:=fun h=>Nat.le_trans (Q4v h) hl
 refine jbS Tryz.func27 162 fun X hX=> ?_
 refine jq [0,2] ?_
 refine Q5 (jq [0,2,13] ?_)
 refine jd (fun h1=> ?_) (fun h1=> ?_)
 ·try simp at h1
  refine Q0 [2] (jh hX Zx) ?_
  refine Q4 (je Zx ?_)
  simp[Q5r,h1]
 ·try simp at h1
  refine Q3 (Q5 (Q0 [0,2,17] (jh hX Zx) ?_))
  refine jd (fun h3=> ?_) (fun h3=> ?_)
  ·try simp at h3
   refine Q0 [2] (jh hX (by simp[h1,h3];rfl)) ?_
   refine Q4 (je (by simp[h1,h3];rfl) ?_)
   have h1b: ¬400<l.length:=by omega
   simp[Q5r,h1b,h3]
  ·try simp at h3
   rw[show Q5r l=Q5o l from by unfold Q5r;rw[if_neg Za,if_neg Za]]
   refine Q3 (Q5 (jq [0,2,3] ?_))
   refine Q9 (Qo (α:=Nat) [0,2,3] (fun i=>[(3,.int .i64 i)]) (fun i=>[]) (fun i=>i≤l.length∧Q10 (Q64 l) (l.length-i) i=Q10 (Q64 l) l.length 0) (fun i=>l.length-i) (0) (fun i=>by simp;rfl) Z3 ?_ ?_)
   ·simp
   rintro i ⟨hi1,hI1⟩
   refine Q5 (Q0 [0,2,3,22] (jh hX (by simp[h1,h3];rfl)) ?_)
   refine jd (fun h6=> ?_) (fun h6=> ?_)
   ·try simp at h6
    rw[show l.length-i=(l.length-(i+1))+1 from by omega] at hI1
    simp only[Q10] at hI1
    refine Q3 (Q5 (Q9 (Q5 (Q0 [0,2,3,30] (js hX 4 (by simp[h1,h3,h6];rfl) (jc [] (c:=(by apply Qk4<;>exact Zd)) (a:=Qkn) (k:=jr))) ?_))))
    refine jd (fun h8=> ?_) (fun h8=> ?_)
    ·try simp at h8
     refine Q0 [2] (jh hX (by simp[h1,h3,h6];rfl)) ?_
     refine Q4 (je (by simp[h1,h3,h6];rfl) ?_)
     have hp:Q64 l i=1:=by simp[Q64,Qb h6,h8]
     rw[if_neg (by rw[hp];simp),hp] at hI1
     simp[Q5o,←hI1]
    ·try simp at h8
     refine Q3 (Q0 [0,2,3,50] (js hX 5 (by simp[h1,h3,h6];rfl) (jc [] (c:=Z1n) (a:=Q6d) (k:=(jt 2 (k:=(jm 10 40 [0,2,3,50] (p:=fun b10_8=>by (try simp at b10_8);exact (jh hX Z1)) (q:=fun b10_8=>by (try simp at b10_8);exact (js hX 6 (by simp[-Qc,-Qb,h1,h3,h6,b10_8];rfl) (Q8.call [] rfl Z3 rfl Z1 Z8 Zs Q1j Z3 Z3 Z1 (jh hX Z1)))) (k:=jf))))))) ?_)
     refine jd (fun h10=> ?_) (fun h10=> ?_)
     ·try simp at h10
      refine Q0 [2] (jh hX (by simp[h1,h3,h6,h10];rfl)) ?_
      refine Q4 (je (by simp[h1,h3,h6,h10];rfl) ?_)
      have hp:Q64 l i=7:=by simp only[Q64,Qb h6,h8,if_true];rw[if_pos (by simpa[Qb h6] using h10)]
      rw[if_neg (by rw[hp];simp),hp] at hI1
      simp[Q5o,←hI1]
     ·try simp at h10
      have hp:Q64 l i=0:=by simp only[Q64,Qb h6,h8,if_true];rw[if_neg (by simp[Qb h6] at h10⊢;omega)]
      rw[if_pos hp] at hI1
      have hJ:=hI1
      refine Q3 (Qd (jh hX Z6) ?_)
      refine Qp (i+1) [0,2,3] (by simp[h1,h3,h6,h10];try (simp (disch:=omega) only[Q7])) ?_ ?_
      ·exact ⟨by omega,hJ⟩
      ·omega
   ·try simp at h6
    rw[show l.length-i=0 from by omega] at hI1
    simp only[Q10] at hI1
    refine Qr (Q5 (jq [0,2,4] ?_))
    refine Q9 (Qo (α:=Nat) [0,2,4] (fun i=>[(4,.int .i64 i)]) (fun i=>[]) (fun i=>i≤l.length∧Q10 (Q9x l) (l.length-i) i=Q10 (Q9x l) l.length 0) (fun i=>l.length-i) (0) (fun i=>by simp;rfl) Z3 ?_ ?_)
    ·simp
    rintro i ⟨hi2,hI2⟩
    refine Q5 (Q0 [0,2,4,56] (jh hX (by simp[h1,h3,h6];rfl)) ?_)
    refine jd (fun h13=> ?_) (fun h13=> ?_)
    ·try simp at h13
     rw[show l.length-i=(l.length-(i+1))+1 from by omega] at hI2
     simp only[Q10] at hI2
     refine Q3 (Q5 (Q9 (Q0 [0,2,4,5] (js hX 6 (by simp[h1,h3,h6,h13];rfl) (jc [] (c:=Zs) (a:=Q1j) (k:=jr))) ?_)))
     refine Q5 (Q0 [0,2,4,5,73] (js hX 6 (by simp[h1,h3,h6,h13];rfl) (jc [] (c:=(by apply Q7p<;>exact Zd)) (a:=Qw) (k:=jr))) ?_)
     refine jd (fun h16=> ?_) (fun h16=> ?_)
     ·try simp at h16
      refine Q0 [2] (jh hX (by simp[h1,h3,h6,h13];rfl)) ?_
      refine Q4 (je (by simp[h1,h3,h6,h13];rfl) ?_)
      have hp:Q9x l i=8:=by simp[Q9x,Qb h13,h16]
      rw[if_neg (by rw[hp];simp),hp] at hI2
      simp[Q5o,←hI1,←hI2]
     ·try simp at h16
      refine Q3 (Q0 [0,2,4,93] (js hX 5 (by simp[h1,h3,h6,h13];rfl) (jc [] (c:=Z1n) (a:=Q6d) (k:=(jt 2 (k:=(jm 10 83 [0,2,4,93] (p:=fun b18_8=>by (try simp at b18_8);exact (jh hX Z1)) (q:=fun b18_8=>by (try simp at b18_8);exact (js hX 3 Z1 (jm 6 86 [0,2,4,83,92] (p:=fun b18_11=>by (try simp at b18_11);(have hfl:=Qh2 (l:=l) b18_11);exact (jh hX (by simp[-Qc,-Qb,h1,h3,h6,h13,b18_8,b18_11,hfl,b18_11];rfl))) (q:=fun b18_11=>by (try simp at b18_11);exact (jh hX Z1)) (k:=(jh hX Z1))))) (k:=jf))))))) ?_)
      refine jd (fun h18=> ?_) (fun h18=> ?_)
      ·try simp at h18
       refine Q0 [2] (jh hX (by simp[h1,h3,h6,h13,h18];rfl)) ?_
       refine Q4 (je (by simp[h1,h3,h6,h13,h18];rfl) ?_)
       have hp:Q9x l i=14:=by simp only[Q9x,Qb h13,h16,if_true];rw[if_pos (by simpa using h18)]
       rw[if_neg (by rw[hp];simp),hp] at hI2
       simp[Q5o,←hI1,←hI2]
      ·try simp at h18
       have hp:Q9x l i=0:=by simp only[Q9x,Qb h13,h16,if_true];rw[if_neg (by simp at h18⊢;exact h18)]
       rw[if_pos hp] at hI2
       have hJ:=hI2
       refine Q3 (Qd (jh hX Z6) ?_)
       refine Qp (i+1) [0,2,4] (by simp[h1,h3,h6,h13,h18];try (simp (disch:=omega) only[Q7])) ?_ ?_
       ·exact ⟨by omega,hJ⟩
       ·omega
    ·try simp at h13
     rw[show l.length-i=0 from by omega] at hI2
     simp only[Q10] at hI2
     refine Qr (Q5 (jq [0,2,6] ?_))
     refine Q9 (Qo (α:=Nat) [0,2,6] (fun i=>[(6,.int .i64 i)]) (fun i=>[]) (fun i=>i≤l.length∧Q10 (Qds l) (l.length-i) i=Q10 (Qds l) l.length 0) (fun i=>l.length-i) (0) (fun i=>by simp;rfl) Z3 ?_ ?_)
     ·simp
     rintro i ⟨hi3,hI3⟩
     refine Q5 (Q0 [0,2,6,99] (jh hX (by simp[h1,h3,h6,h13];rfl)) ?_)
     refine jd (fun h21=> ?_) (fun h21=> ?_)
     ·try simp at h21
      rw[show l.length-i=(l.length-(i+1))+1 from by omega] at hI3
      simp only[Q10] at hI3
      refine Q3 (Q5 (Q9 (Q0 [0,2,6,108] (js hX 5 (by simp[h1,h3,h6,h13,h21];rfl) (jc [] (c:=(by apply Qnd<;>exact Zd)) (a:=Qo2) (k:=jr))) ?_)))
      refine jd (fun h23=> ?_) (fun h23=> ?_)
      ·try simp at h23
       refine Q0 [2] (jh hX (by simp[h1,h3,h6,h13,h21];rfl)) ?_
       refine Q4 (je (by simp[h1,h3,h6,h13,h21];rfl) ?_)
       have hp:Qds l i=6:=by simp[Qds,Qb h21,h23]
       rw[if_neg (by rw[hp];simp),hp] at hI3
       simp[Q5o,←hI1,←hI2,←hI3]
      ·try simp at h23
       have hp:Qds l i=0:=by simp[Qds,Qb h21,h23]
       rw[if_pos hp] at hI3
       have hJ:=hI3
       refine Q3 (Qd (jh hX Z6) ?_)
       refine Qp (i+1) [0,2,6] (by simp[h1,h3,h6,h13,h21];try (simp (disch:=omega) only[Q7])) ?_ ?_
       ·exact ⟨by omega,hJ⟩
       ·omega
     ·try simp at h21
      rw[show l.length-i=0 from by omega] at hI3
      simp only[Q10] at hI3
      refine Qr (Q5 (jq [0,2,7] ?_))
      refine Q9 (Qo (α:=Nat) [0,2,7] (fun i=>[(7,.int .i64 i)]) (fun i=>[]) (fun i=>i≤l.length∧Q10 (Qb7 l) (l.length-i) i=Q10 (Qb7 l) l.length 0) (fun i=>l.length-i) (0) (fun i=>by simp;rfl) Z3 ?_ ?_)
      ·simp
      rintro i ⟨hi4,hI4⟩
      refine Q5 (Q0 [0,2,7,114] (jh hX (by simp[h1,h3,h6,h13,h21];rfl)) ?_)
      refine jd (fun h26=> ?_) (fun h26=> ?_)
      ·try simp at h26
       rw[show l.length-i=(l.length-(i+1))+1 from by omega] at hI4
       simp only[Q10] at hI4
       refine Q3 (Q5 (Q9 (Q0 [0,2,7,8] (js hX 6 (by simp[h1,h3,h6,h13,h21,h26];rfl) (jc [] (c:=Zs) (a:=Q1j) (k:=jr))) ?_)))
       refine jq [0,2,7,8,9] ?_
       refine Q9 (Qo (α:=Nat×Int) [0,2,7,8,9] (fun a=>[(8,.int .i64 a.2),(9,.int .i64 a.1)]) (fun a=>[]) (fun a=>a.1≤l.length+1∧(-1≤a.2∧a.2<l.length)∧Qpc l i (l.length+1-a.1) a.2=cyc l i) (fun a=>l.length+1-a.1) ((0,nxt l i)) (fun a=>by simp;rfl) (by simp[Qbg,Qb h26]) ?_ ?_)
       ·exact ⟨by simp, @Qay l i,rfl⟩
       rintro ⟨s,up⟩ ⟨hs,hup,hC⟩
       simp only at hs hup hC
       refine Q5 (Q0 [0,2,7,8,9,131] (js hX 5 (by simp[h1,h3,h6,h13,h21,h26];rfl) (jm 3 128 [0,2,7,8,9,131] (p:=Z1p) (q:=Z1p) (k:=jf))) ?_)
       refine jd (fun h30=> ?_) (fun h30=> ?_)
       ·try simp at h30
        obtain ⟨p,rfl⟩: ∃k:Nat,up=k:=⟨up.toNat,by omega⟩
        have h30q:p<l.length:=by omega
        rw[show l.length+1-s=(l.length+1-(s+1))+1 from by omega] at hC
        simp only[Qpc] at hC
        rw[if_neg Za] at hC
        refine Q3 (Q5 (Q9 (Q5 (jq [0,2,7,8,9,136] ?_))))
        refine jd (fun h32=> ?_) (fun h32=> ?_)
        ·try simp at h32
         refine Q0 [2] (jh hX (by simp[h1,h3,h6,h13,h21,h26,h30,h30q];rfl)) ?_
         refine Q4 (je (by simp[h1,h3,h6,h13,h21,h26,h30,h30q];rfl) ?_)
         rw[if_pos (by simpa using h32)] at hC
         have hp:Qb7 l i=9:=by simp[Qb7,←hC]
         rw[if_neg (by rw[hp];simp),hp] at hI4
         simp[Q5o,←hI1,←hI2,←hI3,←hI4]
        ·try simp at h32
         rw[if_neg (by simpa using h32)] at hC
         refine Q3 (Qd (js hX 6 (by simp[h1,h3,h6,h13,h21,h26,h30,h30q];rfl) (jc [] (c:=Zs) (a:=Q1j) (k:=jr))) ?_)
         refine Qd (jh hX Z6) ?_
         refine Qp ((s+1,nxt l p)) [0,2,7,8,9] (by simp[Qbg,h30q];(try (simp (disch:=omega) only[Q7]))) ?_ ?_
         ·exact ⟨by omega, @Qay l p,hC⟩
         ·simp;omega
       ·try simp at h30
        have hcy:cyc l i=false:=by
         rw[←hC]
         rcases Nat.lt_or_ge s (l.length+1) with h|h
         ·rw[show l.length+1-s=(l.length-s)+1 from by omega,Qpc,if_pos Za]
         ·rw[show l.length+1-s=0 from by omega,Qpc]
        have hp:Qb7 l i=0:=by simp[Qb7,hcy]
        rw[if_pos hp] at hI4
        have hJ:=hI4
        refine Qr (Qd (jh hX Z6) ?_)
        refine Qp (i+1) [0,2,7] (by simp[h1,h3,h6,h13,h21,h26,h30];try (simp (disch:=omega) only[Q7])) ?_ ?_
        ·exact ⟨by omega,hJ⟩
        ·omega
      ·try simp at h26
       rw[show l.length-i=0 from by omega] at hI4
       simp only[Q10] at hI4
       have hu: ∀{j:Nat} (h:j<l.length),Qk l[j].name l 0=j:=fun h=>Q4f h (Q3n hI1.symm _ (Nat.zero_le _) Za)
       have hEn: ∀j:Nat,j<l.length→Ql1 l (l.length+1) j:=fun j h=>Qad (fun k hk=>by have:=Q3n hI4.symm k (Nat.zero_le _) Za;simp only[Qb7] at this;split at this<;>simp_all) h
       refine Qr (Q5 (jq [0,2,10] ?_))
       refine Q9 (Qo (α:=Nat) [0,2,10] (fun i=>[(10,.int .i64 i)]) (fun i=>[]) (fun i=>i≤l.length∧Q10 (Qdr l) (l.length-i) i=Q10 (Qdr l) l.length 0) (fun i=>l.length-i) (0) (fun i=>by simp;rfl) Z3 ?_ ?_)
       ·simp
       rintro i ⟨hi5,hI5⟩
       refine Q5 (Q0 [0,2,10,149] (jh hX (by simp[h1,h3,h6,h13,h21,h26];rfl)) ?_)
       refine jd (fun h36=> ?_) (fun h36=> ?_)
       ·try simp at h36
        rw[show l.length-i=(l.length-(i+1))+1 from by omega] at hI5
        simp only[Q10] at hI5
        have hu36:=hu h36
        refine Q3 (Q5 (Q9 (Q0 [0,2,10,158] (js hX 5 (by simp[h1,h3,h6,h13,h21,h26,h36];rfl) (jc [] (c:=(by apply Qlt<;>exact Zd)) (a:=Qme) (k:=jr))) ?_)))
        refine jd (fun h38=> ?_) (fun h38=> ?_)
        ·try simp at h38
         refine Q0 [2] (jh hX (by simp[h1,h3,h6,h13,h21,h26,h36];rfl)) ?_
         refine Q4 (je (by simp[h1,h3,h6,h13,h21,h26,h36];rfl) ?_)
         have hp:Qdr l i=14:=by simp[Qdr,h38]
         rw[if_neg (by rw[hp];simp),hp] at hI5
         simp[Q5o,←hI1,←hI2,←hI3,←hI4,←hI5]
        ·try simp at h38
         have hp:Qdr l i=0:=by simp[Qdr,h38]
         rw[if_pos hp] at hI5
         have hJ:=hI5
         refine Q3 (Qd (jh hX Z6) ?_)
         refine Qp (i+1) [0,2,10] (by simp[h1,h3,h6,h13,h21,h26,h36];try (simp (disch:=omega) only[Q7])) ?_ ?_
         ·exact ⟨by omega,hJ⟩
         ·omega
       ·try simp at h36
        rw[show l.length-i=0 from by omega] at hI5
        simp only[Q10] at hI5
        refine Qr (Q0 [2] (jh hX (by simp[h1,h3,h6,h13,h21,h26,h36];rfl)) ?_)
        refine Q4 (je (by simp[h1,h3,h6,h13,h21,h26,h36];rfl) ?_)
        simp[Q5o,←hI1,←hI2,←hI3,←hI4,←hI5]
end Go.Proofs
namespace Go.Proofs
open Go Go.Ev
theorem Qo4:Q6 Tryz.prog 88:=jcb Tryz.func88
theorem Qnf{l:List Cls}(hl:Q1r l≤1099511627776):Ct Tryz.prog 88 [.lst false 6 (l.map eC)] [] (.bool (Qx l)) []:=by
 refine jbS Tryz.func88 7 fun X hX=> ?_
 refine jq [0] ?_
 refine Q0 [2] (jt 1 (k:=(jc [] (c:=(by apply Qk3<;>exact Z4)) (a:=Qkm) (k:=jr)))) ?_
 refine Q4 (je0 ?_)
 simp[Qx]
end Go.Proofs
namespace Go.Proofs
open Go Go.Ev
theorem Qe8:Q6 Tryz.prog 222:=jcb Tryz.func222
theorem Qe0{l:List Cls}{t:Typ}(hl:l.length≤1099511627776):Ct Tryz.prog 222 [.lst false 6 (l.map eC),eT t] [] (.bool (Q16 l t)) []:=by
 refine jbS Tryz.func222 49 fun X hX=> ?_
 refine jq [0,3] ?_
 refine Q5 (jq [0,3,6] ?_)
 refine Q9 (Q5 (jq [0,3,6,7] ?_))
 refine jd (fun h2=> ?_) (fun h2=> ?_)
 ·try simp at h2
  refine Q3 (jd (fun h2_1=> ?_) (fun h2_1=> ?_))
  ·try simp at h2_1
   refine Q0 [4] (jt 4 (k:=(jm 4 16 [20] (p:=Z1p) (q:=Z1p) (k:=jr)))) ?_
   refine Q4 (je0 ?_)
   simp only[Q16]
   (try simp_all)<;>grind
  ·try simp at h2_1
   refine Q5 (jq [0,3,6,21] ?_)
   refine jd (fun h8=> ?_) (fun h8=> ?_)
   ·try simp at h8
    refine Q3 (jd (fun h8_1=> ?_) (fun h8_1=> ?_))
    ·try simp at h8_1
     refine Q0 [4] (jt 3 (k:=(jc [] (c:=Zu) (a:=Qw) (k:=(jt 1 (k:=(jm 4 28 [32] (p:=Z1p) (q:=Z1p) (k:=jr)))))))) ?_
     refine Q4 (je0 ?_)
     simp only[Q16]
     (try simp_all)<;>grind
    ·try simp at h8_1
     refine jq [0,3,33] ?_
     refine jd (fun h11=> ?_) (fun h11=> ?_)
     ·try simp at h11
      refine Q0 [4] (jt 3 (k:=(jc [] (c:=Zu) (a:=Qw) (k:=(jt 1 (k:=(jm 4 39 [3,43] (p:=Z1p) (q:=Z1p) (k:=(jt 1 (k:=(jm 4 44 [48] (p:=fun b12_10=>by (try simp at b12_10);exact (jh hX (by simp[-Qc,-Qb,b12_10];rfl))) (q:=fun b12_10=>by (try simp at b12_10);exact (jh hX Z1)) (k:=jr)))))))))))) ?_
      refine Q4 (je0 ?_)
      simp only[Q16]
      (try simp_all)<;>grind
     ·try simp at h11
      refine Q3 (jq [4] ?_)
      refine Q4 (je0 ?_)
      simp only[Q16]
      (try simp_all)<;>grind
   ·try simp at h8
    refine Qd jr ?_
    refine jd (fun h9=> ?_) (fun h9=> ?_)
    ·try simp at h9
     refine Q0 [4] (jt 3 (k:=(jc [] (c:=Zu) (a:=Qw) (k:=(jt 1 (k:=(jm 4 28 [32] (p:=Z1p) (q:=Z1p) (k:=jr)))))))) ?_
     refine Q4 (je0 ?_)
     simp only[Q16]
     (try simp_all)<;>grind
    ·try simp at h9
     refine jq [0,3,33] ?_
     refine jd (fun h11=> ?_) (fun h11=> ?_)
     ·try simp at h11
      refine Q0 [4] (jt 3 (k:=(jc [] (c:=Zu) (a:=Qw) (k:=(jt 1 (k:=(jm 4 39 [3,43] (p:=Z1p) (q:=Z1p) (k:=(jt 1 (k:=(jm 4 44 [48] (p:=fun b12_10=>by (try simp at b12_10);exact (jh hX (by simp[-Qc,-Qb,b12_10];rfl))) (q:=fun b12_10=>by (try simp at b12_10);exact (jh hX Z1)) (k:=jr)))))))))))) ?_
      refine Q4 (je0 ?_)
      simp only[Q16]
      (try simp_all)<;>grind
     ·try simp at h11
      refine Q3 (jq [4] ?_)
      refine Q4 (je0 ?_)
      simp only[Q16]
      (try simp_all)<;>grind
 ·try simp at h2
  refine jq [0,3,6,7] ?_
  refine jd (fun h3=> ?_) (fun h3=> ?_)
  ·try simp at h3
   refine Q3 (jd (fun h3_1=> ?_) (fun h3_1=> ?_))
   ·try simp at h3_1
    refine Q0 [4] (jt 4 (k:=(jm 4 16 [20] (p:=Z1p) (q:=Z1p) (k:=jr)))) ?_
    refine Q4 (je0 ?_)
    simp only[Q16]
    (try simp_all)<;>grind
   ·try simp at h3_1
    refine Q5 (jq [0,3,6,21] ?_)
    refine jd (fun h8=> ?_) (fun h8=> ?_)
    ·try simp at h8
     refine Q3 (jd (fun h8_1=> ?_) (fun h8_1=> ?_))
     ·try simp at h8_1
      refine Q0 [4] (jt 3 (k:=(jc [] (c:=Zu) (a:=Qw) (k:=(jt 1 (k:=(jm 4 28 [32] (p:=Z1p) (q:=Z1p) (k:=jr)))))))) ?_
      refine Q4 (je0 ?_)
      simp only[Q16]
      (try simp_all)<;>grind
     ·try simp at h8_1
      refine jq [0,3,33] ?_
      refine jd (fun h11=> ?_) (fun h11=> ?_)
      ·try simp at h11
       refine Q0 [4] (jt 3 (k:=(jc [] (c:=Zu) (a:=Qw) (k:=(jt 1 (k:=(jm 4 39 [3,43] (p:=Z1p) (q:=Z1p) (k:=(jt 1 (k:=(jm 4 44 [48] (p:=fun b12_10=>by (try simp at b12_10);exact (jh hX (by simp[-Qc,-Qb,b12_10];rfl))) (q:=fun b12_10=>by (try simp at b12_10);exact (jh hX Z1)) (k:=jr)))))))))))) ?_
       refine Q4 (je0 ?_)
       simp only[Q16]
       (try simp_all)<;>grind
      ·try simp at h11
       refine Q3 (jq [4] ?_)
       refine Q4 (je0 ?_)
       simp only[Q16]
       (try simp_all)<;>grind
    ·try simp at h8
     refine Qd jr ?_
     refine jd (fun h9=> ?_) (fun h9=> ?_)
     ·try simp at h9
      refine Q0 [4] (jt 3 (k:=(jc [] (c:=Zu) (a:=Qw) (k:=(jt 1 (k:=(jm 4 28 [32] (p:=Z1p) (q:=Z1p) (k:=jr)))))))) ?_
      refine Q4 (je0 ?_)
      simp only[Q16]
      (try simp_all)<;>grind
     ·try simp at h9
      refine jq [0,3,33] ?_
      refine jd (fun h11=> ?_) (fun h11=> ?_)
      ·try simp at h11
       refine Q0 [4] (jt 3 (k:=(jc [] (c:=Zu) (a:=Qw) (k:=(jt 1 (k:=(jm 4 39 [3,43] (p:=Z1p) (q:=Z1p) (k:=(jt 1 (k:=(jm 4 44 [48] (p:=fun b12_10=>by (try simp at b12_10);exact (jh hX (by simp[-Qc,-Qb,b12_10];rfl))) (q:=fun b12_10=>by (try simp at b12_10);exact (jh hX Z1)) (k:=jr)))))))))))) ?_
       refine Q4 (je0 ?_)
       simp only[Q16]
       (try simp_all)<;>grind
      ·try simp at h11
       refine Q3 (jq [4] ?_)
       refine Q4 (je0 ?_)
       simp only[Q16]
       (try simp_all)<;>grind
  ·try simp at h3
   refine jq [0,3,6,7] ?_
   refine jd (fun h4=> ?_) (fun h4=> ?_)
   ·try simp at h4
    refine Q3 (jd (fun h4_1=> ?_) (fun h4_1=> ?_))
    ·try simp at h4_1
     refine Q0 [4] (jt 4 (k:=(jm 4 16 [20] (p:=Z1p) (q:=Z1p) (k:=jr)))) ?_
     refine Q4 (je0 ?_)
     simp only[Q16]
     (try simp_all)<;>grind
    ·try simp at h4_1
     refine Q5 (jq [0,3,6,21] ?_)
     refine jd (fun h8=> ?_) (fun h8=> ?_)
     ·try simp at h8
      refine Q3 (jd (fun h8_1=> ?_) (fun h8_1=> ?_))
      ·try simp at h8_1
       refine Q0 [4] (jt 3 (k:=(jc [] (c:=Zu) (a:=Qw) (k:=(jt 1 (k:=(jm 4 28 [32] (p:=Z1p) (q:=Z1p) (k:=jr)))))))) ?_
       refine Q4 (je0 ?_)
       simp only[Q16]
       (try simp_all)<;>grind
      ·try simp at h8_1
       refine jq [0,3,33] ?_
       refine jd (fun h11=> ?_) (fun h11=> ?_)
       ·try simp at h11
        refine Q0 [4] (jt 3 (k:=(jc [] (c:=Zu) (a:=Qw) (k:=(jt 1 (k:=(jm 4 39 [3,43] (p:=Z1p) (q:=Z1p) (k:=(jt 1 (k:=(jm 4 44 [48] (p:=fun b12_10=>by (try simp at b12_10);exact (jh hX (by simp[-Qc,-Qb,b12_10];rfl))) (q:=fun b12_10=>by (try simp at b12_10);exact (jh hX Z1)) (k:=jr)))))))))))) ?_
        refine Q4 (je0 ?_)
        simp only[Q16]
        (try simp_all)<;>grind
       ·try simp at h11
        refine Q3 (jq [4] ?_)
        refine Q4 (je0 ?_)
        simp only[Q16]
        (try simp_all)<;>grind
     ·try simp at h8
      refine Qd jr ?_
      refine jd (fun h9=> ?_) (fun h9=> ?_)
      ·try simp at h9
       refine Q0 [4] (jt 3 (k:=(jc [] (c:=Zu) (a:=Qw) (k:=(jt 1 (k:=(jm 4 28 [32] (p:=Z1p) (q:=Z1p) (k:=jr)))))))) ?_
       refine Q4 (je0 ?_)
       simp only[Q16]
       (try simp_all)<;>grind
      ·try simp at h9
       refine jq [0,3,33] ?_
       refine jd (fun h11=> ?_) (fun h11=> ?_)
       ·try simp at h11
        refine Q0 [4] (jt 3 (k:=(jc [] (c:=Zu) (a:=Qw) (k:=(jt 1 (k:=(jm 4 39 [3,43] (p:=Z1p) (q:=Z1p) (k:=(jt 1 (k:=(jm 4 44 [48] (p:=fun b12_10=>by (try simp at b12_10);exact (jh hX (by simp[-Qc,-Qb,b12_10];rfl))) (q:=fun b12_10=>by (try simp at b12_10);exact (jh hX Z1)) (k:=jr)))))))))))) ?_
        refine Q4 (je0 ?_)
        simp only[Q16]
        (try simp_all)<;>grind
       ·try simp at h11
        refine Q3 (jq [4] ?_)
        refine Q4 (je0 ?_)
        simp only[Q16]
        (try simp_all)<;>grind
   ·try simp at h4
    refine jq [0,3,6,7] ?_
    refine jd (fun h5=> ?_) (fun h5=> ?_)
    ·try simp at h5
     refine Q3 (jd (fun h5_1=> ?_) (fun h5_1=> ?_))
     ·try simp at h5_1
      refine Q0 [4] (jt 4 (k:=(jm 4 16 [20] (p:=Z1p) (q:=Z1p) (k:=jr)))) ?_
      refine Q4 (je0 ?_)
      simp only[Q16]
      (try simp_all)<;>grind
     ·try simp at h5_1
      refine Q5 (jq [0,3,6,21] ?_)
      refine jd (fun h8=> ?_) (fun h8=> ?_)
      ·try simp at h8
       refine Q3 (jd (fun h8_1=> ?_) (fun h8_1=> ?_))
       ·try simp at h8_1
        refine Q0 [4] (jt 3 (k:=(jc [] (c:=Zu) (a:=Qw) (k:=(jt 1 (k:=(jm 4 28 [32] (p:=Z1p) (q:=Z1p) (k:=jr)))))))) ?_
        refine Q4 (je0 ?_)
        simp only[Q16]
        (try simp_all)<;>grind
       ·try simp at h8_1
        refine jq [0,3,33] ?_
        refine jd (fun h11=> ?_) (fun h11=> ?_)
        ·try simp at h11
         refine Q0 [4] (jt 3 (k:=(jc [] (c:=Zu) (a:=Qw) (k:=(jt 1 (k:=(jm 4 39 [3,43] (p:=Z1p) (q:=Z1p) (k:=(jt 1 (k:=(jm 4 44 [48] (p:=fun b12_10=>by (try simp at b12_10);exact (jh hX (by simp[-Qc,-Qb,b12_10];rfl))) (q:=fun b12_10=>by (try simp at b12_10);exact (jh hX Z1)) (k:=jr)))))))))))) ?_
         refine Q4 (je0 ?_)
         simp only[Q16]
         (try simp_all)<;>grind
        ·try simp at h11
         refine Q3 (jq [4] ?_)
         refine Q4 (je0 ?_)
         simp only[Q16]
         (try simp_all)<;>grind
      ·try simp at h8
       refine Qd jr ?_
       refine jd (fun h9=> ?_) (fun h9=> ?_)
       ·try simp at h9
        refine Q0 [4] (jt 3 (k:=(jc [] (c:=Zu) (a:=Qw) (k:=(jt 1 (k:=(jm 4 28 [32] (p:=Z1p) (q:=Z1p) (k:=jr)))))))) ?_
        refine Q4 (je0 ?_)
        simp only[Q16]
        (try simp_all)<;>grind
       ·try simp at h9
        refine jq [0,3,33] ?_
        refine jd (fun h11=> ?_) (fun h11=> ?_)
        ·try simp at h11
         refine Q0 [4] (jt 3 (k:=(jc [] (c:=Zu) (a:=Qw) (k:=(jt 1 (k:=(jm 4 39 [3,43] (p:=Z1p) (q:=Z1p) (k:=(jt 1 (k:=(jm 4 44 [48] (p:=fun b12_10=>by (try simp at b12_10);exact (jh hX (by simp[-Qc,-Qb,b12_10];rfl))) (q:=fun b12_10=>by (try simp at b12_10);exact (jh hX Z1)) (k:=jr)))))))))))) ?_
         refine Q4 (je0 ?_)
         simp only[Q16]
         (try simp_all)<;>grind
        ·try simp at h11
         refine Q3 (jq [4] ?_)
         refine Q4 (je0 ?_)
         simp only[Q16]
         (try simp_all)<;>grind
    ·try simp at h5
     refine Qd jr ?_
     refine jd (fun h6=> ?_) (fun h6=> ?_)
     ·try simp at h6
      refine Q0 [4] (jt 4 (k:=(jm 4 16 [20] (p:=Z1p) (q:=Z1p) (k:=jr)))) ?_
      refine Q4 (je0 ?_)
      simp only[Q16]
      (try simp_all)<;>grind
     ·try simp at h6
      refine Q5 (jq [0,3,6,21] ?_)
      refine jd (fun h8=> ?_) (fun h8=> ?_)
      ·try simp at h8
       refine Q3 (jd (fun h8_1=> ?_) (fun h8_1=> ?_))
       ·try simp at h8_1
        refine Q0 [4] (jt 3 (k:=(jc [] (c:=Zu) (a:=Qw) (k:=(jt 1 (k:=(jm 4 28 [32] (p:=Z1p) (q:=Z1p) (k:=jr)))))))) ?_
        refine Q4 (je0 ?_)
        simp only[Q16]
        (try simp_all)<;>grind
       ·try simp at h8_1
        refine jq [0,3,33] ?_
        refine jd (fun h11=> ?_) (fun h11=> ?_)
        ·try simp at h11
         refine Q0 [4] (jt 3 (k:=(jc [] (c:=Zu) (a:=Qw) (k:=(jt 1 (k:=(jm 4 39 [3,43] (p:=Z1p) (q:=Z1p) (k:=(jt 1 (k:=(jm 4 44 [48] (p:=fun b12_10=>by (try simp at b12_10);exact (jh hX (by simp[-Qc,-Qb,b12_10];rfl))) (q:=fun b12_10=>by (try simp at b12_10);exact (jh hX Z1)) (k:=jr)))))))))))) ?_
         refine Q4 (je0 ?_)
         simp only[Q16]
         (try simp_all)<;>grind
        ·try simp at h11
         refine Q3 (jq [4] ?_)
         refine Q4 (je0 ?_)
         simp only[Q16]
         (try simp_all)<;>grind
      ·try simp at h8
       refine Qd jr ?_
       refine jd (fun h9=> ?_) (fun h9=> ?_)
       ·try simp at h9
        refine Q0 [4] (jt 3 (k:=(jc [] (c:=Zu) (a:=Qw) (k:=(jt 1 (k:=(jm 4 28 [32] (p:=Z1p) (q:=Z1p) (k:=jr)))))))) ?_
        refine Q4 (je0 ?_)
        simp only[Q16]
        (try simp_all)<;>grind
       ·try simp at h9
        refine jq [0,3,33] ?_
        refine jd (fun h11=> ?_) (fun h11=> ?_)
        ·try simp at h11
         refine Q0 [4] (jt 3 (k:=(jc [] (c:=Zu) (a:=Qw) (k:=(jt 1 (k:=(jm 4 39 [3,43] (p:=Z1p) (q:=Z1p) (k:=(jt 1 (k:=(jm 4 44 [48] (p:=fun b12_10=>by (try simp at b12_10);exact (jh hX (by simp[-Qc,-Qb,b12_10];rfl))) (q:=fun b12_10=>by (try simp at b12_10);exact (jh hX Z1)) (k:=jr)))))))))))) ?_
         refine Q4 (je0 ?_)
         simp only[Q16]
         (try simp_all)<;>grind
        ·try simp at h11
         refine Q3 (jq [4] ?_)
         refine Q4 (je0 ?_)
         simp only[Q16]
         (try simp_all)<;>grind
end Go.Proofs
namespace Go.Proofs
open Go Go.Ev
theorem Qo1:Q6 Tryz.prog 153:=jcb Tryz.func153
theorem Qnc{l:List Cls}{f:Frm}(hl:l.length≤1099511627776):Ct Tryz.prog 153 [.lst false 6 (l.map eC),eFr f] [] (.bool (Qev l f)) []:=by
 refine jbS Tryz.func153 47 fun X hX=> ?_
 refine jq [0,3] ?_
 refine Q5 (Q0 [0,3,16] (jt 5 (k:=(jm 5 11 [0,3,16] (p:=fun b1_5=>by (try simp at b1_5);exact (jh hX Z1)) (q:=fun b1_5=>by (try simp at b1_5);exact (jh hX (by simp[-Qc,-Qb,b1_5];rfl))) (k:=jf)))) ?_)
 refine jd (fun h1=> ?_) (fun h1=> ?_)
 ·try simp at h1
  refine jq [4] ?_
  refine Q4 (je Zx ?_)
  unfold Qev;grind
 ·try simp at h1
  refine Q3 (Q5 (jq [0,3,5] ?_))
  refine Q9 (Qo (α:=Nat) [0,3,5] (fun i=>[(5,.int .i64 i)]) (fun i=>[]) (fun i=>i≤f.stack.length∧(f.stack.drop i).all (Q16 l)=f.stack.all (Q16 l)) (fun i=>f.stack.length-i) (0) (fun i=>by simp;rfl) Z3 ?_ ?_)
  ·simp
  rintro i ⟨hi,hI⟩
  refine Q5 (Q0 [0,3,5,21] (jh hX Zx) ?_)
  refine jd (fun h4=> ?_) (fun h4=> ?_)
  ·try simp at h4
   rw[Q5b h4] at hI
   refine Q3 (Q5 (Q9 (Q0 [0,3,5,31] (js hX 6 (by simp[h1,h4];rfl) (jc [] (c:=(by apply Qe0<;>exact Z4)) (a:=Qe8) (k:=jr))) ?_)))
   refine jd (fun h6=> ?_) (fun h6=> ?_)
   ·try simp at h6
    refine jq [4] ?_
    refine Q4 (je (by simp[h1,h4];rfl) ?_)
    unfold Qev;rw[←hI,h6];simp
   ·try simp at h6
    rw[h6,Bool.true_and] at hI
    refine Q3 (Qd (jh hX Z6) ?_)
    refine Qp (i+1) [0,3,5] (by simp[h1,h4];try (simp (disch:=omega) only[Q7])) ?_ ?_
    ·exact ⟨by omega,hI⟩
    ·omega
  ·try simp at h4
   rw[List.drop_eq_nil_of_le h4] at hI
   refine Qr (Q5 (jq [0,3,6] ?_))
   refine Q9 (Qo (α:=Nat) [0,3,6] (fun i=>[(6,.int .i64 i)]) (fun i=>[]) (fun i=>i≤f.locals.length∧(f.locals.drop i).all (Q16 l)=f.locals.all (Q16 l)) (fun i=>f.locals.length-i) (0) (fun i=>by simp;rfl) Z3 ?_ ?_)
   ·simp
   rintro i ⟨hj,hJ⟩
   refine Q5 (Q0 [0,3,6,36] (jh hX (by simp[h1,h4];rfl)) ?_)
   refine jd (fun h9=> ?_) (fun h9=> ?_)
   ·try simp at h9
    rw[Q5b h9] at hJ
    refine Q3 (Q5 (Q9 (Q0 [0,3,6,46] (js hX 6 (by simp[h1,h4,h9];rfl) (jc [] (c:=(by apply Qe0<;>exact Z4)) (a:=Qe8) (k:=jr))) ?_)))
    refine jd (fun h11=> ?_) (fun h11=> ?_)
    ·try simp at h11
     refine jq [4] ?_
     refine Q4 (je (by simp[h1,h4,h9];rfl) ?_)
     unfold Qev;rw[←hJ,h11];simp
    ·try simp at h11
     rw[h11,Bool.true_and] at hJ
     refine Q3 (Qd (jh hX Z6) ?_)
     refine Qp (i+1) [0,3,6] (by simp[h1,h4,h9];try (simp (disch:=omega) only[Q7])) ?_ ?_
     ·exact ⟨by omega,hJ⟩
     ·omega
   ·try simp at h9
    rw[List.drop_eq_nil_of_le h9] at hJ
    refine Qr (jq [4] ?_)
    refine Q4 (je (by simp[h1,h4,h9];rfl) ?_)
    unfold Qev;rw[←hI,←hJ];grind
end Go.Proofs
namespace Go.Proofs
open Go Go.Ev
theorem Qcc:Q6 Tryz.prog 107:=jcb Tryz.func107
theorem Qc6{l:List Cls}{f:Frm}(hl:Q1r l≤1099511627776):Ct Tryz.prog 107 [.lst false 6 (l.map eC),eFr f] [] (.bool (Q8u l f)) []:=by
 have hll:l.length≤1099511627776:=by unfold Q1r at hl;omega
 refine jbS Tryz.func107 12 fun X hX=> ?_
 refine jq [0,3] ?_
 refine Q0 [4] (jt 1 (k:=(jc [] (c:=(by apply Qnf<;>exact Z4)) (a:=Qo4) (k:=(jt 1 (k:=(jm 4 7 [11] (p:=by intro b;(try simp at b);exact (js hX 2 Z1 (Q8.call [] rfl Z3 rfl Z1 Z8 (by apply Qnc<;>exact Z4) Qo1 Z3 Z3 Z1 (jh hX Z1)))) (q:=Z1p) (k:=jr)))))))) ?_
 refine Q4 (je0 ?_)
 simp only[Q8u]
end Go.Proofs
namespace Go.Proofs
open Go Go.Ev
theorem Qnz:Q6 Tryz.prog 54:=jcb Tryz.func54
theorem Qna{l:List Cls}{c m a:Int}{f:Frm}(hl:Q1r l≤1048576):Ct Tryz.prog 54 [.lst false 6 (l.map eC),.int .i64 c,.int .i64 m,.int .i64 a,eFr f] [] (.bool (Qc2 l c m a f)) []:=by
 have hll:l.length≤1099511627776:=by unfold Q1r at hl;omega
 rcases Q8q l c m with ⟨p1,p2,hT⟩|⟨i,rfl,p1,p2,hT⟩|⟨i,rfl,p1,p2,hT⟩|⟨i,j,rfl,rfl,p1,p2,hT⟩|⟨i,j,rfl,rfl,p1,p2,hT⟩
 all_goals obtain ⟨bF,hF⟩: ∃b,Q8u l f=b:=⟨_,rfl⟩
 all_goals cases bF
 all_goals
  refine jbS Tryz.func54 61 fun X hX=> ?_
  refine Q0 [0,1,2,3,9] (jh hX (by simp[p1,p2,hT,hF];rfl)) ?_
  refine Q5 ?_
  first|(refine Q0 [0,1,2,3,9,22] (js hX 2 (by simp[p1,p2,hT,hF];rfl) (jc [] (c:=(by apply Qc6<;>exact Z20)) (a:=Qcc) (k:=(jh hX (by simp[p1,p2,hT,hF];rfl))))) ?_)|(refine Q0 [0,1,2,3,9,22] (js hX 2 (by simp[p1,p2,hT,hF];rfl) (jc [] (c:=(by apply Qc6<;>exact Z20)) (a:=Qcc) (k:=(js hX 5 (by simp[p1,p2,hT,hF];rfl) (jc [] (c:=(by apply Qnb<;>exact Z20)) (a:=Qo0) (k:=(jh hX (by simp[p1,p2,hT,hF];rfl)))))))) ?_)
  refine jd (fun h1=> ?_) (fun h1=> ?_)
  ·try simp at h1
   all_goals
    refine Q0 [10] (jh hX (by simp[p1,p2,hT,hF];rfl)) ?_
    refine Q4 (je (by simp[p1,p2,hT,hF];rfl) ?_)
    simp[Qc2,hF,hT]
  ·try simp at h1
   all_goals
    refine Q3 (Q0 [3,9,11] (jh hX (by simp[p1,p2,hT,hF];rfl)) ?_)
    refine Q0 [10] (js hX 4 (by simp[p1,p2,hT,hF];rfl) (jm 3 34 [3,9,11,37] (p:=by intro b;(try simp at b);exact (jh hX (by simp[-Qc,-Qb,p1,p2,hT,hF];rfl))) (q:=by intro b;(try simp at b);exact (jh hX (by simp[-Qc,-Qb,p1,p2,hT,hF];rfl))) (k:=(js hX 1 (by simp[p1,p2,hT,hF];rfl) (jm 6 38 [9,11,44] (p:=fun b4_8=>by (try simp at b4_8);exact (jh hX (by simp[-Qc,-Qb,p1,p2,hT,hF,b4_8];rfl))) (q:=fun b4_8=>by (try simp at b4_8);exact (jh hX (by simp[-Qc,-Qb,p1,p2,hT,hF,b4_8];rfl))) (k:=(js hX 1 (by simp[p1,p2,hT,hF];rfl) (jm 7 45 [9,11,52] (p:=fun b4_15=>by (try simp at b4_15);exact (jh hX (by simp[-Qc,-Qb,p1,p2,hT,hF,b4_15];rfl))) (q:=fun b4_15=>by (try simp at b4_15);exact (jh hX (by simp[-Qc,-Qb,p1,p2,hT,hF,b4_15];rfl))) (k:=(js hX 1 (by simp[p1,p2,hT,hF];rfl) (jm 7 53 [60] (p:=fun b4_23=>by (try simp at b4_23);exact (jh hX (by simp[-Qc,-Qb,p1,p2,hT,hF,b4_23];rfl))) (q:=fun b4_23=>by (try simp at b4_23);exact (jh hX (by simp[-Qc,-Qb,p1,p2,hT,hF,b4_23];rfl))) (k:=(jh hX (by simp[p1,p2,hT,hF];rfl)))))))))))))) ?_
    refine Q4 (je (by simp[p1,p2,hT,hF];rfl) ?_)
    rw[Qc2,hF,hT,Q8t hT p1 p2]
    simp[Bool.and_assoc];try grind
end Go.Proofs
namespace Go.Proofs
open Go Go.Ev
section
variable {X:Ctx} {ops:Array Oper} {ls:List Oper} {st s s' s1 s2 s3:St} {n0:Nat} {L:List Nat} {Q:Exit→St→Prop}
end
end Go.Proofs
namespace Go.Proofs
open Go Go.Ev
attribute [simp] St.swap gSw swp
section
variable {X:Ctx} {ops:Array Oper} {ls:List Oper} {st s s1 s2 s3:St} {o:Oper} {n0:Nat} {L:List Nat} {Q:Exit→St→Prop}
theorem jT{id:Nat}{y:Code}(n:Nat)(t:Tm)(ks L:List Nat)(hX:X.n0=n0)(hH:Q6g Tryz.prog TT n0 ls.toArray L t st s2)(h2:Q8 Tryz.prog X ls.toArray (ls.drop n) s2 s3)(hk:W Tryz.prog X y (s3.keep ks) Q)
  (hB:Qun .any ls.toArray n t=true:=by kernel_rfl):W Tryz.prog X (.seq (.region id ls.toArray true) y) st Q:=Q16x n t ks L hmo hB tok hX hH h2 hk
theorem jTp(A:List Nat)(r:Tm)(h:Q5j TT n0 ops L A s=some s1)(k:Q6g Tryz.prog TT n0 ops L r s1 s2):Q6g Tryz.prog TT n0 ops L (Q20 A r) s s2:= .pur h rfl k
theorem jTa(i:Nat){t r:Tm}{s':St}(ho:ops[i]? =some o:=by rfl)(hL: ∀id∈L,id<s.ob.length:=by simp)(p: ∀X:Ctx,X.n0=s.ob.length→Q8 Tryz.prog X ops [o] ⟨s.tm,hid L s.ob⟩ s')(he:(⟨s'.tm,unh s.ob L s'.ob⟩:St)=s1:=by (try simp);(try rfl))
  (k:Q6g Tryz.prog TT n0 ops L t s1 s2) (kr:Q6g Tryz.prog TT n0 ops L r s s2):Q6g Tryz.prog TT n0 ops L (.alt i t r) s s2:= .alt ho hL p he k kr
theorem jTw(a b:Nat){t:Tm}(he:s.swap a b=s1)(k:Q6g Tryz.prog TT n0 ops L t s1 s2)(hb:n0≤a∧n0≤b∧a<s.ob.length∧b<s.ob.length:=by simp)(hl:a∉L∧b∉L:=by decide):Q6g Tryz.prog TT n0 ops L t s s2:= .sw hb hl he k
theorem jFz{l:List Oper}{x r r':V}{st2:St}{ob2:List Ob}{z:Option (V×St)}{z2:Option (V×List Ob)}(h:opB TT 0 ⟨fzL st.tm,[]⟩ o.op=z:=by simp;rfl)(hz:z=some (x,st2):=by rfl)(ht:Qbt 0 st2.ob x=z2:=by simp;rfl)(hz2:z2=some (r,ob2):=by rfl)
  (hl:r.lim 0=true:=by simp) (hr:r.fz=r':=by simp;rfl) (hg:gd ops st o.guard=some true:=by simp) (k:Q8 Tryz.prog X ops l ⟨Q37 o.dst r' st.tm,st.ob⟩ s2):Q8 Tryz.prog X ops (o::l) st s2:=Q8.frz tok (h.trans hz) (ht.trans hz2) hl hr hg k
end
end Go.Proofs
namespace Go.Proofs
open Go Go.Ev
def fzA:List (Nat×V)→List (Nat×V)
 |[]=>[]
 |p::l=>(p.1,p.2.fz)::fzA l
theorem Q11r(k:Nat): ∀l:List (Nat×V),lkA k (fzA l)=(lkA k l).fz
 |[]=>rfl
 |p::l=>by
  simp only[fzA,lkA,Q11r k l]
  split<;>rfl
@[simp] theorem sp_fz (n:Nat) (l:List (Nat×V)):fzL (sp n l)=sp n (fzA l):=by
 refine Qup (by rw[Qcw,List.length_map,Q5g]) fun k hk=> ?_
 rw[Qcw,List.getElem?_map,Qda,Q11r,if_pos hk]
 rfl
attribute [simp] fzA
section
variable {X:Ctx} {ops:Array Oper} {ls:List Oper} {st s s1 s2 s3:St} {o:Oper} {n0:Nat} {L:List Nat} {Q:Exit→St→Prop}
theorem jP{id:Nat}{y:Code}(n:Nat)(t:Tm)(ks L:List Nat)(hX:X.n0=n0)(hH:Q51 Tryz.prog TT n0 ls.toArray L t st s2)(h2:Q8 Tryz.prog X ls.toArray (ls.drop n) s2 s3)(hk:W Tryz.prog X y (s3.keep ks) Q)
  (hB:Qun .any ls.toArray n t=true:=by kernel_rfl):W Tryz.prog X (.seq (.region id ls.toArray true) y) st Q:=Q15m n t ks L hmo hB tok hX hH h2 hk
theorem jPr{id:Nat}(n:Nat)(t:Tm)(L:List Nat)(hX:X.n0=n0)(hH:Q51 Tryz.prog TT n0 ls.toArray L t st s2)(h2:Q8 Tryz.prog X ls.toArray (ls.drop n) s2 s3)(hq:Q .normal s3)
  (hB:Qun .any ls.toArray n t=true:=by kernel_rfl):W Tryz.prog X (.region id ls.toArray true) st Q:=Q12p hmo hB tok hX hH h2 hq
theorem jPp(A:List Nat)(r:Tm)(h:Q5j TT n0 ops L A s=some s1)(k:Q51 Tryz.prog TT n0 ops L r s1 s2):Q51 Tryz.prog TT n0 ops L (Q20 A r) s s2:= .pur h rfl k
theorem jPa(i N:Nat){t r:Tm}{s':St}(ho:ops[i]? =some o:=by rfl)(hn:n0≤N∧N≤s.ob.length:=by simp)(hL: ∀id∈L,id<N:=by simp)(hlim:(L.all fun id=>Qxr N (s.ob.getD id none))=true:=by simp)(p: ∀X:Ctx,X.n0=N→Q8 Tryz.prog X ops [o] ⟨s.tm,hid L s.ob⟩ s')(he:(⟨s'.tm,unh s.ob L s'.ob⟩:St)=s1:=by (try simp);(try rfl))
  (k:Q51 Tryz.prog TT n0 ops L t s1 s2) (kr:Q51 Tryz.prog TT n0 ops L r s s2):Q51 Tryz.prog TT n0 ops L (.alt i t r) s s2:= .alt ho N hn hL hlim p he k kr
theorem jPw(a b:Nat){t:Tm}(he:s.swap a b=s1)(k:Q51 Tryz.prog TT n0 ops L t s1 s2)(hb:n0≤a∧n0≤b∧a<s.ob.length∧b<s.ob.length:=by simp)(hl:a∉L∧b∉L:=by decide):Q51 Tryz.prog TT n0 ops L t s s2:= .sw hb hl he k
end
end Go.Proofs
namespace Go.Proofs
open Go Go.Ev
theorem Qa:Q6 Tryz.prog 175:=jcb Tryz.func175
theorem Qf1{F:SF}{x y:V}{xs:List V}{k:Int}{ok:Bool}{c:Int}(hx:x.lim 2=true)(hy:y.lim 2=true)(hxs:Q65 2 xs=true):Ct Tryz.prog 175 [.ptr 0 0 0,.bool ok,.int .i64 c] [some (25,[oSV F x y k]),some (3,xs)] (.tup []) [some (25,[oSV F x y (ndC k ok c)]),some (3,xs)]:=by
 refine jbS Tryz.func175 19 fun X hX=> ?_
 refine Q0 [0,2,14] (js hX 6 (by simp[hx,hy,hxs];rfl) (jm 3 11 [0,2,14] (p:=by intro b;(try simp at b);exact (jh hX (by simp[-Qc,-Qb,hx,hy,hxs];rfl))) (q:=by intro b;(try simp at b);exact (jh hX (by simp[-Qc,-Qb,hx,hy,hxs];rfl))) (k:=jf))) ?_
 refine jd (fun h0=> ?_) (fun h0=> ?_)
 ·try simp at h0
  refine Qd (jh hX (by simp[hx,hy,hxs];rfl)) ?_
  refine Ql (by simp[hx,hy,hxs];rfl) Z17 (.of_eq ?_) ?_
  all_goals clear hX
  ·skip
   rfl
  ·skip
   simp_all[ndC]
 ·try simp at h0
  refine Q3 (Ql (by simp[hx,hy,hxs];rfl) Z17 (.of_eq ?_) ?_)
  all_goals clear hX
  ·skip
   rfl
  ·skip
   simp_all[ndC]
theorem Q4n{F:SF}{o1 o2:Bool}{st lo:List Typ}{k:Int}{ok:Bool}{c:Int}:Ct Tryz.prog 175 [.ptr 0 0 0,.bool ok,.int .i64 c] [some (25,[oSW F o1 o2 st lo k])] (.tup []) [some (25,[oSW F (o1) (o2) (st) (lo) (ndC k ok c)])]:=by
 refine jbS Tryz.func175 19 fun X hX=> ?_
 refine Q0 [0,2,14] (jt 6 (k:=(jm 3 11 [0,2,14] (p:=Z1p) (q:=Z1p) (k:=jf)))) ?_
 refine jd (fun h0=> ?_) (fun h0=> ?_)
 ·try simp at h0
  refine Qd jr ?_
  refine Ql Z8 Z17 (.of_eq ?_) ?_
  all_goals clear hX
  ·skip
   rfl
  ·skip
   simp_all[ndC]
 ·try simp at h0
  refine Q3 (Ql Z8 Z17 (.of_eq ?_) ?_)
  all_goals clear hX
  ·skip
   rfl
  ·skip
   simp_all[ndC]
end Go.Proofs
namespace Go.Proofs
open Go Go.Ev
theorem Qe:Q6 Tryz.prog 166:=jcb Tryz.func166
theorem Q2h{F:SF}{o1 o2:Bool}{st lo:List Typ}{k:Int}{n:Nat}(hs:st.length≤1000)(hn:n≤1000):Ct Tryz.prog 166 [.ptr 0 0 0,.int .i64 n] [some (25,[oSW F o1 o2 st lo k])] (.lst true 3 ((tkV k st n).map eT)) [some (25,[oSW F (tkO o1 k st n) (o2) (tkL k st n) (lo) (tkC k st n)])]:=by
 cases o1
 all_goals
  refine jbS Tryz.func166 57 fun X hX=> ?_
  refine jq [0,1] ?_
  first|refine Q21 (Le.expose 0 0 22 Z24) ?_|refine Q21 (Le.nilOb 3 _) ?_
  refine Q5 (Q0 [0,1,21] (jt 6 (k:=(jm 9 12 [0,1,21] (p:=Z1p) (q:=Z1p) (k:=jf)))) ?_)
  refine jd (fun h1=> ?_) (fun h1=> ?_)
  ·try simp at h1
   have hB:Qb6 k st n=true:=by simp only[Qb6];grind
   have w5:32*(n:Int)≤281474976710656:=by omega
   have w6:n≤9223372036854775807:=by omega
   first|refine Q21 (Le.absorb 0 0 22 Z8) ?_|skip
   refine Q0 [1] (js hX 1 (by simp[h1,w5,w6];rfl) (jc [0] (c:=(by apply Q4n<;>first|assumption|omega|(simp;omega))) (a:=Qa) (k:=jf))) ?_
   refine Q0 [4] (jh hX (by simp[h1,w5,w6];rfl)) ?_
   refine Q4 (Qq (by simp[h1,w5,w6];rfl) Z17 (.of_eq ?_) ?_)
   all_goals clear hX
   ·skip
    rw[(Qx9 hB true).2.2.1];simp[zT]
   ·skip
    have e:=Qx9 hB
    rw[(e true).1,(e true).2.1]
    first|rw[(e true).2.2.2]|rw[(e false).2.2.2]
    simp
  ·try simp at h1
   have hB:Qb6 k st n=false:=by simp only[Qb6];grind
   obtain ⟨q,hq⟩: ∃q,st.length=q+n:=⟨st.length-n,by simp only[Qb6] at hB;grind⟩
   have w1:n*32≤140737488355328:=by omega
   have w2:n≤1099511627776:=by omega
   have w3:q*32≤140737488355328:=by omega
   have w4:q≤1099511627776:=by omega
   have d1:=Q16s hq
   have d2:List.take (q+n) (st.map eT)=st.map eT:=List.take_of_length_le (by rw[List.length_map];omega)
   refine Q3 (Q0 [0,5] (jh hX (by simp[h1,hq,w1,w2,w3,w4,d1,d2];(try (simp (disch:=omega) only[Q7];(try simp[h1,hq,w1,w2,w3,w4,d1,d2])));rfl)) ?_)
   refine Q0 [0,5,6] (jh hX (by simp[h1,hq,w1,w2,w3,w4,d1,d2];rfl)) ?_
   refine Q0 [6] (jh hX (by simp[h1,hq,w1,w2,w3,w4,d1,d2];rfl)) ?_
   refine Q21 (Le.absorb 0 0 22 (by simp[hq,d1,d2];rfl)) ?_
   refine Q0 [4] (jh hX (by simp[h1,hq,w1,w2,w3,w4,d1,d2];rfl)) ?_
   refine Q4 (Qq (by simp[h1,hq,w1,w2,w3,w4,d1,d2];rfl) Z17 (.of_eq ?_) ?_)
   all_goals clear hX
   ·skip
    rw[(Q10w hB hq true).2.2.1];simp
   ·skip
    have e:=Q10w hB hq
    rw[(e true).1,(e true).2.1]
    first|rw[(e true).2.2.2]|rw[(e false).2.2.2]
    simp[List.take_take,h1.1]
end Go.Proofs
namespace Go.Proofs
open Go Go.Ev
theorem Q12:Q6 Tryz.prog 167:=jcb Tryz.func167
theorem Qix{F:SF}{o1 o2:Bool}{st lo:List Typ}{k:Int}{t:Typ}:Ct Tryz.prog 167 [.ptr 0 0 0,eT t] [some (25,[oSW F o1 o2 st lo k])] (.tup []) [some (25,[oSW F (o1) (o2) (st) (lo) (ndC k (decide (t.k=1)) 10)])]:=by
 refine jbS Tryz.func167 9 fun X hX=> ?_
 refine jq [0,3] ?_
 refine Qd (jt 4 (k:=(jc [0] (c:=(by apply Q4n<;>first|assumption|omega|(simp;omega))) (a:=Qa) (k:=jf)))) ?_
 refine Ql Z8 Z17 (.of_eq ?_) ?_
 all_goals clear hX
 ·skip
  rfl
 ·skip
  simp_all
end Go.Proofs
namespace Go.Proofs
open Go Go.Ev
theorem Qh:Q6 Tryz.prog 168:=jcb Tryz.func168
theorem Qfq{F:SF}{o1:Bool}{st:List Typ}{y:V}{xs:List V}{k:Int}{t:Typ}(hs:st.length≤1000)(hy:y.lim 2=true)(hxs:Q65 2 xs=true)(hy4:y.lim 4=true)(hx4:Q65 4 xs=true)(hyj: ∀id,2≤id→y.jk (fun x=>x==id)=y)(hxj: ∀id,2≤id→jkL (fun x=>x==id) xs=xs):Ct Tryz.prog 168 [.ptr 0 0 0,eT t] [some (25,[oSV F (.lst o1 3 (st.map eT)) y k]),some (3,xs)] (.tup []) [some (25,[oSV F (.lst true 3 ((st++[t]).map eT)) y k]),some (3,xs)]:=by
 cases o1
 all_goals have w1:st.length*32≤140737488355328:=by omega
 all_goals have w2:st.length≤1099511627776:=by omega
 all_goals have w3:(st.length+1)*32≤140737488355328:=by omega
 all_goals have w4:st.length+1≤1099511627776:=by omega
 all_goals
  refine jbS Tryz.func168 18 fun X hX=> ?_
  refine Q0 [0,3] (jh hX Z2h) ?_
  first|refine Q21 (Le.expose 0 0 22 Z24) ?_|refine Q21 (Le.nilOb 3 _) ?_
  refine jPr 11 (Q20 [0,2,3,4,5,6,8] (.alt 1 (.alt 7 (.alt 9 (.alt 10 .tail .stop) .stop) (.alt 9 (.alt 7 (.alt 10 .tail .stop) .stop) .stop)) (.alt 9 (.alt 1 (.alt 7 (.alt 10 .tail .stop) .stop) .stop) .stop))) [0,1,2] hX (jPp [0,2,3,4,5,6,8] _ (by simp[w1,w2,w3,w4,hy,hxs,hy4,hx4,hyj,hxj];try rfl) (jPa 1 4 (hlim:=by simp[w1,w2,w3,w4,hy,hxs,hy4,hx4,hyj,hxj]) (p:=fun X hX=>(jh hX Z2h)) (k:=(jPa 7 4 (hlim:=by simp[w1,w2,w3,w4,hy,hxs,hy4,hx4,hyj,hxj]) (p:=fun X hX=>(jh hX Z2h)) (k:=(jPa 9 4 (hlim:=by simp[w1,w2,w3,w4,hy,hxs,hy4,hx4,hyj,hxj]) (p:=fun X hX=>(jFz (k:=jf))) (k:=(jPa 10 4 (hlim:=by simp[w1,w2,w3,w4,hy,hxs,hy4,hx4,hyj,hxj]) (p:=fun X hX=>(jh hX Z2h)) (k:=.tail) (kr:=.stop))) (kr:=.stop))) (kr:=(jPa 9 4 (hlim:=by simp[w1,w2,w3,w4,hy,hxs,hy4,hx4,hyj,hxj]) (p:=fun X hX=>(jFz (k:=jf))) (k:=(jPa 7 4 (hlim:=by simp[w1,w2,w3,w4,hy,hxs,hy4,hx4,hyj,hxj]) (p:=fun X hX=>(jh hX Z2h)) (k:=(jPa 10 4 (hlim:=by simp[w1,w2,w3,w4,hy,hxs,hy4,hx4,hyj,hxj]) (p:=fun X hX=>(jh hX Z2h)) (k:=.tail) (kr:=.stop))) (kr:=.stop))) (kr:=.stop))))) (kr:=(jPa 9 4 (hlim:=by simp[w1,w2,w3,w4,hy,hxs,hy4,hx4,hyj,hxj]) (p:=fun X hX=>(jFz (k:=jf))) (k:=(jPa 1 4 (hlim:=by simp[w1,w2,w3,w4,hy,hxs,hy4,hx4,hyj,hxj]) (p:=fun X hX=>(jh hX Z2h)) (k:=(jPa 7 4 (hlim:=by simp[w1,w2,w3,w4,hy,hxs,hy4,hx4,hyj,hxj]) (p:=fun X hX=>(jh hX Z2h)) (k:=(jPa 10 4 (hlim:=by simp[w1,w2,w3,w4,hy,hxs,hy4,hx4,hyj,hxj]) (p:=fun X hX=>(jh hX Z2h)) (k:=.tail) (kr:=.stop))) (kr:=.stop))) (kr:=.stop))) (kr:=.stop))))) (Q8.weak (jh hX Z2h) (Le.absorb 0 0 22 Z8)) ?_
  refine Ql Z2h Z17 (.of_eq ?_) ?_
  all_goals clear hX
  ·skip
   rfl
  ·skip
   simp
theorem Q1w{F:SF}{o1 o2:Bool}{st lo:List Typ}{k:Int}{t:Typ}(hs:st.length≤1000):Ct Tryz.prog 168 [.ptr 0 0 0,eT t] [some (25,[oSW F o1 o2 st lo k])] (.tup []) [some (25,[oSW F (true) (o2) (st++[t]) (lo) (k)])]:=by
 cases o1
 all_goals have w1:st.length*32≤140737488355328:=by omega
 all_goals have w2:st.length≤1099511627776:=by omega
 all_goals have w3:(st.length+1)*32≤140737488355328:=by omega
 all_goals have w4:st.length+1≤1099511627776:=by omega
 all_goals
  refine jbS Tryz.func168 18 fun X hX=> ?_
  refine Q0 [0,3] (jh hX (by simp[w1,w2,w3,w4];rfl)) ?_
  first|refine Q21 (Le.expose 0 0 22 Z24) ?_|refine Q21 (Le.nilOb 3 _) ?_
  refine jPr 11 (Q20 [0,2,3,4,5,6,8] (.alt 1 (.alt 7 (.alt 9 (.alt 10 .tail .stop) .stop) (.alt 9 (.alt 7 (.alt 10 .tail .stop) .stop) .stop)) (.alt 9 (.alt 1 (.alt 7 (.alt 10 .tail .stop) .stop) .stop) .stop))) [0,1] hX (jPp [0,2,3,4,5,6,8] _ (by simp[w1,w2,w3,w4];try rfl) (jPa 1 3 (p:=fun X hX=>(jh hX (by simp[w1,w2,w3,w4];rfl))) (k:=(jPa 7 3 (p:=fun X hX=>(jh hX (by simp[w1,w2,w3,w4];rfl))) (k:=(jPa 9 3 (p:=fun X hX=>(jFz (k:=jf))) (k:=(jPa 10 3 (p:=fun X hX=>(jh hX (by simp[w1,w2,w3,w4];rfl))) (k:=.tail) (kr:=.stop))) (kr:=.stop))) (kr:=(jPa 9 3 (p:=fun X hX=>(jFz (k:=jf))) (k:=(jPa 7 3 (p:=fun X hX=>(jh hX (by simp[w1,w2,w3,w4];rfl))) (k:=(jPa 10 3 (p:=fun X hX=>(jh hX (by simp[w1,w2,w3,w4];rfl))) (k:=.tail) (kr:=.stop))) (kr:=.stop))) (kr:=.stop))))) (kr:=(jPa 9 3 (p:=fun X hX=>(jFz (k:=jf))) (k:=(jPa 1 3 (p:=fun X hX=>(jh hX (by simp[w1,w2,w3,w4];rfl))) (k:=(jPa 7 3 (p:=fun X hX=>(jh hX (by simp[w1,w2,w3,w4];rfl))) (k:=(jPa 10 3 (p:=fun X hX=>(jh hX (by simp[w1,w2,w3,w4];rfl))) (k:=.tail) (kr:=.stop))) (kr:=.stop))) (kr:=.stop))) (kr:=.stop))))) (Q8.weak (jh hX (by simp[w1,w2,w3,w4];rfl)) (Le.absorb 0 0 22 Z8)) ?_
  refine Ql (by simp[w1,w2,w3,w4];rfl) Z17 (.of_eq ?_) ?_
  all_goals clear hX
  ·skip
   rfl
  ·skip
   simp
end Go.Proofs
namespace Go.Proofs
open Go Go.Ev
theorem Q14:Q6 Tryz.prog 146:=jcb Tryz.func146
theorem Qrs{c:Str}:Ct Tryz.prog 146 [.str c] [] (eT (Qy c)) []:=by
 refine jbS Tryz.func146 5 fun X hX=> ?_
 refine jq [0,2] ?_
 refine jq [2] ?_
 refine Q4 (je0 ?_)
 simp[Qy]
end Go.Proofs
namespace Go.Proofs
open Go Go.Ev
theorem Q2x:Q6 Tryz.prog 156:=jcb Tryz.func156
theorem Q2w{t:Str}(ht:t.length≤1099511627776):Ct Tryz.prog 156 [.str t] [] (eT (Q3c t)) []:=by
 refine jbS Tryz.func156 30 fun X hX=> ?_
 refine jq [0,2] ?_
 refine Q0 [0,2,3] (jt 1 (k:=(jc [] (c:=(by apply Q9j<;>exact Z4)) (a:=Q9q) (k:=jr)))) ?_
 refine Q5 (Q9 (jq [0,2,3,6] ?_))
 refine jd (fun h2=> ?_) (fun h2=> ?_)
 ·try simp at h2
  refine jq [2] ?_
  refine Q4 (je0 ?_)
  rw[h2];simp[Q3c,Qyj]
 ·try simp at h2
  refine jq [0,2,3,10] ?_
  refine jd (fun h4=> ?_) (fun h4=> ?_)
  ·try simp at h4
   refine jq [2] ?_
   refine Q4 (je0 ?_)
   rw[h4];simp[Q3c,Qyk]
  ·try simp at h4
   refine Q0 [2,3,14] (jt 3 (k:=(jm 4 17 [2,3,21] (p:=fun b6_3=>by (try simp at b6_3);(have hlt:=(Q2n (Qeh b6_3).1).1);exact (jh hX (by simp[-Qc,-Qb,hlt];rfl))) (q:=fun b6_3=>by (try simp at b6_3);exact (jh hX Z1)) (k:=jr)))) ?_
   refine jd (fun h6=> ?_) (fun h6=> ?_)
   ·try simp at h6
    refine jq [2] ?_
    refine Q4 (je0 ?_)
    have hb:=Qeh h6.1
    rw[Q3c,if_pos hb.1,if_neg hb.2.1,if_neg hb.2.2,if_pos ((is91 (Q2n hb.1).1).2 h6.2)];rfl
   ·try simp at h6
    refine jq [2,3,24] ?_
    refine jd (fun h8=> ?_) (fun h8=> ?_)
    ·try simp at h8
     refine jq [2] ?_
     refine Q4 (je0 ?_)
     have hb:=Qeh h8
     rw[Q3c,if_pos hb.1,if_neg hb.2.1,if_neg hb.2.2,if_neg (fun e=>h6 h8 ((is91 (Q2n hb.1).1).1 e))];rfl
    ·try simp at h8
     refine Q3 (jq [2] ?_)
     refine Q4 (je0 ?_)
     rw[Qvq h8 h2 h4];rfl
end Go.Proofs
namespace Go.Proofs
open Go Go.Ev
theorem Qo3:Q6 Tryz.prog 219:=jcb Tryz.func219
theorem Qne{l:List Cls}{n:Str}(hl:l.length≤1099511627776):Ct Tryz.prog 219 [.lst false 6 (l.map eC),.str n] [] (.str (Q98 l n)) []:=by
 refine jbS Tryz.func219 24 fun X hX=> ?_
 refine jq [0,1] ?_
 refine Q0 [0,1,5] (jt 1 (k:=(jc [] (c:=(by apply Q7q<;>exact Z4)) (a:=Q6d) (k:=jr)))) ?_
 refine Q5 (jq [0,1,5,9] ?_)
 refine jd (fun h2=> ?_) (fun h2=> ?_)
 ·try simp at h2
  refine jq [4] ?_
  refine Q4 (je0 ?_)
  simp only[Q98,Qz,Q1i]
  (try simp_all)<;>grind
 ·try simp at h2
  refine Q3 (Q5 (jq [0,1,5,11] ?_))
  refine jd (fun h4=> ?_) (fun h4=> ?_)
  ·try simp at h4
   refine jq [4] ?_
   refine Q4 (je0 ?_)
   simp only[Q98,Qz,Q1i]
   (try simp_all)<;>grind
  ·try simp at h4
   refine Q3 (Q5 (jq [0,1,13] ?_))
   refine jd (fun h6=> ?_) (fun h6=> ?_)
   ·try simp at h6
    refine jq [4] ?_
    refine Q4 (je (by simp[h6];rfl) ?_)
    simp only[Q98,Qz,Q1i]
    (try simp_all)<;>grind
   ·try simp at h6
    refine Q3 (Q0 [0,5] (jt 2 (k:=(jc [] (c:=(by apply Q2l<;>exact Z4)) (a:=Q1j) (k:=jr)))) ?_)
    refine Q5 (jq [0,5,18] ?_)
    refine jd (fun h9=> ?_) (fun h9=> ?_)
    ·try simp at h9
     refine jq [4] ?_
     refine Q4 (je (by simp[h6,h9];rfl) ?_)
     simp only[Q98,Qz,Q1i]
     (try simp_all)<;>grind
    ·try simp at h9
     have h9b:=Qh2 (n:=n) (l:=l) Za
     have h9c:0≤Qk n l 0:=by omega
     refine Q3 (Q0 [4] (jh hX (by simp[h6,h9,h9b,h9c];rfl)) ?_)
     refine Q4 (je (by simp[h6,h9,h9b,h9c];rfl) ?_)
     simp only[Q98,Qz,Q1i]
     (try simp_all)<;>grind
end Go.Proofs
namespace Go.Proofs
open Go Go.Ev
theorem Qhr:Q6 Tryz.prog 145:=jcb Tryz.func145
theorem Qhb{l:List Cls}{a b:Str}(hl:l.length≤1099511627776)(hw:Qx l=true):Ct Tryz.prog 145 [.lst false 6 (l.map eC),.str a,.str b] [] (.bool (subS l a b)) []:=by
 refine jbS Tryz.func145 15 fun X hX=> ?_
 refine jq [0,1,2] ?_
 refine Q5 (Q9 (Qo (α:=Str) [0,1,2] (fun x=>[(1,.str x)]) (fun x=>[]) (fun x=>subS l x b=subS l a b) (fun x=>(chS l x).length) (a) (fun x=>by simp;rfl) Z3 ?_ ?_))
 ·rfl
 rintro x hI
 refine Q5 (jq [0,1,2,8] ?_)
 refine jd (fun h1=> ?_) (fun h1=> ?_)
 ·try simp at h1
  rw[Q135 hw h1] at hI
  refine Q3 (Q9 (Q5 (jq [0,1,2,11] ?_)))
  refine jd (fun h2=> ?_) (fun h2=> ?_)
  ·try simp at h2
   refine jq [6] ?_
   refine Q4 (je0 ?_)
   rw[←hI,h2];simp
  ·try simp at h2
   rw[decide_eq_false (fun e=>h2 e.symm),Bool.false_or] at hI
   refine Q3 (Qd (jt 2 (k:=(jc [] (c:=(by apply Qne<;>exact Z4)) (a:=Qo3) (k:=jr)))) ?_)
   refine Qp (Q98 l x) [0,1,2] (by simp;try (simp (disch:=omega) only[Q7])) ?_ ?_
   ·exact hI
   ·rw[Q12e hw h1];simp
 ·try simp at h1
  refine Qr (jq [6] ?_)
  refine Q4 (je0 ?_)
  rw[←hI,h1,Q110 hw]
end Go.Proofs
namespace Go.Proofs
open Go Go.Ev
theorem Q4t:Q6 Tryz.prog 246:=jcb Tryz.func246
theorem Q4s{t:Typ}:Ct Tryz.prog 246 [eT t] [] (.bool (decide (t.k=4∨t.k=5))) []:=by
 refine jbS Tryz.func246 11 fun X hX=> ?_
 refine jq [1] ?_
 refine Q0 [2] (jt 4 (k:=(jm 4 6 [10] (p:=Z1p) (q:=Z1p) (k:=jr)))) ?_
 refine Q4 (je0 ?_)
 simp
end Go.Proofs
namespace Go.Proofs
open Go Go.Ev
theorem Qt4:Q6 Tryz.prog 223:=jcb Tryz.func223
theorem Qsy{l:List Cls}(hl:l.length≤1099511627776)(hw:Qx l=true){a b:Typ}:Ct Tryz.prog 223 [.lst false 6 (l.map eC),eT a,eT b] [] (.bool (leT l a b)) []:=by
 refine jbS Tryz.func223 61 fun X hX=> ?_
 refine jq [0,4,5] ?_
 refine Q5 (Q9 (Q0 [0,4,5,7] (jt 4 (k:=(jm 4 11 [0,4,5,15] (p:=Z1p) (q:=Z1p) (k:=jr)))) ?_))
 refine jd (fun h1=> ?_) (fun h1=> ?_)
 ·try simp at h1
  refine jq [6] ?_
  refine Q4 (je0 ?_)
  cases a;cases b;simp only[leT,Qz] at*
  (try simp_all)<;>grind
 ·try simp at h1
  refine jq [0,4,5,16] ?_
  refine jd (fun h3=> ?_) (fun h3=> ?_)
  ·try simp at h3
   refine Q0 [6] (jt 4 (k:=(jm 3 23 [26] (p:=Z1p) (q:=by intro b;(try simp at b);exact (js hX 1 Z1 (Q8.call [] rfl Z3 rfl Z1 Z8 (by apply Q4s<;>exact Z4) Q4t Z3 Z3 Z1 (jh hX Z1)))) (k:=jr)))) ?_
   refine Q4 (je0 ?_)
   cases a;cases b;simp only[leT,Qz] at*
   (try simp_all)<;>grind
  ·try simp at h3
   refine Q5 (Q0 [0,4,5,27] (jt 4 (k:=(jm 4 31 [0,4,5,35] (p:=Z1p) (q:=Z1p) (k:=jr)))) ?_)
   refine jd (fun h5=> ?_) (fun h5=> ?_)
   ·try simp at h5
    refine Q3 (jd (fun h5_1=> ?_) (fun h5_1=> ?_))
    ·try simp at h5_1
     refine Q0 [6] (jt 5 (k:=(jc [] (c:=(by apply Qhb<;>exact Z4)) (a:=Qhr) (k:=jr)))) ?_
     refine Q4 (je0 ?_)
     cases a;cases b;simp only[leT,Qz] at*
     (try simp_all)<;>grind
    ·try simp at h5_1
     refine Q0 [5,50] (jt 1 (k:=(jc [] (c:=(by apply Q4s<;>exact Z4)) (a:=Q4t) (k:=(jt 1 (k:=(jm 4 53 [5,57] (p:=Z1p) (q:=Z1p) (k:=jr)))))))) ?_
     refine jd (fun h8=> ?_) (fun h8=> ?_)
     ·try simp at h8
      refine jq [6] ?_
      refine Q4 (je0 ?_)
      cases a;cases b;simp only[leT,Qz] at*
      (try simp_all)<;>grind
     ·try simp at h8
      refine Q3 (jq [6] ?_)
      refine Q4 (je0 ?_)
      cases a;cases b;simp only[leT,Qz] at*
      (try simp_all)<;>grind
   ·try simp at h5
    refine Qd (jt 4 (k:=(jm 4 39 [0,4,5,43] (p:=Z1p) (q:=Z1p) (k:=jr)))) ?_
    refine jd (fun h6=> ?_) (fun h6=> ?_)
    ·try simp at h6
     refine Q0 [6] (jt 5 (k:=(jc [] (c:=(by apply Qhb<;>exact Z4)) (a:=Qhr) (k:=jr)))) ?_
     refine Q4 (je0 ?_)
     cases a;cases b;simp only[leT,Qz] at*
     (try simp_all)<;>grind
    ·try simp at h6
     refine Q0 [5,50] (jt 1 (k:=(jc [] (c:=(by apply Q4s<;>exact Z4)) (a:=Q4t) (k:=(jt 1 (k:=(jm 4 53 [5,57] (p:=Z1p) (q:=Z1p) (k:=jr)))))))) ?_
     refine jd (fun h8=> ?_) (fun h8=> ?_)
     ·try simp at h8
      refine jq [6] ?_
      refine Q4 (je0 ?_)
      cases a;cases b;simp only[leT,Qz] at*
      (try simp_all)<;>grind
     ·try simp at h8
      refine Q3 (jq [6] ?_)
      refine Q4 (je0 ?_)
      cases a;cases b;simp only[leT,Qz] at*
      (try simp_all)<;>grind
end Go.Proofs
namespace Go.Proofs
open Go Go.Ev
theorem Q1e:Q6 Tryz.prog 236:=jcb Tryz.func236
theorem Qc4{F:SF}{o1 o2:Bool}{st lo:List Typ}{k:Int}(hl:F.l.length≤1099511627776)(hw:Qx F.l=true){t u:Typ}:Ct Tryz.prog 236 [.ptr 0 0 0,eT t,eT u] [some (25,[oSW F o1 o2 st lo k])] (.tup []) [some (25,[oSW F (o1) (o2) (st) (lo) (ndC k (leT F.l t u) 10)])]:=by
 refine jbS Tryz.func236 15 fun X hX=> ?_
 refine jq [0,4,5] ?_
 refine Q2q (n:=8) (A:=[0,1,2,3,4,5,6]) (B:=[7]) (L:=[0,1,2]) hmo (by kernel_rfl) tok hX Z8 (jH (p:=fun X hX=>(jc [] (c:=(by apply Qsy<;>first|assumption|omega|(simp;omega))) (a:=Qt4) (k:=jf))) (k:=.nil)) (jc [0] (c:=(by apply Q4n<;>first|assumption|omega|(simp;omega))) (a:=Qa) (k:=jf)) ?_
 refine Ql Z8 Z17 (.of_eq ?_) ?_
 all_goals clear hX
 ·skip
  rfl
 ·skip
  simp_all
end Go.Proofs
namespace Go.Proofs
open Go Go.Ev
theorem Qg5:Q6 Tryz.prog 169:=jcb Tryz.func169
theorem Qft{F:SF}{o1 o2:Bool}{st lo:List Typ}{k:Int}(hs:Q1r F.l≤1048576)(hw:Qx F.l=true)(hst:st.length≤500)(hlo:lo.length≤500)(hd:F.m.desc.length≤1099511627776)(hi:F.m.name=Qm→0<lo.length)(hr:(Qg F.m.desc).res.length≤1099511627776):Ct Tryz.prog 169 [.ptr 0 0 0] [some (25,[oSW F o1 o2 st lo k])] (.tup []) [some (25,[Qbf F (Qfl F o1 o2 st lo k)])]:=by
 have hl:F.l.length≤1099511627776:=by unfold Q1r at hs;omega
 cases ho:o2
 all_goals
  refine jbS Tryz.func169 87 fun X hX=> ?_
  refine Q0 [0,2] (js hX 5 Z5 (Q8.callF rfl Z3 rfl Z5 (by apply Q69<;>exact Z0) Q6e (by (try simp[ho]);rfl) (jh hX Z5))) ?_
  refine Q0 [0,2,18] (jh hX Z5) ?_
  refine Q9 (Q0 [0,2,18,27] (jh hX Z5) ?_)
  refine jd (fun h4=> ?_) (fun h4=> ?_)
  ·try simp at h4
   refine Q0 [0] (js hX 3 Z5 (Q8.call [0] rfl Z3 rfl Z5 Z8 Ze Qa Z3 Z3 Z5 jf)) ?_
   refine Q0 [0,38] (jh hX Z5) ?_
   refine jd (fun h6=> ?_) (fun h6=> ?_)
   ·try simp at h6
    have hi1:=hi h6
    first|refine Q21 (Le.expose 0 0 23 Z24) ?_|refine Q21 (Le.nilOb 3 _) ?_
    refine Q2q (n:=15) (A:=[0,1,2,3,4,5,6,7,8,9,10,11,12]) (B:=[13,14]) (L:=[0,1]) hmo (by kernel_rfl) tok hX (by simp[hi1,ho];rfl) (jH (p:=fun X hX=>(Q8.call [] rfl Z3 rfl Z5 Z8 Zp Q14 Z3 Z3 Z5 jf)) (k:=(jH (p:=fun X hX=>(jh hX (by simp[hi1,ho];rfl))) (k:=.nil)))) (Q8.weak (Q8.call [0,1] rfl Z3 rfl Z5 Z8 Z1h Qa Z3 Z3 Z5 jf) (by first|exact Le.absorb 0 0 23 Z8|exact .refl)) ?_
    refine Ql (by simp[hi1,ho];rfl) Z17 (.of_eq ?_) ?_
    all_goals clear hX
    ·skip
     rfl
    ·skip
     (simp_all[Qfl,Q7h,Qm,Qy,Q1i])<;>congr
   ·try simp at h6
    refine Q3 (Ql Z5 Z17 (.of_eq ?_) ?_)
    all_goals clear hX
    ·skip
     rfl
    ·skip
     (simp_all[Qfl,Q7h,Qm,Qy,Q1i])<;>congr
  ·try simp at h4
   refine Q0 [0,2,18,55] (jh hX Z5) ?_
   refine jd (fun h8=> ?_) (fun h8=> ?_)
   ·try simp at h8
    refine Q0 [0,2,3] (js hX 1 Z5 (Q8.call [0] rfl Z3 rfl Z5 Z8 Zn Qe Z3 Z3 Z5 (jh hX Z5))) ?_
    have hL1:=Q29 k st 1
    refine Q0 [0,3] (js hX 3 Z5 (Q8.call [0] rfl Z3 rfl Z5 Z8 Ze Qa Z3 Z3 Z5 jf)) ?_
    refine Qd (js hX 4 Z5 (Q8.call [0] rfl Z3 rfl Z5 Z8 Z10 Q12 Z3 Z3 Z5 jf)) ?_
    refine Ql Z5 Z17 (.of_eq ?_) ?_
    all_goals clear hX
    ·skip
     rfl
    ·skip
     (simp_all[Qfl,Q7h,Qm,Qy,Q1i])<;>congr
   ·try simp at h8
    refine Q0 [0,2,68] (jh hX Z5) ?_
    refine jd (fun h12=> ?_) (fun h12=> ?_)
    ·try simp at h12
     refine Q0 [0,2,4] (js hX 1 Z5 (Q8.call [0] rfl Z3 rfl Z5 Z8 Zn Qe Z3 Z3 Z5 (jh hX Z5))) ?_
     have hL1:=Q29 k st 1
     refine Q0 [0,2,4] (js hX 4 Z5 (jm 3 75 [0,2,4,72,78] (p:=by intro b;(try simp at b);exact (jh hX Z29)) (q:=by intro b;(try simp at b);exact (jh hX Z29)) (k:=(Q8.call [0] rfl Z3 rfl Z5 Z8 Ze Qa Z3 Z3 Z5 jf)))) ?_
     refine Q2q (n:=6) (A:=[0,1,2,3,4]) (B:=[5]) (L:=[1]) hmo (by kernel_rfl) tok hX Z5 (jH (p:=fun X hX=>(Q8.call [] rfl Z3 rfl Z5 Z8 (by apply Q2w<;>exact Z0) Q2x Z3 Z3 Z5 jf)) (k:=.nil)) (Q8.call [0] rfl Z3 rfl Z5 Z8 Z1a Q1e Z3 Z3 Z5 jf) ?_
     refine Ql Z5 Z17 (.of_eq ?_) ?_
     all_goals clear hX
     ·skip
      rfl
     ·skip
      (simp_all[Qfl,Q7h,Qm,Qy,Q1i])<;>congr
    ·try simp at h12
     refine Q0 [0,5] (js hX 1 Z5 (Q8.call [0] rfl Z3 rfl Z5 Z8 Zn Qe Z3 Z3 Z5 (jh hX Z5))) ?_
     have hL1:=Q29 k st 1
     refine Q2q (n:=5) (A:=[0,1,2,3]) (B:=[4]) (L:=[0,1]) hmo (by kernel_rfl) tok hX Z5 (jH (p:=fun X hX=>(Q8.call [] rfl Z3 rfl Z5 Z8 Zp Q14 Z3 Z3 Z5 jf)) (k:=.nil)) (Q8.call [0] rfl Z3 rfl Z5 Z8 Z1a Q1e Z3 Z3 Z5 jf) ?_
     refine Ql Z5 Z17 (.of_eq ?_) ?_
     all_goals clear hX
     ·skip
      rfl
     ·skip
      (simp_all[Qfl,Q7h,Qm,Qy,Q1i])<;>congr
end Go.Proofs
namespace Go.Proofs
open Go Go.Ev
theorem Q18:Q6 Tryz.prog 237:=jcb Tryz.func237
theorem Qfu{F:SF}{o1 o2:Bool}{st lo:List Typ}{k:Int}(hl:F.l.length≤1099511627776)(hw:Qx F.l=true):Ct Tryz.prog 237 [.ptr 0 0 0] [some (25,[oSW F o1 o2 st lo k])] (.tup []) [some (25,[oSW F (o1) (o2) (st) (lo) (ndC k (isKnown F.l F.i.cls) 6)])]:=by
 refine jbS Tryz.func237 14 fun X hX=> ?_
 refine Q2q (n:=11) (A:=[0,1,2,3,4,5,6,7,8,9]) (B:=[10]) (L:=[0]) hmo (by kernel_rfl) tok hX Z8 (jH (p:=fun X hX=>(jc [] (c:=(by apply Q7p<;>first|assumption|omega|(simp;omega))) (a:=Qw) (k:=jf))) (k:=.nil)) (jc [0] (c:=(by apply Q4n<;>first|assumption|omega|(simp;omega))) (a:=Qa) (k:=jf)) ?_
 refine Ql Z8 Z17 (.of_eq ?_) ?_
 all_goals clear hX
 ·skip
  rfl
 ·skip
  simp_all
end Go.Proofs
namespace Go.Proofs
open Go Go.Ev
theorem Q2p:Q6 Tryz.prog 238:=jcb Tryz.func238
theorem Q2o{F:SF}{o1 o2:Bool}{st lo:List Typ}{k:Int}{a b:Typ}(hs:st.length≤1000)(hs2:lo.length≤1000):Ct Tryz.prog 238 [.ptr 0 0 0,eT a,eT b] [some (25,[oSW F o1 o2 st lo k])] (.tup []) [some (25,[oSW F (true) (true) (st.map (swT a b)) (lo.map (swT a b)) (k)])]:=by
 obtain ⟨sw,hsw⟩: ∃sw,sw=st.map (swT a b):=⟨_,rfl⟩
 obtain ⟨sv,hsv⟩: ∃sv,sv=lo.map (swT a b):=⟨_,rfl⟩
 have swl:sw.length=st.length:=by rw[hsw];simp
 have svl:sv.length=lo.length:=by rw[hsv];simp
 have swg: ∀i (h:i<st.length) (h2:i<sw.length),sw[i]=swT a b st[i]:=by subst hsw;simp
 have svg: ∀i (h:i<lo.length) (h2:i<sv.length),sv[i]=swT a b lo[i]:=by subst hsv;simp
 rw[←hsw,←hsv]
 cases o1<;>cases o2
 all_goals
  refine jbS Tryz.func238 76 fun X hX=> ?_
  refine jq [0,4,5] ?_
  first|refine Q21 (Le.expose 0 0 22 Z24) ?_|refine Q21 (Le.nilOb 3 _) ?_
  first|refine Q21 (Le.expose 0 0 23 Z24) ?_|refine Q21 (Le.nilOb 3 _) ?_
  refine jq [0,4,5,6] ?_
  refine Q5 (jq [0,4,5,6,7] ?_)
  refine Q9 (Qo (α:=Nat) [0,4,5,6,7] (fun i=>[(6,.arr 5 0 i),(7,.int .i64 i)]) (fun i=>[(5,some (3,(sw.map eT).take i))]) (fun i=>i≤st.length) (fun i=>st.length-i) (0) (fun i=>by simp;rfl) Z3 ?_ ?_)
  ·simp
  rintro i hi
  have w1:(i+1)*32≤140737488355328:=by omega
  have w2:i≤1099511627775:=by omega
  refine Q5 (Q0 [0,4,5,6,7,20] (jh hX (by simp[w1,w2];rfl)) ?_)
  refine jd (fun h3=> ?_) (fun h3=> ?_)
  ·try simp at h3
   have h3b:i<sw.length:=by omega
   obtain ⟨Y,hY⟩: ∃Y,Y=(sw.map eT).take i:=⟨_,rfl⟩
   rw[←hY]
   have hYl:Y.length=i:=by rw[hY];simp;omega
   have hYt:Y.take i=Y:=List.take_of_length_le Za
   have hYj: ∀p,jkL p Y=Y:=fun p=>by rw[hY,←List.map_take];exact jkL_eT p _
   have hnext:(sw.map eT).take (i+1)=Y++[eT sw[i]]:=by
    rw[hY,List.take_succ_eq_append_getElem (by simpa using h3b),List.getElem_map]
   refine Q3 (Q5 (Q9 (Q0 [0,4,5,6,7,8] (jh hX (by simp[w1,w2,h3,hYl,hYt,hYj];rfl)) ?_)))
   refine Q5 (Q0 [0,4,5,6,7,8,33] (jh hX (by simp[w1,w2,h3,hYl,hYt,hYj];rfl)) ?_)
   refine jd (fun h6=> ?_) (fun h6=> ?_)
   ·try simp at h6
    have hv:sw[i]=b:=by
     have e:st[i]=a:=by
      generalize st[i]=z at h6⊢
      cases z;cases a;simp_all
     have:=swg i Za h3b
     rw[this,e,swT,if_pos rfl]
    refine Qd (jh hX (by simp[w1,w2,h3,hYl,hYt,hYj,hv];rfl)) ?_
    refine Qd (jh hX (by simp[w1,w2,h3,hYl,hYt,hYj,hv];rfl)) ?_
    refine Qd (jh hX (by simp[w1,w2,h3,hYl,hYt,hYj,hv];(try (simp (disch:=omega) only[Q7];(try simp[w1,w2,h3,hYl,hYt,hYj,hv])));rfl)) ?_
    refine Q13 (i+1) [0,4,5,6,7] 6 (by simp[hX]) Z3 (by simp[hnext,hYj,hv];try (simp (disch:=omega) only[Q7])) ?_ ?_
    ·omega
    ·omega
   ·try simp at h6
    have hv:sw[i]=st[i]:=by
     have e: ¬st[i]=a:=fun e=>by rw[e] at h6;simp at h6
     have:=swg i Za h3b
     rw[this,swT,if_neg e]
    refine Q3 (Qd (jh hX (by simp[w1,w2,h3,hYl,hYt,hYj,hv];rfl)) ?_)
    refine Qd (jh hX (by simp[w1,w2,h3,hYl,hYt,hYj,hv];(try (simp (disch:=omega) only[Q7];(try simp[w1,w2,h3,hYl,hYt,hYj,hv])));rfl)) ?_
    refine Q13 (i+1) [0,4,5,6,7] 6 (by simp[hX]) Z3 (by simp[hnext,hYj,hv];try (simp (disch:=omega) only[Q7])) ?_ ?_
    ·omega
    ·omega
  ·try simp at h3
   obtain rfl:i=st.length:=by omega
   rw[List.take_of_length_le (by simp;omega)]
   refine Qr (Q0 [0,4,5,6,9] (jh hX (by simp[w1,w2,h3];rfl)) ?_)
   refine Q5 (Q0 [0,4,5,6,9,10] (jh hX (by simp[w1,w2,h3];rfl)) ?_)
   refine Q9 (Qo (α:=Nat) [0,4,5,6,9,10] (fun i=>[(9,.arr 6 0 i),(10,.int .i64 i)]) (fun i=>[(6,some (3,(sv.map eT).take i))]) (fun i=>i≤lo.length) (fun i=>lo.length-i) (0) (fun i=>by simp;rfl) Z3 ?_ ?_)
   ·simp
   rintro i hi
   have w1:(i+1)*32≤140737488355328:=by omega
   have w2:i≤1099511627775:=by omega
   refine Q5 (Q0 [0,4,5,6,9,10,47] (jh hX (by simp[w1,w2,h3,w1,w2];rfl)) ?_)
   refine jd (fun h11=> ?_) (fun h11=> ?_)
   ·try simp at h11
    have h3b:i<sv.length:=by omega
    obtain ⟨Y,hY⟩: ∃Y,Y=(sv.map eT).take i:=⟨_,rfl⟩
    rw[←hY]
    have hYl:Y.length=i:=by rw[hY];simp;omega
    have hYt:Y.take i=Y:=List.take_of_length_le Za
    have hYj: ∀p,jkL p Y=Y:=fun p=>by rw[hY,←List.map_take];exact jkL_eT p _
    have hnext:(sv.map eT).take (i+1)=Y++[eT sv[i]]:=by
     rw[hY,List.take_succ_eq_append_getElem (by simpa using h3b),List.getElem_map]
    refine Q3 (Q5 (Q9 (Q0 [0,4,5,6,9,10,11] (jh hX (by simp[w1,w2,h3,w1,w2,h11,hYl,hYt,hYj];rfl)) ?_)))
    refine Q5 (Q0 [0,4,5,6,9,10,11,60] (jh hX (by simp[w1,w2,h3,w1,w2,h11,hYl,hYt,hYj];rfl)) ?_)
    refine jd (fun h14=> ?_) (fun h14=> ?_)
    ·try simp at h14
     have hv:sv[i]=b:=by
      have e:lo[i]=a:=by
       generalize lo[i]=z at h14⊢
       cases z;cases a;simp_all
      have:=svg i Za h3b
      rw[this,e,swT,if_pos rfl]
     refine Qd (jh hX (by simp[w1,w2,h3,w1,w2,h11,hYl,hYt,hYj,hv];rfl)) ?_
     refine Qd (jh hX (by simp[w1,w2,h3,w1,w2,h11,hYl,hYt,hYj,hv];rfl)) ?_
     refine Qd (jh hX (by simp[w1,w2,h3,w1,w2,h11,hYl,hYt,hYj,hv];(try (simp (disch:=omega) only[Q7];(try simp[w1,w2,h3,w1,w2,h11,hYl,hYt,hYj,hv])));rfl)) ?_
     refine Q13 (i+1) [0,4,5,6,9,10] 7 (by simp[hX]) Z3 (by simp[hnext,hYj,hv];try (simp (disch:=omega) only[Q7])) ?_ ?_
     ·omega
     ·omega
    ·try simp at h14
     have hv:sv[i]=lo[i]:=by
      have e: ¬lo[i]=a:=fun e=>by rw[e] at h14;simp at h14
      have:=svg i Za h3b
      rw[this,swT,if_neg e]
     refine Q3 (Qd (jh hX (by simp[w1,w2,h3,w1,w2,h11,hYl,hYt,hYj,hv];rfl)) ?_)
     refine Qd (jh hX (by simp[w1,w2,h3,w1,w2,h11,hYl,hYt,hYj,hv];(try (simp (disch:=omega) only[Q7];(try simp[w1,w2,h3,w1,w2,h11,hYl,hYt,hYj,hv])));rfl)) ?_
     refine Q13 (i+1) [0,4,5,6,9,10] 7 (by simp[hX]) Z3 (by simp[hnext,hYj,hv];try (simp (disch:=omega) only[Q7])) ?_ ?_
     ·omega
     ·omega
   ·try simp at h11
    obtain rfl:i=lo.length:=by omega
    rw[List.take_of_length_le (by simp;omega)]
    refine Qr (Q0 [0,9] (jh hX (by simp[w1,w2,h3,w1,w2,h11];rfl)) ?_)
    refine Qd (Q8.weak (jh hX (by simp[w1,w2,h3,w1,w2,h11];rfl)) (Le.trans (Le.absorb 0 0 22 (by simp[swl];rfl)) (Le.absorb 0 0 23 (by simp[svl];rfl)))) ?_
    refine Ql (by simp[w1,w2,h3,w1,w2,h11];rfl) Z17 (.of_eq ?_) ?_
    all_goals clear hX
    ·skip
     rfl
    ·skip
     simp[←swl,←svl]
end Go.Proofs
namespace Go.Proofs
open Go Go.Ev
theorem Qf7:Q6 Tryz.prog 170:=jcb Tryz.func170
theorem Qf0{F:SF}{o1 o2:Bool}{st lo:List Typ}{k:Int}(hs:Q1r F.l≤1048576)(hw:Qx F.l=true)(hst:st.length≤500)(hlo:lo.length≤500):Ct Tryz.prog 170 [.ptr 0 0 0] [some (25,[oSW F o1 o2 st lo k])] (.tup []) [some (25,[Qbf F (Qiu F o1 o2 st lo k)])]:=by
 have hl:F.l.length≤1099511627776:=by unfold Q1r at hs;omega
 have hfl:= @Qh2 F.i.cls F.l
 cases ho:o1
 all_goals
  refine jbS Tryz.func170 76 fun X hX=> ?_
  refine jL 11 [0,1,2,3,4,5,6,7,8,9] [10] [0,2] ([0]) hX Z5 (jH (p:=fun X hX=>(jh hX Z5)) (k:=.nil)) (jh hX Z5) ?_
  refine Q0 [0,2] (js hX 1 Z5 (Q8.call [0] rfl Z3 rfl Z5 Z8 Z18 Q18 Z3 Z3 Z5 jf)) ?_
  refine jL 9 [0,1,2,3,4,5,6,7,8] [] [0,2,3] ([0]) hX Z5 .nil (Q8.call [] rfl Z3 rfl Z5 Z8 (by apply Q2l<;>exact Z0) Q1j Z3 Z3 Z5 (jh hX Z5)) ?_
  refine Q0 [0,2] (js hX 4 Z5 (jm 10 30 [0,2,27,40] (p:=fun b3_4=>by (try simp at b3_4);exact (jh hX (by simp[-Qc,-Qb,b3_4,ho];rfl))) (q:=fun b3_4=>by (try simp at b3_4);(have h10:0≤Qk F.i.cls F.l 0:=Za;have h9:=hfl h10);exact (jh hX (by simp[-Qc,-Qb,b3_4,h9,h10,ho];rfl))) (k:=(Q8.call [0] rfl Z3 rfl Z5 Z8 Ze Qa Z3 Z3 Z5 jf)))) ?_
  refine Q5 (Q0 [0,2,4] (jh hX Z5) ?_)
  refine Q9 ?_
  first|refine Q21 (Le.expose 0 0 22 Z24) ?_|refine Q21 (Le.nilOb 3 _) ?_
  refine Qo (α:=Nat) [0,2,4] (fun i=>[(4,.int .i64 i)]) (fun i=>[(0,some (25,[oSV F (bif o1 then V.arr 2 0 st.length else V.lst false 3 (st.map eT)) (.lst o2 3 (lo.map eT)) (ndC (Qys F k) ((st.take i).all fun x=> !decide (x=Qdu F)) 10)])),(2,some (3,(bif o1 then st.map eT else [])))]) (fun i=>i≤st.length) (fun i=>st.length-i) (0) (fun i=>by simp;rfl) (by simp[Q14l,Qys,ho,abOK]) ?_ ?_
  ·simp
  rintro i hi
  refine Q5 (Q0 [0,2,4,49] (jh hX Z5) ?_)
  refine jd (fun h5=> ?_) (fun h5=> ?_)
  ·try simp at h5
   have hnx:=Q12m h5 (fun x=> !decide (x=Qdu F))
   have hq:(!decide (st[i].k=6)||(!decide (st[i].c=F.i.cls)|| !decide (st[i].at'=F.at')))= !decide (st[i]=Qdu F):=by simp[Q7h,Qdu]
   refine Q3 (Q5 (Q9 (Q2q (n:=11) (A:=[0,1,2,3,4,5,6,7,8,9,10]) (B:=[]) (L:=[0,1,2]) hmo (by kernel_rfl) tok hX (by simp[h5,ho];rfl) .nil (Q8.call [0,2] rfl Z3 rfl Z5 Z8 Z1h Qa Z3 Z3 Z5 jf) ?_)))
   refine Qd (jh hX (by simp[h5,ho];(try (simp (disch:=omega) only[Q7];(try simp[h5,ho])));rfl)) ?_
   refine Q13 (i+1) [0,2,4] 3 (by simp[hX]) Z3 (by simp[Qyt,hnx,ho,hq];try (simp (disch:=omega) only[Q7])) ?_ ?_
   ·omega
   ·omega
  ·try simp at h5
   obtain rfl:i=st.length:=by omega
   rw[List.take_of_length_le (Nat.le_refl _)]
   first|refine Q21 (Le.absorb 0 0 22 Z8) ?_|skip
   refine Qr (Q0 [0,2,68] (jh hX (by simp[h5,ho];rfl)) ?_)
   refine jd (fun h8=> ?_) (fun h8=> ?_)
   ·try simp at h8
    refine Q0 [0,2] (js hX 3 (by simp[h5,ho];rfl) (Q8.call [0] rfl Z3 rfl Z5 Z8 (by apply (Q2o (a:=Qdu F) (b:=zT))<;>exact Z0) Q2p Z3 Z3 Z5 jf)) ?_
    refine Qd (js hX 2 (by simp[h5,ho];rfl) (Q8.call [0] rfl Z3 rfl Z5 Z8 (by simp only[←List.map_map];apply Q1w (t:=Qdu F)<;>first|assumption|omega|(simp;omega)) Qh Z3 Z3 Z5 jf)) ?_
    refine Ql (by simp[h5,ho];rfl) Z17 (.of_eq ?_) ?_
    all_goals clear hX
    ·skip
     simp_all
    ·skip
     have e: ∀b,Qiu F b o2 st lo k=⟨true,true,st.map (swT (Qdu F) zT)++[Qdu F],lo.map (swT (Qdu F) zT),0⟩:=fun b=>by unfold Qiu Qxl;rw[if_pos h8]
     simp[e,h8]
   ·try simp at h8
    refine Q3 (Ql (by simp[h5,ho];rfl) Z17 (.of_eq ?_) ?_)
    all_goals clear hX
    ·skip
     simp_all
    ·skip
     have e: ∀b,Qiu F b o2 st lo k=⟨b,o2,st,lo,Qxl F st k⟩:=fun b=>by unfold Qiu Qxl;rw[if_neg h8]
     simp[e,Qxl]
end Go.Proofs
namespace Go.Proofs
open Go Go.Ev
theorem Qcb:Q6 Tryz.prog 239:=jcb Tryz.func239
theorem Qc5{b:Bool}:Ct Tryz.prog 239 [.bool b] [] (.int .i64 (if b=true then 1 else 0)) []:=by
 refine jbS Tryz.func239 4 fun X hX=> ?_
 refine jq [0] ?_
 refine Q5 (jq [3] ?_)
 refine jd (fun h1=> ?_) (fun h1=> ?_)
 ·try simp at h1
  refine jq [2] ?_
  refine Q4 (je0 ?_)
  simp_all
 ·try simp at h1
  refine Q3 (jq [2] ?_)
  refine Q4 (je0 ?_)
  simp_all
end Go.Proofs
namespace Go.Proofs
open Go Go.Ev
theorem Qd4:Q6 Tryz.prog 298:=jcb Tryz.func298
theorem Qb9{l:List Cls}(hs:Q1r l≤1048576)(hw:Qx l=true){m:Nat}(ih: ∀n:Str,rkU l (Qk n l 0)<m→Ct Tryz.prog 298 [.lst false 6 (l.map eC),.str n] [] (.lst true 3 ((Q9g l n).map eF)) []){n:Str}(hm:rkU l (Qk n l 0)≤m):Ct Tryz.prog 298 [.lst false 6 (l.map eC),.str n] [] (.lst true 3 ((Q9g l n).map eF)) []:=by
 have hll:l.length≤1099511627776:=by unfold Q1r at hs;omega
 refine jbS Tryz.func298 53 fun X hX=> ?_
 refine jq [0,1] ?_
 refine Q0 [0,5] (jt 2 (k:=(jc [] (c:=(by apply Q2l<;>exact Z20)) (a:=Q1j) (k:=jr)))) ?_
 refine Q5 (jq [0,5,12] ?_)
 refine jd (fun h2=> ?_) (fun h2=> ?_)
 ·try simp at h2
  refine Q0 [4] (jh hX Zy) ?_
  refine Q4 (je Zy ?_)
  rw[Q13o hw h2];rfl
 ·try simp at h2
  obtain ⟨q,hqe⟩: ∃q:Nat,Qk n l 0=q:=⟨_,(Int.toNat_of_nonneg Za).symm⟩
  obtain ⟨hq,hfe⟩:=Qz0 hw hqe
  obtain ⟨_,hrk0⟩:=Q10c hw hqe
  have hrk:rkU l (Qk l[q].super l 0)<m:=by omega
  have hsq:Q1n l[q]≤1048576:=Nat.le_trans (Q4v hq) hs
  have hfq:l[q].fields.length≤1048576:=by simp only[Q1n] at hsq;omega
  have hfl:=Qrn (n:=l[q].super) hw
  rw[hqe]
  refine Q3 (Q0 [0,5,6] (js hX 6 (by simp[h2,hq];rfl) (jc [] (c:=(ih _ hrk)) (ha:=Z3) (hi:=Z3) (a:=Qd4) (k:=(jh hX (by simp[h2,hq];rfl))))) ?_)
  refine Q5 (Q0 [0,5,6,7] (jh hX (by simp[h2,hq];rfl)) ?_)
  refine Q9 (Qo (α:=List Fld×Nat) [0,5,6,7] (fun p=>[(6,.arr 0 0 p.1.length),(7,.int .i64 p.2)]) (fun p=>[(0,some (3,p.1.map eF))]) (fun p=>p.2≤l[q].fields.length∧p.1=Q9g l l[q].super++(l[q].fields.take p.2).filter (fun f=> !f.static)) (fun p=>l[q].fields.length-p.2) ((Q9g l l[q].super,0)) (fun p=>by simp;rfl) Z3 ?_ ?_)
  ·simp
  rintro ⟨o,i⟩ ⟨hi,hI⟩
  simp only at hi hI
  have ho:o.length≤1100000000:=by
   rw[hI,List.length_append]
   have h1:=List.length_filter_le (fun f:Fld=> !f.static) (l[q].fields.take i)
   rw[List.length_take] at h1
   omega
  have w1:(o.length+1)*40≤140737488355328:=by omega
  have w2:o.length≤1099511627775:=by omega
  refine Q5 (Q0 [0,5,6,7,28] (jh hX (by simp[h2,hq,w1,w2];rfl)) ?_)
  refine jd (fun h6=> ?_) (fun h6=> ?_)
  ·try simp at h6
   refine Q3 (Q5 (Q9 (Q0 [0,5,6,7,40] (jh hX (by simp[h2,hq,w1,w2,h6];rfl)) ?_)))
   refine jd (fun h8=> ?_) (fun h8=> ?_)
   ·try simp at h8
    refine Qd (jh hX (by simp[h2,hq,w1,w2,h6];rfl)) ?_
    refine Qd (jh hX (by simp[h2,hq,w1,w2,h6];(try (simp (disch:=omega) only[Q7];(try simp[h2,hq,w1,w2,h6])));rfl)) ?_
    refine Q13 (if l[q].fields[i].static=true then (o,i+1) else (o++[l[q].fields[i]],i+1)) [0,5,6,7] 1 (by simp[hX]) Z3 (by simp[h6,h8];try (simp (disch:=omega) only[Q7])) ?_ ?_
    ·(simp only[h8,Bool.false_eq_true,if_false,if_true];refine ⟨by omega,?_⟩;rw[Qdy h6,h8,hI];simp)
    ·(simp only[h8,Bool.false_eq_true,if_false,if_true];omega)
   ·try simp at h8
    refine Q3 (Qd (jh hX (by simp[h2,hq,w1,w2,h6];(try (simp (disch:=omega) only[Q7];(try simp[h2,hq,w1,w2,h6])));rfl)) ?_)
    refine Q13 (if l[q].fields[i].static=true then (o,i+1) else (o++[l[q].fields[i]],i+1)) [0,5,6,7] 1 (by simp[hX]) Z3 (by simp[h6,h8];try (simp (disch:=omega) only[Q7])) ?_ ?_
    ·(simp only[h8,Bool.false_eq_true,if_false,if_true];refine ⟨by omega,?_⟩;rw[Qdy h6,h8,hI];simp)
    ·(simp only[h8,Bool.false_eq_true,if_false,if_true];omega)
  ·try simp at h6
   have hil:i=l[q].fields.length:=by omega
   subst hil
   rw[List.take_of_length_le (Nat.le_refl _)] at hI
   refine Qr (Q0 [4] (jh hX (by simp[h2,hq,w1,w2,h6];rfl)) ?_)
   refine Q4 (je (by simp[h2,hq,w1,w2,h6];rfl) ?_)
   rw[hfe,hI];rfl
theorem Qls{l:List Cls}(hs:Q1r l≤1048576)(hw:Qx l=true){n:Str}:Ct Tryz.prog 298 [.lst false 6 (l.map eC),.str n] [] (.lst true 3 ((Q9g l n).map eF)) []:=by
 have key: ∀(m:Nat) (n:Str),rkU l (Qk n l 0)≤m→Ct Tryz.prog 298 [.lst false 6 (l.map eC),.str n] [] (.lst true 3 ((Q9g l n).map eF)) []:=by
  intro m
  induction m with
  |zero=>intro n hm;exact Qb9 hs hw (m:=0) (fun _ h=>absurd h Za) hm
  |succ m ih=>intro n hm;exact Qb9 hs hw (m:=m+1) (fun n' h=>ih n' Za) hm
 exact key _ n (Nat.le_refl _)
end Go.Proofs
namespace Go.Proofs
open Go Go.Ev
theorem Q5p:Q6 Tryz.prog 240:=jcb Tryz.func240
theorem Q5k{l:List Cls}(hs:Q1r l≤1048576)(hw:Qx l=true){c n t:Str}:Ct Tryz.prog 240 [.lst false 6 (l.map eC),.str c,.str n,.str t] [] (eFd (ffL l n t (Qu l c)).1) []:=by
 have hll:l.length≤1099511627776:=by unfold Q1r at hs;omega
 have hsz: ∀{k:Nat} (h:k<l.length),l[k].fields.length≤1048576:=fun h=>by
  have:=Nat.le_trans (Q4v h) hs
  simp only[Q1n] at this;omega
 refine jbS Tryz.func240 134 fun X hX=> ?_
 refine jq [0,1,2,3,8] ?_
 refine Q5 (Q0 [0,2,3,8,9] (jt 2 (k:=(jc [] (c:=(by apply Q2l<;>exact Z20)) (a:=Q1j) (k:=jr)))) ?_)
 refine Q9 (Qo (α:=Int) [0,2,3,8,9] (fun k=>[(9,.int .i64 k)]) (fun k=>[]) (fun k=>(-1≤k∧k<l.length)∧ffU l n t k=(ffL l n t (Qu l c)).1) (fun k=>rkU l k) (Qk c l 0) (fun k=>by simp;rfl) Z3 ?_ ?_)
 ·exact ⟨Qh3,Q125 hw⟩
 rintro k ⟨hk,hI⟩
 refine Q5 (jq [0,2,3,8,9,20] ?_)
 refine jd (fun h2=> ?_) (fun h2=> ?_)
 ·try simp at h2
  obtain ⟨p,rfl⟩: ∃j:Nat,k=j:=⟨k.toNat,by omega⟩
  have hp:p<l.length:=by omega
  rw[Q15a hw hp] at hI
  have hpf:=hsz hp
  have hfl:=Qrn (n:=l[p].super) hw
  refine Q3 (Q5 (Q9 (Q0 [0,2,3,8,9,10] (jh hX (by simp[h2,hp];rfl)) ?_)))
  refine Q9 (Qo (α:=Nat) [0,2,3,8,9,10] (fun i=>[(10,.int .i64 i)]) (fun i=>[]) (fun i=>i≤l[p].fields.length∧ ∀x∈l[p].fields.take i,ndt n t x=false) (fun i=>l[p].fields.length-i) (0) (fun i=>by simp;rfl) Z3 ?_ ?_)
  ·simp
  rintro i ⟨hi,hJ⟩
  refine Q5 (Q0 [0,2,3,8,9,10,35] (jh hX (by simp[h2,hp];rfl)) ?_)
  refine jd (fun h5=> ?_) (fun h5=> ?_)
  ·try simp at h5
   refine Q3 (Q5 (Q9 (Q0 [0,2,3,8,9,10,11] (jh hX (by simp[h2,hp,h5];rfl)) ?_)))
   refine Q5 (Q0 [0,2,3,8,9,10,11,55] (js hX 5 (by simp[h2,hp,h5];rfl) (jm 5 50 [0,2,3,8,9,10,11,55] (p:=by intro b;(try simp at b);exact (jh hX (by simp[-Qc,-Qb,h2,hp,h5];rfl))) (q:=by intro b;(try simp at b);exact (jh hX (by simp[-Qc,-Qb,h2,hp,h5];rfl))) (k:=jf))) ?_)
   refine jd (fun h8=> ?_) (fun h8=> ?_)
   ·try simp at h8
    have h8n:ndt n t l[p].fields[i]=false:=by unfold ndt;grind
    refine Qr (Qd (jh hX (by simp[h2,hp,h5];(try (simp (disch:=omega) only[Q7];(try simp[h2,hp,h5])));rfl)) ?_)
    refine Q13 (i+1) [0,2,3,8,9,10] 1 (by simp[hX]) Z3 (by simp[h2,hp,h5];try (simp (disch:=omega) only[Q7])) ?_ ?_
    ·exact ⟨by omega,fun x hx=>by
     rw[List.take_succ_eq_append_getElem h5] at hx
     rcases List.mem_append.1 hx with hx|hx
     ·exact hJ x hx
     ·rw[List.mem_singleton.1 hx];exact h8n⟩
    ·omega
   ·try simp at h8
    have h8y:ndt n t l[p].fields[i]=true:=by unfold ndt;grind
    rw[Q77 h5 hJ h8y,if_pos Za,Int.toNat_natCast] at hI
    refine Q3 (Q0 [0,8,9,10,11,12] (jh hX (by simp[h2,hp,h5];rfl)) ?_)
    refine Q5 (Q0 [0,8,9,10,12,57] (jh hX (by simp[h2,hp,h5];rfl)) ?_)
    refine jd (fun h10=> ?_) (fun h10=> ?_)
    ·try simp at h10
     refine Q5 (Q0 [0,8,9,10,12,13] (jh hX (by simp[h2,hp,h5];rfl)) ?_)
     refine Q9 (Qo (α:=Nat×Nat) [0,8,9,10,12,13] (fun z=>[(12,.int .i64 z.1),(13,.int .i64 z.2)]) (fun z=>[]) (fun z=>z.2≤p+1∧z.1=Qxi l p i z.2) (fun z=>p+1-z.2) ((0,0)) (fun z=>by simp;rfl) Z3 ?_ ?_)
     ·simp[Qxi,Q7w]
     rintro ⟨q,c2⟩ ⟨hc2,hq⟩
     simp only at hc2 hq
     refine Q5 (Q0 [0,8,9,10,12,13,60] (jh hX (by simp[h2,hp,h5];rfl)) ?_)
     refine jd (fun h12=> ?_) (fun h12=> ?_)
     ·try simp at h12
      have hcl2:c2<l.length:=by omega
      refine Q3 (Q5 (Q9 (Q0 [0,8,9,10,12,13,14] (jh hX (by simp[h2,hp,h5,h12,hcl2];rfl)) ?_)))
      refine Q9 (Qo (α:=Nat×Nat) [0,8,9,10,12,13,14] (fun z=>[(12,.int .i64 z.1),(14,.int .i64 z.2)]) (fun z=>[]) (fun z=>z.2≤l[c2].fields.length∧z.1=inS l p i c2 z.2) (fun z=>l[c2].fields.length-z.2) ((q,0)) (fun z=>by simp;rfl) Z3 ?_ ?_)
      ·exact ⟨by simp,by simp only;rw[hq,Q16p h12]⟩
      rintro ⟨q2,k2⟩ ⟨hk2,hq2⟩
      simp only at hk2 hq2
      have hB:=Q158 l p i c2 k2 hcl2
      have hB2:=hsz hcl2
      refine Q5 (Q0 [0,8,9,10,12,13,14,70] (jh hX (by simp[h2,hp,h5,h12,hcl2];rfl)) ?_)
      refine jd (fun h15=> ?_) (fun h15=> ?_)
      ·try simp at h15
       refine Q3 (Q5 (Q9 (Q0 [0,8,9,10,12,13,14,91] (js hX 10 (by simp[h2,hp,h5,h12,hcl2,h15];rfl) (jm 9 82 [0,8,9,10,12,13,14,91] (p:=by intro b;(try simp at b);exact (js hX 4 (by simp[-Qc,-Qb,h2,hp,h5,h12,hcl2,h15];rfl) (jm 4 86 [0,8,9,10,12,13,14,82,90] (p:=fun b17_14=>by (try simp at b17_14);exact (jh hX (by simp[-Qc,-Qb,h2,hp,h5,h12,hcl2,h15,b17_14];rfl))) (q:=fun b17_14=>by (try simp at b17_14);exact (jh hX (by simp[-Qc,-Qb,h2,hp,h5,h12,hcl2,h15,b17_14];rfl))) (k:=(jh hX (by simp[-Qc,-Qb,h2,hp,h5,h12,hcl2,h15];rfl)))))) (q:=by intro b;(try simp at b);exact (jh hX (by simp[-Qc,-Qb,h2,hp,h5,h12,hcl2,h15];rfl))) (k:=jf))) ?_)))
       refine jd (fun h17=> ?_) (fun h17=> ?_)
       ·try simp at h17
        have hb:(l[c2].fields[k2].static&&(decide (c2<p)||decide (k2<i)))=true:=by simpa using h17
        refine Qd (jh hX (by simp[h2,hp,h5,h12,hcl2,h15,h17,hb];(try (simp (disch:=omega) only[Q7];(try simp[h2,hp,h5,h12,hcl2,h15,h17,hb])));rfl)) ?_
        refine Qd (jh hX (by simp[h2,hp,h5,h12,hcl2,h15,h17,hb];(try (simp (disch:=omega) only[Q7];(try simp[h2,hp,h5,h12,hcl2,h15,h17,hb])));rfl)) ?_
        refine Qp ((q2+(l[c2].fields[k2].static&&(decide (c2<p)||decide (k2<i))).toNat,k2+1)) [0,8,9,10,12,13,14] (by simp[h15,hb];try (simp (disch:=omega) only[Q7])) ?_ ?_
        ·exact ⟨by simp only;omega,by simp only;rw[Q11y hcl2 h15,hq2]⟩
        ·simp only;omega
       ·try simp at h17
        have hb:(l[c2].fields[k2].static&&(decide (c2<p)||decide (k2<i)))=false:=by simpa using h17
        refine Q3 (Qd (jh hX (by simp[h2,hp,h5,h12,hcl2,h15,h17,hb];(try (simp (disch:=omega) only[Q7];(try simp[h2,hp,h5,h12,hcl2,h15,h17,hb])));rfl)) ?_)
        refine Qp ((q2+(l[c2].fields[k2].static&&(decide (c2<p)||decide (k2<i))).toNat,k2+1)) [0,8,9,10,12,13,14] (by simp[h15,hb];try (simp (disch:=omega) only[Q7])) ?_ ?_
        ·exact ⟨by simp only;omega,by simp only;rw[Q11y hcl2 h15,hq2]⟩
        ·simp only;omega
      ·try simp at h15
       have hkl:k2=l[c2].fields.length:=by omega
       refine Qr (Qd (jh hX (by simp[h2,hp,h5,h12,hcl2,h15];(try (simp (disch:=omega) only[Q7];(try simp[h2,hp,h5,h12,hcl2,h15])));rfl)) ?_)
       refine Qp ((q2,c2+1)) [0,8,9,10,12,13] (by simp[h2,hp,h5,h12,hcl2,h15];try (simp (disch:=omega) only[Q7])) ?_ ?_
       ·exact ⟨by simp only;omega,by simp only;rw[hq2,Q13m hp h5 h12 hkl]⟩
       ·simp only;omega
     ·try simp at h12
      obtain rfl:c2=p+1:=by omega
      have hpl:fpl l p i=q:=by rw[Qwl hp h5 h10,hq,Qxi,if_neg Za,Qb hp]
      refine Qr (Q0 [8] (jh hX (by simp[h2,hp,h5,h12];rfl)) ?_)
      refine Q4 (je (by simp[h2,hp,h5,h12];rfl) ?_)
      rw[←hI,hpl];rfl
    ·try simp at h10
     refine Q3 (Q0 [0,8,9,10,12] (js hX 6 (by simp[h2,hp,h5];rfl) (jF (c:=(by apply Qls<;>exact Z20)) (a:=Qd4) (k:=(jh hX (by simp[h2,hp,h5];rfl))))) ?_)
     refine Q5 (Q0 [0,8,9,10,12,15] (jh hX (by simp[h2,hp,h5];rfl)) ?_)
     refine Q9 (Qo (α:=Nat×Nat) [0,8,9,10,12,15] (fun z=>[(12,.int .i64 z.1),(15,.int .i64 z.2)]) (fun z=>[]) (fun z=>z.2≤i∧z.1=(Q9g l l[p].super).length+Qsu (l[p].fields.take z.2)) (fun z=>i-z.2) (((Q9g l l[p].super).length,0)) (fun z=>by simp;rfl) Z3 ?_ ?_)
     ·exact ⟨by simp,by simp[Qsu]⟩
     rintro ⟨q,k2⟩ ⟨hk2,hq⟩
     simp only at hk2 hq
     have hB1:=Qyr (l[p].fields.take k2)
     rw[List.length_take] at hB1
     refine Q5 (Q0 [0,8,9,10,12,15,111] (jh hX (by simp[h2,hp,h5];rfl)) ?_)
     refine jd (fun h22=> ?_) (fun h22=> ?_)
     ·try simp at h22
      have hk3:k2<l[p].fields.length:=by omega
      refine Q3 (Q5 (Q9 (Q0 [0,8,9,10,12,15,123] (jh hX (by simp[h2,hp,h5,h22,hk3];rfl)) ?_)))
      refine jd (fun h24=> ?_) (fun h24=> ?_)
      ·try simp at h24
       refine Qd (jh hX (by simp[h2,hp,h5,h22,hk3];(try (simp (disch:=omega) only[Q7];(try simp[h2,hp,h5,h22,hk3])));rfl)) ?_
       refine Qd (jh hX (by simp[h2,hp,h5,h22,hk3];(try (simp (disch:=omega) only[Q7];(try simp[h2,hp,h5,h22,hk3])));rfl)) ?_
       refine Qp ((q+(!l[p].fields[k2].static).toNat,k2+1)) [0,8,9,10,12,15] (by simp[h22,h24];try (simp (disch:=omega) only[Q7])) ?_ ?_
       ·exact ⟨by simp only;omega,by simp only;rw[Qn3 Za,hq];omega⟩
       ·simp only;omega
      ·try simp at h24
       refine Q3 (Qd (jh hX (by simp[h2,hp,h5,h22,hk3];(try (simp (disch:=omega) only[Q7];(try simp[h2,hp,h5,h22,hk3])));rfl)) ?_)
       refine Qp ((q+(!l[p].fields[k2].static).toNat,k2+1)) [0,8,9,10,12,15] (by simp[h22,h24];try (simp (disch:=omega) only[Q7])) ?_ ?_
       ·exact ⟨by simp only;omega,by simp only;rw[Qn3 Za,hq];omega⟩
       ·simp only;omega
     ·try simp at h22
      obtain rfl:k2=i:=by omega
      have hpl:fpl l p k2=q:=by rw[Qyy hp h5 (by simp[h10]),hq]
      refine Qr (Q0 [8] (jh hX (by simp[h2,hp,h5,h22];rfl)) ?_)
      refine Q4 (je (by simp[h2,hp,h5,h22];rfl) ?_)
      rw[←hI,hpl];rfl
  ·try simp at h5
   rw[Q6y (fun x hx=>hJ x (by rw[List.take_of_length_le Za];exact hx)),if_neg Za] at hI
   refine Qr (Qd (js hX 6 (by simp[h2,hp,h5];rfl) (jc [] (c:=(by apply Q2l<;>exact Z20)) (a:=Q1j) (k:=(jh hX (by simp[h2,hp,h5];rfl))))) ?_)
   refine Qp (nxt l p) [0,2,3,8,9] (by simp[Qbg,hp]) ?_ ?_
   ·exact ⟨@Qay l p,hI⟩
   ·exact Qxd hw hp
 ·try simp at h2
  rw[Q13q Za] at hI
  refine Qr (Q0 [8] (jh hX Zy) ?_)
  refine Q4 (je Zy ?_)
  rw[←hI];rfl
end Go.Proofs
namespace Go.Proofs
open Go Go.Ev
theorem Qd3:Q6 Tryz.prog 241:=jcb Tryz.func241
theorem Qcz{l:List Cls}{x:Fnd}{n:Str}(hs:Q1r l≤1048576)(hc:0≤Qk x.c l 0):Ct Tryz.prog 241 [.lst false 6 (l.map eC),eFd x,.str n] [] (.bool (Qtc l x.c n)) []:=by
 have hll:l.length≤1099511627776:=by unfold Q1r at hs;omega
 obtain ⟨q,hq,e1,_,e3,_⟩:=Q53 hc
 unfold Qtc
 rw[e3]
 have hfl:l[q].fields.length≤1048576:=by
  have:=Nat.le_trans (Q4v hq) hs
  simp only[Q1n] at this;omega
 refine jbS Tryz.func241 37 fun X hX=> ?_
 refine Q0 [0,2,4] (jh hX (by simp[e1,hq];rfl)) ?_
 refine Q0 [2,7] (js hX 4 (by simp[e1,hq];rfl) (jc [] (c:=(by apply Q2l<;>exact Z20)) (a:=Q1j) (k:=(jh hX (by simp[e1,hq];rfl))))) ?_
 refine Q5 (Q0 [2,7,8] (jh hX (by simp[e1,hq];rfl)) ?_)
 refine Q9 (Qo (α:=Nat) [2,7,8] (fun i=>[(8,.int .i64 i)]) (fun i=>[]) (fun i=>i≤l[q].fields.length∧ ∀x∈l[q].fields.take i,(fun f:Fld=>decide (f.name=n)) x=false) (fun i=>l[q].fields.length-i) (0) (fun i=>by simp;rfl) Z3 ?_ ?_)
 ·simp
 rintro i ⟨hi,hJ⟩
 refine Q5 (Q0 [2,7,8,20] (jh hX (by simp[e1,hq];rfl)) ?_)
 refine jd (fun h3=> ?_) (fun h3=> ?_)
 ·try simp at h3
  refine Q3 (Q5 (Q9 (Q0 [2,7,8,30] (jh hX (by simp[e1,hq,h3];rfl)) ?_)))
  refine jd (fun h5=> ?_) (fun h5=> ?_)
  ·try simp at h5
   refine Q0 [6] (jh hX (by simp[e1,hq,h3];rfl)) ?_
   refine Q4 (je (by simp[e1,hq,h3];rfl) ?_)
   rw[Q77 h3 hJ (by simpa using h5),if_pos Za];simp[h3]
  ·try simp at h5
   refine Q3 (Qd (jh hX (by simp[e1,hq,h3];(try (simp (disch:=omega) only[Q7];(try simp[e1,hq,h3])));rfl)) ?_)
   refine Qp (i+1) [2,7,8] (by simp[e1,hq,h3];try (simp (disch:=omega) only[Q7])) ?_ ?_
   ·exact ⟨by omega,fun x hx=>by
    rw[List.take_succ_eq_append_getElem h3] at hx
    rcases List.mem_append.1 hx with hx|hx
    ·exact hJ x hx
    ·rw[List.mem_singleton.1 hx];simpa using h5⟩
   ·omega
 ·try simp at h3
  refine Qr (Q0 [6] (jh hX (by simp[e1,hq,h3];rfl)) ?_)
  refine Q4 (je (by simp[e1,hq,h3];rfl) ?_)
  rw[Q6y (fun x hx=>hJ x (by rw[List.take_of_length_le Za];exact hx)),if_neg Za]
end Go.Proofs
