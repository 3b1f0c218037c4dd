/- Part 9 of what the proofs lean on: what the functions of the program and of the reference compute. Conditions: none. -/
import Derived.Test.YtkjgmpccmpmmiaaGreatK07
set_option linter.all false
set_option linter.unusedVariables false
set_option linter.unusedSimpArgs false
set_option maxHeartbeats 2000000
set_option maxRecDepth 100000
namespace Go.Proofs
open Go Go.Ev
theorem Qdt:Q6 Tryz.prog 219:=jcb Tryz.func219
theorem Qn7{l:List Cls}{n:Str}(hl:l.length≤1099511627776):Ct Tryz.prog 219 [.lst false 6 (l.map eC),.str n] [] (.str (Q6q l n)) []:=by
 refine jbS Tryz.func219 24 fun X hX=> ?_
 refine jq [0,1] ?_
 refine Q0 [0,1,5] (jt 1 (k:=(jc [] (c:=Z7m) (a:=Q5p) (k:=jr)))) ?_
 refine Q4 (jq [0,1,5,9] ?_)
 refine jd (fun h2=> ?_) (fun h2=> ?_)
 ·try simp at h2
  refine jq [4] ?_
  refine Q5 (je0 ?_)
  simp only[Q6q,Qt,Q16]
  (try simp_all)<;>grind
 ·try simp at h2
  refine Q3 (Q4 (jq [0,1,5,11] ?_))
  refine jd (fun h4=> ?_) (fun h4=> ?_)
  ·try simp at h4
   refine jq [4] ?_
   refine Q5 (je0 ?_)
   simp only[Q6q,Qt,Q16]
   (try simp_all)<;>grind
  ·try simp at h4
   refine Q3 (Q4 (jq [0,1,13] ?_))
   refine jd (fun h6=> ?_) (fun h6=> ?_)
   ·try simp at h6
    refine jq [4] ?_
    refine Q5 (je (by simp[h6];rfl) ?_)
    simp only[Q6q,Qt,Q16]
    (try simp_all)<;>grind
   ·try simp at h6
    refine Q3 (Q0 [0,5] (jt 2 (k:=(jc [] (c:=Z7t) (a:=Q1m) (k:=jr)))) ?_)
    refine Q4 (jq [0,5,18] ?_)
    refine jd (fun h9=> ?_) (fun h9=> ?_)
    ·try simp at h9
     refine jq [4] ?_
     refine Q5 (je (by simp[h6,h9];rfl) ?_)
     simp only[Q6q,Qt,Q16]
     (try simp_all)<;>grind
    ·try simp at h9
     have h9b:=Qgp (n:=n) (l:=l) Zb
     have h9c:0≤Qi n l 0:=by omega
     refine Q3 (Q0 [4] (jh hX (by simp[h6,h9,h9b,h9c];rfl)) ?_)
     refine Q5 (je (by simp[h6,h9,h9b,h9c];rfl) ?_)
     simp only[Q6q,Qt,Q16]
     (try simp_all)<;>grind
theorem Q8n:Q6 Tryz.prog 145:=jcb Tryz.func145
theorem Qh0{l:List Cls}{a b:Str}(hl:l.length≤1099511627776)(hw:Qs l=true):Ct Tryz.prog 145 [.lst false 6 (l.map eC),.str a,.str b] [] (.bool (subS l a b)) []:=by
 refine jbS Tryz.func145 15 fun X hX=> ?_
 refine jq [0,1,2] ?_
 refine Q4 (Q7 (Qh (α:=Str) [0,1,2] (fun x=>[(1,.str x)]) (fun x=>[]) (fun x=>subS l x b=subS l a b) (fun x=>(chS l x).length) (a) (fun x=>by simp;rfl) Z3 ?_ ?_))
 ·rfl
 rintro x hI
 refine Q4 (jq [0,1,2,8] ?_)
 refine jd (fun h1=> ?_) (fun h1=> ?_)
 ·try simp at h1
  rw[Q142 hw h1] at hI
  refine Q3 (Q7 (Q4 (jq [0,1,2,11] ?_)))
  refine jd (fun h2=> ?_) (fun h2=> ?_)
  ·try simp at h2
   refine jq [6] ?_
   refine Q5 (je0 ?_)
   rw[←hI,h2];simp
  ·try simp at h2
   rw[decide_eq_false (fun e=>h2 e.symm),Bool.false_or] at hI
   refine Q3 (Qb (jt 2 (k:=(jc [] (c:=Z7o) (a:=Qdt) (k:=jr)))) ?_)
   refine Qo (Q6q l x) [0,1,2] Z5b ?_ ?_
   ·exact hI
   ·rw[Qvu hw h1];simp
 ·try simp at h1
  refine Ql (jq [6] ?_)
  refine Q5 (je0 ?_)
  rw[←hI,h1,Q11v hw]
theorem Q4n:Q6 Tryz.prog 246:=jcb Tryz.func246
theorem Qf1{t:Typ}:Ct Tryz.prog 246 [eT t] [] (.bool (decide (t.k=4∨t.k=5))) []:=by
 refine jbS Tryz.func246 11 fun X hX=> ?_
 refine jq [1] ?_
 refine Q0 [2] (jt 4 (k:=(jm 4 6 [10] (p:=Zcb) (q:=Zcb) (k:=jr)))) ?_
 refine Q5 (je0 ?_)
 simp
theorem Qt8:Q6 Tryz.prog 223:=jcb Tryz.func223
theorem Qt1{l:List Cls}(hl:l.length≤1099511627776)(hw:Qs l=true){a b:Typ}:Ct Tryz.prog 223 [.lst false 6 (l.map eC),eT a,eT b] [] (.bool (leT l a b)) []:=by
 refine jbS Tryz.func223 61 fun X hX=> ?_
 refine jq [0,4,5] ?_
 refine Q4 (Q7 (Q0 [0,4,5,7] (jt 4 (k:=(jm 4 11 [0,4,5,15] (p:=Zcb) (q:=Zcb) (k:=jr)))) ?_))
 refine jd (fun h1=> ?_) (fun h1=> ?_)
 ·try simp at h1
  refine jq [6] ?_
  refine Q5 (je0 ?_)
  cases a;cases b;simp only[leT,Qt] at*
  (try simp_all)<;>grind
 ·try simp at h1
  refine jq [0,4,5,16] ?_
  refine jd (fun h3=> ?_) (fun h3=> ?_)
  ·try simp at h3
   refine Q0 [6] (jt 4 (k:=(jm 3 23 [26] (p:=Zcb) (q:=Zcr) (k:=jr)))) ?_
   refine Q5 (je0 ?_)
   cases a;cases b;simp only[leT,Qt] at*
   (try simp_all)<;>grind
  ·try simp at h3
   refine Q4 (Q0 [0,4,5,27] (jt 4 (k:=(jm 4 31 [0,4,5,35] (p:=Zcb) (q:=Zcb) (k:=jr)))) ?_)
   refine jd (fun h5=> ?_) (fun h5=> ?_)
   ·try simp at h5
    refine Q3 (jd (fun h5_1=> ?_) (fun h5_1=> ?_))
    ·try simp at h5_1
     refine Q0 [6] (jt 5 (k:=(jc [] (c:=Z5c) (a:=Q8n) (k:=jr)))) ?_
     refine Q5 (je0 ?_)
     cases a;cases b;simp only[leT,Qt] at*
     (try simp_all)<;>grind
    ·try simp at h5_1
     refine Q0 [5,50] (jt 1 (k:=(jc [] (c:=Z2p) (a:=Q4n) (k:=(jt 1 (k:=(jm 4 53 [5,57] (p:=Zcb) (q:=Zcb) (k:=jr)))))))) ?_
     refine jd (fun h8=> ?_) (fun h8=> ?_)
     ·try simp at h8
      refine jq [6] ?_
      refine Q5 (je0 ?_)
      cases a;cases b;simp only[leT,Qt] at*
      (try simp_all)<;>grind
     ·try simp at h8
      refine Q3 (jq [6] ?_)
      refine Q5 (je0 ?_)
      cases a;cases b;simp only[leT,Qt] at*
      (try simp_all)<;>grind
   ·try simp at h5
    refine Qb (jt 4 (k:=(jm 4 39 [0,4,5,43] (p:=Zcb) (q:=Zcb) (k:=jr)))) ?_
    refine jd (fun h6=> ?_) (fun h6=> ?_)
    ·try simp at h6
     refine Q0 [6] (jt 5 (k:=(jc [] (c:=Z5c) (a:=Q8n) (k:=jr)))) ?_
     refine Q5 (je0 ?_)
     cases a;cases b;simp only[leT,Qt] at*
     (try simp_all)<;>grind
    ·try simp at h6
     refine Q0 [5,50] (jt 1 (k:=(jc [] (c:=Z2p) (a:=Q4n) (k:=(jt 1 (k:=(jm 4 53 [5,57] (p:=Zcb) (q:=Zcb) (k:=jr)))))))) ?_
     refine jd (fun h8=> ?_) (fun h8=> ?_)
     ·try simp at h8
      refine jq [6] ?_
      refine Q5 (je0 ?_)
      cases a;cases b;simp only[leT,Qt] at*
      (try simp_all)<;>grind
     ·try simp at h8
      refine Q3 (jq [6] ?_)
      refine Q5 (je0 ?_)
      cases a;cases b;simp only[leT,Qt] at*
      (try simp_all)<;>grind
theorem Q1i:Q6 Tryz.prog 236:=jcb Tryz.func236
theorem Qb7{F:SF}{o1 o2:Bool}{st lo:List Typ}{k:Int}(hl:F.l.length≤1099511627776)(hw:Qs F.l=true){t u:Typ}:Ct Tryz.prog 236 [.ptr 0 0 0,eT t,eT u] [some (25,[oSW F o1 o2 st lo k])] (.tup []) [some (25,[oSW F (o1) (o2) (st) (lo) (ndC k (leT F.l t u) 10)])]:=by
 refine jbS Tryz.func236 15 fun X hX=> ?_
 refine jq [0,4,5] ?_
 refine Q1x (n:=8) (A:=[0,1,2,3,4,5,6]) (B:=[7]) (L:=[0,1,2]) hmo Z24 tok hX Z7 (jH (p:=fun X hX=>(jc [] (c:=(by apply Qt1<;>exact Z1o)) (a:=Qt8) (k:=jf))) (k:=.nil)) (jc [0] (c:=Z4e) (a:=Q9) (k:=jf)) ?_
 refine Qk Z7 Z15 (.of_eq ?_) ?_
 all_goals clear hX
 ·rfl
 ·simp_all
theorem Qft:Q6 Tryz.prog 169:=jcb Tryz.func169
theorem Qff{F:SF}{o1 o2:Bool}{st lo:List Typ}{k:Int}(hs:Q1w F.l≤1048576)(hw:Qs F.l=true)(hst:st.length≤500)(hlo:lo.length≤500)(hd:F.m.desc.length≤1099511627776)(hi:F.m.name=Qn→0<lo.length)(hr:(Qd F.m.desc).res.length≤1099511627776):Ct Tryz.prog 169 [.ptr 0 0 0] [some (25,[oSW F o1 o2 st lo k])] (.tup []) [some (25,[Qak F (Qf8 F o1 o2 st lo k)])]:=by
 have hl:F.l.length≤1099511627776:=by unfold Q1w at hs;omega
 cases ho:o2
 all_goals
  refine jbS Tryz.func169 87 fun X hX=> ?_
  refine Q0 [0,2] (js hX 5 Z5 (Q8.callF rfl Z3 rfl Z5 Z7v Q34 (by (try simp[ho]);rfl) (jh hX Z5))) ?_
  refine Q0 [0,2,18] (jh hX Z5) ?_
  refine Q7 (Q0 [0,2,18,27] (jh hX Z5) ?_)
  refine jd (fun h4=> ?_) (fun h4=> ?_)
  ·try simp at h4
   refine Q0 [0] (js hX 3 Z5 (Q8.call [0] rfl Z3 rfl Z5 Z7 Ze Q9 Z3 Z3 Z5 jf)) ?_
   refine Q0 [0,38] (jh hX Z5) ?_
   refine jd (fun h6=> ?_) (fun h6=> ?_)
   ·try simp at h6
    have hi1:=hi h6
    first|refine Q15 (Le.expose 0 0 23 Z1g) ?_|refine Q15 (Le.nilOb 3 _) ?_
    refine Q1x (n:=15) (A:=[0,1,2,3,4,5,6,7,8,9,10,11,12]) (B:=[13,14]) (L:=[0,1]) hmo Z24 tok hX (by simp[hi1,ho];rfl) (jH (p:=fun X hX=>(Q8.call [] rfl Z3 rfl Z5 Z7 Zo Q10 Z3 Z3 Z5 jf)) (k:=(jH (p:=fun X hX=>(jh hX (by simp[hi1,ho];rfl))) (k:=.nil)))) (Q8.weak (Q8.call [0,1] rfl Z3 rfl Z5 Z7 Z1h Q9 Z3 Z3 Z5 jf) Zd8) ?_
    refine Qk (by simp[hi1,ho];rfl) Z15 (.of_eq ?_) ?_
    all_goals clear hX
    ·rfl
    ·(simp_all[Qf8,Q87,Qn,Q11,Q16])<;>congr
   ·try simp at h6
    refine Q3 (Qk Z5 Z15 (.of_eq ?_) ?_)
    all_goals clear hX
    ·rfl
    ·(simp_all[Qf8,Q87,Qn,Q11,Q16])<;>congr
  ·try simp at h4
   refine Q0 [0,2,18,55] (jh hX Z5) ?_
   refine jd (fun h8=> ?_) (fun h8=> ?_)
   ·try simp at h8
    refine Q0 [0,2,3] (js hX 1 Z5 (Q8.call [0] rfl Z3 rfl Z5 Z7 Zm Qe Z3 Z3 Z5 (jh hX Z5))) ?_
    have hL1:=Q24 k st 1
    refine Q0 [0,3] (js hX 3 Z5 (Q8.call [0] rfl Z3 rfl Z5 Z7 Ze Q9 Z3 Z3 Z5 jf)) ?_
    refine Qb (js hX 4 Z5 (Q8.call [0] rfl Z3 rfl Z5 Z7 Zv Q13 Z3 Z3 Z5 jf)) ?_
    refine Qk Z5 Z15 (.of_eq ?_) ?_
    all_goals clear hX
    ·rfl
    ·(simp_all[Qf8,Q87,Qn,Q11,Q16])<;>congr
   ·try simp at h8
    refine Q0 [0,2,68] (jh hX Z5) ?_
    refine jd (fun h12=> ?_) (fun h12=> ?_)
    ·try simp at h12
     refine Q0 [0,2,4] (js hX 1 Z5 (Q8.call [0] rfl Z3 rfl Z5 Z7 Zm Qe Z3 Z3 Z5 (jh hX Z5))) ?_
     have hL1:=Q24 k st 1
     refine Q0 [0,2,4] (js hX 4 Z5 (jm 3 75 [0,2,4,72,78] (p:=Zd0) (q:=Zd0) (k:=(Q8.call [0] rfl Z3 rfl Z5 Z7 Ze Q9 Z3 Z3 Z5 jf)))) ?_
     refine Q1x (n:=6) (A:=[0,1,2,3,4]) (B:=[5]) (L:=[1]) hmo Z24 tok hX Z5 (jH (p:=fun X hX=>(Q8.call [] rfl Z3 rfl Z5 Z7 Z1z Q22 Z3 Z3 Z5 jf)) (k:=.nil)) (Q8.call [0] rfl Z3 rfl Z5 Z7 Z19 Q1i Z3 Z3 Z5 jf) ?_
     refine Qk Z5 Z15 (.of_eq ?_) ?_
     all_goals clear hX
     ·rfl
     ·(simp_all[Qf8,Q87,Qn,Q11,Q16])<;>congr
    ·try simp at h12
     refine Q0 [0,5] (js hX 1 Z5 (Q8.call [0] rfl Z3 rfl Z5 Z7 Zm Qe Z3 Z3 Z5 (jh hX Z5))) ?_
     have hL1:=Q24 k st 1
     refine Q1x (n:=5) (A:=[0,1,2,3]) (B:=[4]) (L:=[0,1]) hmo Z24 tok hX Z5 (jH (p:=fun X hX=>(Q8.call [] rfl Z3 rfl Z5 Z7 Zo Q10 Z3 Z3 Z5 jf)) (k:=.nil)) (Q8.call [0] rfl Z3 rfl Z5 Z7 Z19 Q1i Z3 Z3 Z5 jf) ?_
     refine Qk Z5 Z15 (.of_eq ?_) ?_
     all_goals clear hX
     ·rfl
     ·(simp_all[Qf8,Q87,Qn,Q11,Q16])<;>congr
theorem Q19:Q6 Tryz.prog 237:=jcb Tryz.func237
theorem Qfg{F:SF}{o1 o2:Bool}{st lo:List Typ}{k:Int}(hl:F.l.length≤1099511627776)(hw:Qs F.l=true):Ct Tryz.prog 237 [.ptr 0 0 0] [some (25,[oSW F o1 o2 st lo k])] (.tup []) [some (25,[oSW F (o1) (o2) (st) (lo) (ndC k (isKnown F.l F.i.cls) 6)])]:=by
 refine jbS Tryz.func237 14 fun X hX=> ?_
 refine Q1x (n:=11) (A:=[0,1,2,3,4,5,6,7,8,9]) (B:=[10]) (L:=[0]) hmo Z24 tok hX Z7 (jH (p:=fun X hX=>(jc [] (c:=(by apply Q5i<;>exact Z1o)) (a:=Q5o) (k:=jf))) (k:=.nil)) (jc [0] (c:=Z4e) (a:=Q9) (k:=jf)) ?_
 refine Qk Z7 Z15 (.of_eq ?_) ?_
 all_goals clear hX
 ·rfl
 ·simp_all
theorem Q2g:Q6 Tryz.prog 238:=jcb Tryz.func238
theorem Q7y{F:SF}{o1 o2:Bool}{st lo:List Typ}{k:Int}{a b:Typ}(hs:st.length≤1000)(hs2:lo.length≤1000):Ct Tryz.prog 238 [.ptr 0 0 0,eT a,eT b] [some (25,[oSW F o1 o2 st lo k])] (.tup []) [some (25,[oSW F (true) (true) (st.map (swT a b)) (lo.map (swT a b)) (k)])]:=by
 obtain ⟨sw,hsw⟩: ∃sw,sw=st.map (swT a b):=⟨_,rfl⟩
 obtain ⟨sv,hsv⟩: ∃sv,sv=lo.map (swT a b):=⟨_,rfl⟩
 have swl:sw.length=st.length:=by rw[hsw];simp
 have svl:sv.length=lo.length:=by rw[hsv];simp
 have swg: ∀i (h:i<st.length) (h2:i<sw.length),sw[i]=swT a b st[i]:=by subst hsw;simp
 have svg: ∀i (h:i<lo.length) (h2:i<sv.length),sv[i]=swT a b lo[i]:=by subst hsv;simp
 rw[←hsw,←hsv]
 cases o1<;>cases o2
 all_goals
  refine jbS Tryz.func238 76 fun X hX=> ?_
  refine jq [0,4,5] ?_
  first|refine Q15 (Le.expose 0 0 22 Z1g) ?_|refine Q15 (Le.nilOb 3 _) ?_
  first|refine Q15 (Le.expose 0 0 23 Z1g) ?_|refine Q15 (Le.nilOb 3 _) ?_
  refine jq [0,4,5,6] ?_
  refine Q4 (jq [0,4,5,6,7] ?_)
  refine Q7 (Qh (α:=Nat) [0,4,5,6,7] (fun i=>[(6,.arr 5 0 i),(7,.int .i64 i)]) (fun i=>[(5,some (3,(sw.map eT).take i))]) (fun i=>i≤st.length) (fun i=>st.length-i) (0) (fun i=>by simp;rfl) Z3 ?_ ?_)
  ·simp
  rintro i hi
  have w1:(i+1)*32≤140737488355328:=by omega
  have w2:i≤1099511627775:=by omega
  refine Q4 (Q0 [0,4,5,6,7,20] (jh hX Z47) ?_)
  refine jd (fun h3=> ?_) (fun h3=> ?_)
  ·try simp at h3
   have h3b:i<sw.length:=by omega
   obtain ⟨Y,hY⟩: ∃Y,Y=(sw.map eT).take i:=⟨_,rfl⟩
   rw[←hY]
   have hYl:Y.length=i:=by rw[hY];simp;omega
   have hYt:Y.take i=Y:=List.take_of_length_le Zb
   have hYj: ∀p,jkL p Y=Y:=fun p=>by rw[hY,←List.map_take];exact jkL_eT p _
   have hnext:(sw.map eT).take (i+1)=Y++[eT sw[i]]:=by
    rw[hY,List.take_succ_eq_append_getElem (by simpa using h3b),List.getElem_map]
   refine Q3 (Q4 (Q7 (Q0 [0,4,5,6,7,8] (jh hX (by simp[w1,w2,h3,hYl,hYt,hYj];rfl)) ?_)))
   refine Q4 (Q0 [0,4,5,6,7,8,33] (jh hX (by simp[w1,w2,h3,hYl,hYt,hYj];rfl)) ?_)
   refine jd (fun h6=> ?_) (fun h6=> ?_)
   ·try simp at h6
    have hv:sw[i]=b:=by
     have e:st[i]=a:=by
      generalize st[i]=z at h6⊢
      cases z;cases a;simp_all
     have:=swg i Zb h3b
     rw[this,e,swT,if_pos rfl]
    refine Qb (jh hX Z9b) ?_
    refine Qb (jh hX Z9b) ?_
    refine Qb (jh hX Z4u) ?_
    refine Qm (i+1) [0,4,5,6,7] 6 Z1r Z3 Z4q ?_ ?_
    ·omega
    ·omega
   ·try simp at h6
    have hv:sw[i]=st[i]:=by
     have e: ¬st[i]=a:=fun e=>by rw[e] at h6;simp at h6
     have:=swg i Zb h3b
     rw[this,swT,if_neg e]
    refine Q3 (Qb (jh hX Z9b) ?_)
    refine Qb (jh hX Z4u) ?_
    refine Qm (i+1) [0,4,5,6,7] 6 Z1r Z3 Z4q ?_ ?_
    ·omega
    ·omega
  ·try simp at h3
   obtain rfl:i=st.length:=by omega
   rw[List.take_of_length_le Z3l]
   refine Ql (Q0 [0,4,5,6,9] (jh hX (by simp[w1,w2,h3];rfl)) ?_)
   refine Q4 (Q0 [0,4,5,6,9,10] (jh hX (by simp[w1,w2,h3];rfl)) ?_)
   refine Q7 (Qh (α:=Nat) [0,4,5,6,9,10] (fun i=>[(9,.arr 6 0 i),(10,.int .i64 i)]) (fun i=>[(6,some (3,(sv.map eT).take i))]) (fun i=>i≤lo.length) (fun i=>lo.length-i) (0) (fun i=>by simp;rfl) Z3 ?_ ?_)
   ·simp
   rintro i hi
   have w1:(i+1)*32≤140737488355328:=by omega
   have w2:i≤1099511627775:=by omega
   refine Q4 (Q0 [0,4,5,6,9,10,47] (jh hX (by simp[w1,w2,h3,w1,w2];rfl)) ?_)
   refine jd (fun h11=> ?_) (fun h11=> ?_)
   ·try simp at h11
    have h3b:i<sv.length:=by omega
    obtain ⟨Y,hY⟩: ∃Y,Y=(sv.map eT).take i:=⟨_,rfl⟩
    rw[←hY]
    have hYl:Y.length=i:=by rw[hY];simp;omega
    have hYt:Y.take i=Y:=List.take_of_length_le Zb
    have hYj: ∀p,jkL p Y=Y:=fun p=>by rw[hY,←List.map_take];exact jkL_eT p _
    have hnext:(sv.map eT).take (i+1)=Y++[eT sv[i]]:=by
     rw[hY,List.take_succ_eq_append_getElem (by simpa using h3b),List.getElem_map]
    refine Q3 (Q4 (Q7 (Q0 [0,4,5,6,9,10,11] (jh hX Zb1) ?_)))
    refine Q4 (Q0 [0,4,5,6,9,10,11,60] (jh hX Zb1) ?_)
    refine jd (fun h14=> ?_) (fun h14=> ?_)
    ·try simp at h14
     have hv:sv[i]=b:=by
      have e:lo[i]=a:=by
       generalize lo[i]=z at h14⊢
       cases z;cases a;simp_all
      have:=svg i Zb h3b
      rw[this,e,swT,if_pos rfl]
     refine Qb (jh hX Z83) ?_
     refine Qb (jh hX Z83) ?_
     refine Qb (jh hX Z48) ?_
     refine Qm (i+1) [0,4,5,6,9,10] 7 Z1r Z3 Z4q ?_ ?_
     ·omega
     ·omega
    ·try simp at h14
     have hv:sv[i]=lo[i]:=by
      have e: ¬lo[i]=a:=fun e=>by rw[e] at h14;simp at h14
      have:=svg i Zb h3b
      rw[this,swT,if_neg e]
     refine Q3 (Qb (jh hX Z83) ?_)
     refine Qb (jh hX Z48) ?_
     refine Qm (i+1) [0,4,5,6,9,10] 7 Z1r Z3 Z4q ?_ ?_
     ·omega
     ·omega
   ·try simp at h11
    obtain rfl:i=lo.length:=by omega
    rw[List.take_of_length_le Z3l]
    refine Ql (Q0 [0,9] (jh hX Zal) ?_)
    refine Qb (Q8.weak (jh hX Zal) (Le.trans (Le.absorb 0 0 22 (by simp[swl];rfl)) (Le.absorb 0 0 23 (by simp[svl];rfl)))) ?_
    refine Qk Zal Z15 (.of_eq ?_) ?_
    all_goals clear hX
    ·rfl
    ·simp[←swl,←svl]
theorem Qer:Q6 Tryz.prog 170:=jcb Tryz.func170
theorem Qej{F:SF}{o1 o2:Bool}{st lo:List Typ}{k:Int}(hs:Q1w F.l≤1048576)(hw:Qs F.l=true)(hst:st.length≤500)(hlo:lo.length≤500):Ct Tryz.prog 170 [.ptr 0 0 0] [some (25,[oSW F o1 o2 st lo k])] (.tup []) [some (25,[Qak F (Qij F o1 o2 st lo k)])]:=by
 have hl:F.l.length≤1099511627776:=by unfold Q1w at hs;omega
 have hfl:= @Qgp F.i.cls F.l
 cases ho:o1
 all_goals
  refine jbS Tryz.func170 76 fun X hX=> ?_
  refine jL 11 [0,1,2,3,4,5,6,7,8,9] [10] [0,2] ([0]) hX Z5 (jH (p:=fun X hX=>(jh hX Z5)) (k:=.nil)) (jh hX Z5) ?_
  refine Q0 [0,2] (js hX 1 Z5 (Q8.call [0] rfl Z3 rfl Z5 Z7 Z17 Q19 Z3 Z3 Z5 jf)) ?_
  refine jL 9 [0,1,2,3,4,5,6,7,8] [] [0,2,3] ([0]) hX Z5 .nil (Q8.call [] rfl Z3 rfl Z5 Z7 (by apply Q4m<;>exact Z0) Q1m Z3 Z3 Z5 (jh hX Z5)) ?_
  refine Q0 [0,2] (js hX 4 Z5 (jm 10 30 [0,2,27,40] (p:=fun b3_4=>by (try simp at b3_4);exact (jh hX (by simp[-Qr,-Qa,b3_4,ho];rfl))) (q:=fun b3_4=>by (try simp at b3_4);(have h10:0≤Qi F.i.cls F.l 0:=Zb;have h9:=hfl h10);exact (jh hX (by simp[-Qr,-Qa,b3_4,h9,h10,ho];rfl))) (k:=(Q8.call [0] rfl Z3 rfl Z5 Z7 Ze Q9 Z3 Z3 Z5 jf)))) ?_
  refine Q4 (Q0 [0,2,4] (jh hX Z5) ?_)
  refine Q7 ?_
  first|refine Q15 (Le.expose 0 0 22 Z1g) ?_|refine Q15 (Le.nilOb 3 _) ?_
  refine Qh (α:=Nat) [0,2,4] (fun i=>[(4,.int .i64 i)]) (fun i=>[(0,some (25,[oSV F (bif o1 then V.arr 2 0 st.length else V.lst false 3 (st.map eT)) (.lst o2 3 (lo.map eT)) (ndC (Qzd F k) ((st.take i).all fun x=> !decide (x=Qd2 F)) 10)])),(2,some (3,(bif o1 then st.map eT else [])))]) (fun i=>i≤st.length) (fun i=>st.length-i) (0) (fun i=>by simp;rfl) (by simp[Q15o,Qzd,ho,abOK]) ?_ ?_
  ·simp
  rintro i hi
  refine Q4 (Q0 [0,2,4,49] (jh hX Z5) ?_)
  refine jd (fun h5=> ?_) (fun h5=> ?_)
  ·try simp at h5
   have hnx:=Q13j h5 (fun x=> !decide (x=Qd2 F))
   have hq:(!decide (st[i].k=6)||(!decide (st[i].c=F.i.cls)|| !decide (st[i].at'=F.at')))= !decide (st[i]=Qd2 F):=by simp[Q87,Qd2]
   refine Q3 (Q4 (Q7 (Q1x (n:=11) (A:=[0,1,2,3,4,5,6,7,8,9,10]) (B:=[]) (L:=[0,1,2]) hmo Z24 tok hX Za0 .nil (Q8.call [0,2] rfl Z3 rfl Z5 Z7 Z1h Q9 Z3 Z3 Z5 jf) ?_)))
   refine Qb (jh hX (by simp[h5,ho];(try (simp (disch:=omega) only[Qc];(try simp[h5,ho])));rfl)) ?_
   refine Qm (i+1) [0,2,4] 3 Z1r Z3 (by simp[Qze,hnx,ho,hq];try (simp (disch:=omega) only[Qc])) ?_ ?_
   ·omega
   ·omega
  ·try simp at h5
   obtain rfl:i=st.length:=by omega
   rw[List.take_of_length_le (Nat.le_refl _)]
   first|refine Q15 (Le.absorb 0 0 22 Z7) ?_|skip
   refine Ql (Q0 [0,2,68] (jh hX Za0) ?_)
   refine jd (fun h8=> ?_) (fun h8=> ?_)
   ·try simp at h8
    refine Q0 [0,2] (js hX 3 Za0 (Q8.call [0] rfl Z3 rfl Z5 Z7 (by apply (Q7y (a:=Qd2 F) (b:=zT))<;>exact Z0) Q2g Z3 Z3 Z5 jf)) ?_
    refine Qb (js hX 2 Za0 (Q8.call [0] rfl Z3 rfl Z5 Z7 (by simp only[←List.map_map];apply Q25 (t:=Qd2 F)<;>exact Z1o) Qg Z3 Z3 Z5 jf)) ?_
    refine Qk Za0 Z15 (.of_eq ?_) ?_
    all_goals clear hX
    ·simp_all
    ·skip
     have e: ∀b,Qij F b o2 st lo k=⟨true,true,st.map (swT (Qd2 F) zT)++[Qd2 F],lo.map (swT (Qd2 F) zT),0⟩:=fun b=>by unfold Qij Qy5;rw[if_pos h8]
     simp[e,h8]
   ·try simp at h8
    refine Q3 (Qk Za0 Z15 (.of_eq ?_) ?_)
    all_goals clear hX
    ·simp_all
    ·skip
     have e: ∀b,Qij F b o2 st lo k=⟨b,o2,st,lo,Qy5 F st k⟩:=fun b=>by unfold Qij Qy5;rw[if_neg h8]
     simp[e,Qy5]
theorem Qbc:Q6 Tryz.prog 239:=jcb Tryz.func239
theorem Qrv{b:Bool}:Ct Tryz.prog 239 [.bool b] [] (.int .i64 (if b=true then 1 else 0)) []:=by
 refine jbS Tryz.func239 4 fun X hX=> ?_
 refine jq [0] ?_
 refine Q4 (jq [3] ?_)
 refine jd (fun h1=> ?_) (fun h1=> ?_)
 ·try simp at h1
  refine jq [2] ?_
  refine Q5 (je0 ?_)
  simp_all
 ·try simp at h1
  refine Q3 (jq [2] ?_)
  refine Q5 (je0 ?_)
  simp_all
theorem Qce:Q6 Tryz.prog 298:=jcb Tryz.func298
theorem Qaa{l:List Cls}(hs:Q1w l≤1048576)(hw:Qs l=true){m:Nat}(ih: ∀n:Str,rkU l (Qi n l 0)<m→Ct Tryz.prog 298 [.lst false 6 (l.map eC),.str n] [] (.lst true 3 ((Q8d l n).map eF)) []){n:Str}(hm:rkU l (Qi n l 0)≤m):Ct Tryz.prog 298 [.lst false 6 (l.map eC),.str n] [] (.lst true 3 ((Q8d l n).map eF)) []:=by
 have hll:l.length≤1099511627776:=by unfold Q1w at hs;omega
 refine jbS Tryz.func298 53 fun X hX=> ?_
 refine jq [0,1] ?_
 refine Q0 [0,5] (jt 2 (k:=(jc [] (c:=Z4t) (a:=Q1m) (k:=jr)))) ?_
 refine Q4 (jq [0,5,12] ?_)
 refine jd (fun h2=> ?_) (fun h2=> ?_)
 ·try simp at h2
  refine Q0 [4] (jh hX Zw) ?_
  refine Q5 (je Zw ?_)
  rw[Q14n hw h2];rfl
 ·try simp at h2
  obtain ⟨q,hqe⟩: ∃q:Nat,Qi n l 0=q:=⟨_,(Int.toNat_of_nonneg Zb).symm⟩
  obtain ⟨hq,hfe⟩:=Qzn hw hqe
  obtain ⟨_,hrk0⟩:=Q114 hw hqe
  have hrk:rkU l (Qi l[q].super l 0)<m:=by omega
  have hsq:Q1r l[q]≤1048576:=Nat.le_trans (Q46 hq) hs
  have hfq:l[q].fields.length≤1048576:=by simp only[Q1r] at hsq;omega
  have hfl:=Qrr (n:=l[q].super) hw
  rw[hqe]
  refine Q3 (Q0 [0,5,6] (js hX 6 (by simp[h2,hq];rfl) (jc [] (c:=(ih _ hrk)) (ha:=Z3) (hi:=Z3) (a:=Qce) (k:=(jh hX (by simp[h2,hq];rfl))))) ?_)
  refine Q4 (Q0 [0,5,6,7] (jh hX (by simp[h2,hq];rfl)) ?_)
  refine Q7 (Qh (α:=List Fld×Nat) [0,5,6,7] (fun p=>[(6,.arr 0 0 p.1.length),(7,.int .i64 p.2)]) (fun p=>[(0,some (3,p.1.map eF))]) (fun p=>p.2≤l[q].fields.length∧p.1=Q8d l l[q].super++(l[q].fields.take p.2).filter (fun f=> !f.static)) (fun p=>l[q].fields.length-p.2) ((Q8d l l[q].super,0)) (fun p=>by simp;rfl) Z3 ?_ ?_)
  ·simp
  rintro ⟨o,i⟩ ⟨hi,hI⟩
  simp only at hi hI
  have ho:o.length≤1100000000:=by
   rw[hI,List.length_append]
   have h1:=List.length_filter_le (fun f:Fld=> !f.static) (l[q].fields.take i)
   rw[List.length_take] at h1
   omega
  have w1:(o.length+1)*40≤140737488355328:=by omega
  have w2:o.length≤1099511627775:=by omega
  refine Q4 (Q0 [0,5,6,7,28] (jh hX (by simp[h2,hq,w1,w2];rfl)) ?_)
  refine jd (fun h6=> ?_) (fun h6=> ?_)
  ·try simp at h6
   refine Q3 (Q4 (Q7 (Q0 [0,5,6,7,40] (jh hX Z9f) ?_)))
   refine jd (fun h8=> ?_) (fun h8=> ?_)
   ·try simp at h8
    refine Qb (jh hX Z9f) ?_
    refine Qb (jh hX Z65) ?_
    refine Qm (if l[q].fields[i].static=true then (o,i+1) else (o++[l[q].fields[i]],i+1)) [0,5,6,7] 1 Z1r Z3 Z5t ?_ ?_
    ·(simp only[h8,Bool.false_eq_true,if_false,if_true];refine ⟨by omega,?_⟩;rw[Qde h6,h8,hI];simp)
    ·(simp only[h8,Bool.false_eq_true,if_false,if_true];omega)
   ·try simp at h8
    refine Q3 (Qb (jh hX Z65) ?_)
    refine Qm (if l[q].fields[i].static=true then (o,i+1) else (o++[l[q].fields[i]],i+1)) [0,5,6,7] 1 Z1r Z3 Z5t ?_ ?_
    ·(simp only[h8,Bool.false_eq_true,if_false,if_true];refine ⟨by omega,?_⟩;rw[Qde h6,h8,hI];simp)
    ·(simp only[h8,Bool.false_eq_true,if_false,if_true];omega)
  ·try simp at h6
   have hil:i=l[q].fields.length:=by omega
   subst hil
   rw[List.take_of_length_le (Nat.le_refl _)] at hI
   refine Ql (Q0 [4] (jh hX Z9f) ?_)
   refine Q5 (je Z9f ?_)
   rw[hfe,hI];rfl
theorem Qle{l:List Cls}(hs:Q1w l≤1048576)(hw:Qs l=true){n:Str}:Ct Tryz.prog 298 [.lst false 6 (l.map eC),.str n] [] (.lst true 3 ((Q8d l n).map eF)) []:=by
 have key: ∀(m:Nat) (n:Str),rkU l (Qi n l 0)≤m→Ct Tryz.prog 298 [.lst false 6 (l.map eC),.str n] [] (.lst true 3 ((Q8d l n).map eF)) []:=by
  intro m
  induction m with
  |zero=>intro n hm;exact Qaa hs hw (m:=0) (fun _ h=>absurd h Zb) hm
  |succ m ih=>intro n hm;exact Qaa hs hw (m:=m+1) (fun n' h=>ih n' Zb) hm
 exact key _ n (Nat.le_refl _)
theorem Q4u:Q6 Tryz.prog 240:=jcb Tryz.func240
theorem Qh1{l:List Cls}(hs:Q1w l≤1048576)(hw:Qs l=true){c n t:Str}:Ct Tryz.prog 240 [.lst false 6 (l.map eC),.str c,.str n,.str t] [] (eFd (ffL l n t (Qq l c)).1) []:=by
 have hll:l.length≤1099511627776:=by unfold Q1w at hs;omega
 have hsz: ∀{k:Nat} (h:k<l.length),l[k].fields.length≤1048576:=fun h=>by
  have:=Nat.le_trans (Q46 h) hs
  simp only[Q1r] at this;omega
 refine jbS Tryz.func240 134 fun X hX=> ?_
 refine jq [0,1,2,3,8] ?_
 refine Q4 (Q0 [0,2,3,8,9] (jt 2 (k:=(jc [] (c:=Z4t) (a:=Q1m) (k:=jr)))) ?_)
 refine Q7 (Qh (α:=Int) [0,2,3,8,9] (fun k=>[(9,.int .i64 k)]) (fun k=>[]) (fun k=>(-1≤k∧k<l.length)∧ffU l n t k=(ffL l n t (Qq l c)).1) (fun k=>rkU l k) (Qi c l 0) (fun k=>by simp;rfl) Z3 ?_ ?_)
 ·exact ⟨Qgq,Q130 hw⟩
 rintro k ⟨hk,hI⟩
 refine Q4 (jq [0,2,3,8,9,20] ?_)
 refine jd (fun h2=> ?_) (fun h2=> ?_)
 ·try simp at h2
  obtain ⟨p,rfl⟩: ∃j:Nat,k=j:=⟨k.toNat,by omega⟩
  have hp:p<l.length:=by omega
  rw[Q16n hw hp] at hI
  have hpf:=hsz hp
  have hfl:=Qrr (n:=l[p].super) hw
  refine Q3 (Q4 (Q7 (Q0 [0,2,3,8,9,10] (jh hX Zc1) ?_)))
  refine Q7 (Qh (α:=Nat) [0,2,3,8,9,10] (fun i=>[(10,.int .i64 i)]) (fun i=>[]) (fun i=>i≤l[p].fields.length∧ ∀x∈l[p].fields.take i,ndt n t x=false) (fun i=>l[p].fields.length-i) (0) (fun i=>by simp;rfl) Z3 ?_ ?_)
  ·simp
  rintro i ⟨hi,hJ⟩
  refine Q4 (Q0 [0,2,3,8,9,10,35] (jh hX Zc1) ?_)
  refine jd (fun h5=> ?_) (fun h5=> ?_)
  ·try simp at h5
   refine Q3 (Q4 (Q7 (Q0 [0,2,3,8,9,10,11] (jh hX Z3b) ?_)))
   refine Q4 (Q0 [0,2,3,8,9,10,11,55] (js hX 5 Z3b (jm 5 50 [0,2,3,8,9,10,11,55] (p:=Z7y) (q:=Z7y) (k:=jf))) ?_)
   refine jd (fun h8=> ?_) (fun h8=> ?_)
   ·try simp at h8
    have h8n:ndt n t l[p].fields[i]=false:=by unfold ndt;grind
    refine Ql (Qb (jh hX (by simp[h2,hp,h5];(try (simp (disch:=omega) only[Qc];(try simp[h2,hp,h5])));rfl)) ?_)
    refine Qm (i+1) [0,2,3,8,9,10] 1 Z1r Z3 (by simp[h2,hp,h5];try (simp (disch:=omega) only[Qc])) ?_ ?_
    ·exact ⟨by omega,fun x hx=>by
     rw[List.take_succ_eq_append_getElem h5] at hx
     rcases List.mem_append.1 hx with hx|hx
     ·exact hJ x hx
     ·rw[List.mem_singleton.1 hx];exact h8n⟩
    ·omega
   ·try simp at h8
    have h8y:ndt n t l[p].fields[i]=true:=by unfold ndt;grind
    rw[Q5y h5 hJ h8y,if_pos Zb,Int.toNat_natCast] at hI
    refine Q3 (Q0 [0,8,9,10,11,12] (jh hX Z3b) ?_)
    refine Q4 (Q0 [0,8,9,10,12,57] (jh hX Z3b) ?_)
    refine jd (fun h10=> ?_) (fun h10=> ?_)
    ·try simp at h10
     refine Q4 (Q0 [0,8,9,10,12,13] (jh hX Z3b) ?_)
     refine Q7 (Qh (α:=Nat×Nat) [0,8,9,10,12,13] (fun z=>[(12,.int .i64 z.1),(13,.int .i64 z.2)]) (fun z=>[]) (fun z=>z.2≤p+1∧z.1=Qy1 l p i z.2) (fun z=>p+1-z.2) ((0,0)) (fun z=>by simp;rfl) Z3 ?_ ?_)
     ·simp[Qy1,Q72]
     rintro ⟨q,c2⟩ ⟨hc2,hq⟩
     simp only at hc2 hq
     refine Q4 (Q0 [0,8,9,10,12,13,60] (jh hX Z3b) ?_)
     refine jd (fun h12=> ?_) (fun h12=> ?_)
     ·try simp at h12
      have hcl2:c2<l.length:=by omega
      refine Q3 (Q4 (Q7 (Q0 [0,8,9,10,12,13,14] (jh hX (by simp[h2,hp,h5,h12,hcl2];rfl)) ?_)))
      refine Q7 (Qh (α:=Nat×Nat) [0,8,9,10,12,13,14] (fun z=>[(12,.int .i64 z.1),(14,.int .i64 z.2)]) (fun z=>[]) (fun z=>z.2≤l[c2].fields.length∧z.1=inS l p i c2 z.2) (fun z=>l[c2].fields.length-z.2) ((q,0)) (fun z=>by simp;rfl) Z3 ?_ ?_)
      ·exact ⟨by simp,by simp only;rw[hq,Q187 h12]⟩
      rintro ⟨q2,k2⟩ ⟨hk2,hq2⟩
      simp only at hk2 hq2
      have hB:=Q16i l p i c2 k2 hcl2
      have hB2:=hsz hcl2
      refine Q4 (Q0 [0,8,9,10,12,13,14,70] (jh hX (by simp[h2,hp,h5,h12,hcl2];rfl)) ?_)
      refine jd (fun h15=> ?_) (fun h15=> ?_)
      ·try simp at h15
       refine Q3 (Q4 (Q7 (Q0 [0,8,9,10,12,13,14,91] (js hX 10 (by simp[h2,hp,h5,h12,hcl2,h15];rfl) (jm 9 82 [0,8,9,10,12,13,14,91] (p:=by intro b;(try simp at b);exact (js hX 4 Z7p (jm 4 86 [0,8,9,10,12,13,14,82,90] (p:=fun b17_14=>by (try simp at b17_14);exact (jh hX Z98)) (q:=fun b17_14=>by (try simp at b17_14);exact (jh hX Z98)) (k:=(jh hX Z7p))))) (q:=by intro b;(try simp at b);exact (jh hX Z7p)) (k:=jf))) ?_)))
       refine jd (fun h17=> ?_) (fun h17=> ?_)
       ·try simp at h17
        have hb:(l[c2].fields[k2].static&&(decide (c2<p)||decide (k2<i)))=true:=by simpa using h17
        refine Qb (jh hX Z31) ?_
        refine Qb (jh hX Z31) ?_
        refine Qo ((q2+(l[c2].fields[k2].static&&(decide (c2<p)||decide (k2<i))).toNat,k2+1)) [0,8,9,10,12,13,14] Z9s ?_ ?_
        ·exact ⟨by simp only;omega,by simp only;rw[Q12t hcl2 h15,hq2]⟩
        ·simp only;omega
       ·try simp at h17
        have hb:(l[c2].fields[k2].static&&(decide (c2<p)||decide (k2<i)))=false:=by simpa using h17
        refine Q3 (Qb (jh hX Z31) ?_)
        refine Qo ((q2+(l[c2].fields[k2].static&&(decide (c2<p)||decide (k2<i))).toNat,k2+1)) [0,8,9,10,12,13,14] Z9s ?_ ?_
        ·exact ⟨by simp only;omega,by simp only;rw[Q12t hcl2 h15,hq2]⟩
        ·simp only;omega
      ·try simp at h15
       have hkl:k2=l[c2].fields.length:=by omega
       refine Ql (Qb (jh hX (by simp[h2,hp,h5,h12,hcl2,h15];(try (simp (disch:=omega) only[Qc];(try simp[h2,hp,h5,h12,hcl2,h15])));rfl)) ?_)
       refine Qo ((q2,c2+1)) [0,8,9,10,12,13] (by simp[h2,hp,h5,h12,hcl2,h15];try (simp (disch:=omega) only[Qc])) ?_ ?_
       ·exact ⟨by simp only;omega,by simp only;rw[hq2,Q14k hp h5 h12 hkl]⟩
       ·simp only;omega
     ·try simp at h12
      obtain rfl:c2=p+1:=by omega
      have hpl:fpl l p i=q:=by rw[Qx3 hp h5 h10,hq,Qy1,if_neg Zb,Qa hp]
      refine Ql (Q0 [8] (jh hX (by simp[h2,hp,h5,h12];rfl)) ?_)
      refine Q5 (je (by simp[h2,hp,h5,h12];rfl) ?_)
      rw[←hI,hpl];rfl
    ·try simp at h10
     refine Q3 (Q0 [0,8,9,10,12] (js hX 6 Z3b (jF (c:=(by apply Qle<;>exact Z1i)) (a:=Qce) (k:=(jh hX Z3b)))) ?_)
     refine Q4 (Q0 [0,8,9,10,12,15] (jh hX Z3b) ?_)
     refine Q7 (Qh (α:=Nat×Nat) [0,8,9,10,12,15] (fun z=>[(12,.int .i64 z.1),(15,.int .i64 z.2)]) (fun z=>[]) (fun z=>z.2≤i∧z.1=(Q8d l l[p].super).length+Qsw (l[p].fields.take z.2)) (fun z=>i-z.2) (((Q8d l l[p].super).length,0)) (fun z=>by simp;rfl) Z3 ?_ ?_)
     ·exact ⟨by simp,by simp[Qsw]⟩
     rintro ⟨q,k2⟩ ⟨hk2,hq⟩
     simp only at hk2 hq
     have hB1:=Qzc (l[p].fields.take k2)
     rw[List.length_take] at hB1
     refine Q4 (Q0 [0,8,9,10,12,15,111] (jh hX Z3b) ?_)
     refine jd (fun h22=> ?_) (fun h22=> ?_)
     ·try simp at h22
      have hk3:k2<l[p].fields.length:=by omega
      refine Q3 (Q4 (Q7 (Q0 [0,8,9,10,12,15,123] (jh hX (by simp[h2,hp,h5,h22,hk3];rfl)) ?_)))
      refine jd (fun h24=> ?_) (fun h24=> ?_)
      ·try simp at h24
       refine Qb (jh hX Z3v) ?_
       refine Qb (jh hX Z3v) ?_
       refine Qo ((q+(!l[p].fields[k2].static).toNat,k2+1)) [0,8,9,10,12,15] Z9o ?_ ?_
       ·exact ⟨by simp only;omega,by simp only;rw[Qmu Zb,hq];omega⟩
       ·simp only;omega
      ·try simp at h24
       refine Q3 (Qb (jh hX Z3v) ?_)
       refine Qo ((q+(!l[p].fields[k2].static).toNat,k2+1)) [0,8,9,10,12,15] Z9o ?_ ?_
       ·exact ⟨by simp only;omega,by simp only;rw[Qmu Zb,hq];omega⟩
       ·simp only;omega
     ·try simp at h22
      obtain rfl:k2=i:=by omega
      have hpl:fpl l p k2=q:=by rw[Qzl hp h5 (by simp[h10]),hq]
      refine Ql (Q0 [8] (jh hX (by simp[h2,hp,h5,h22];rfl)) ?_)
      refine Q5 (je (by simp[h2,hp,h5,h22];rfl) ?_)
      rw[←hI,hpl];rfl
  ·try simp at h5
   rw[Q5h (fun x hx=>hJ x (by rw[List.take_of_length_le Zb];exact hx)),if_neg Zb] at hI
   refine Ql (Qb (js hX 6 Z3b (jc [] (c:=Z4t) (a:=Q1m) (k:=(jh hX Z3b)))) ?_)
   refine Qo (nxt l p) [0,2,3,8,9] (by simp[Qal,hp]) ?_ ?_
   ·exact ⟨@Qa2 l p,hI⟩
   ·exact Qxw hw hp
 ·try simp at h2
  rw[Q14p Zb] at hI
  refine Ql (Q0 [8] (jh hX Zw) ?_)
  refine Q5 (je Zw ?_)
  rw[←hI];rfl
theorem Qcd:Q6 Tryz.prog 241:=jcb Tryz.func241
theorem Qla{l:List Cls}{x:Fnd}{n:Str}(hs:Q1w l≤1048576)(hc:0≤Qi x.c l 0):Ct Tryz.prog 241 [.lst false 6 (l.map eC),eFd x,.str n] [] (.bool (Qth l x.c n)) []:=by
 have hll:l.length≤1099511627776:=by unfold Q1w at hs;omega
 obtain ⟨q,hq,e1,_,e3,_⟩:=Q3w hc
 unfold Qth
 rw[e3]
 have hfl:l[q].fields.length≤1048576:=by
  have:=Nat.le_trans (Q46 hq) hs
  simp only[Q1r] at this;omega
 refine jbS Tryz.func241 37 fun X hX=> ?_
 refine Q0 [0,2,4] (jh hX Zb7) ?_
 refine Q0 [2,7] (js hX 4 Zb7 (jc [] (c:=Z4t) (a:=Q1m) (k:=(jh hX Zb7)))) ?_
 refine Q4 (Q0 [2,7,8] (jh hX Zb7) ?_)
 refine Q7 (Qh (α:=Nat) [2,7,8] (fun i=>[(8,.int .i64 i)]) (fun i=>[]) (fun i=>i≤l[q].fields.length∧ ∀x∈l[q].fields.take i,(fun f:Fld=>decide (f.name=n)) x=false) (fun i=>l[q].fields.length-i) (0) (fun i=>by simp;rfl) Z3 ?_ ?_)
 ·simp
 rintro i ⟨hi,hJ⟩
 refine Q4 (Q0 [2,7,8,20] (jh hX Zb7) ?_)
 refine jd (fun h3=> ?_) (fun h3=> ?_)
 ·try simp at h3
  refine Q3 (Q4 (Q7 (Q0 [2,7,8,30] (jh hX Za1) ?_)))
  refine jd (fun h5=> ?_) (fun h5=> ?_)
  ·try simp at h5
   refine Q0 [6] (jh hX Za1) ?_
   refine Q5 (je Za1 ?_)
   rw[Q5y h3 hJ (by simpa using h5),if_pos Zb];simp[h3]
  ·try simp at h5
   refine Q3 (Qb (jh hX (by simp[e1,hq,h3];(try (simp (disch:=omega) only[Qc];(try simp[e1,hq,h3])));rfl)) ?_)
   refine Qo (i+1) [2,7,8] (by simp[e1,hq,h3];try (simp (disch:=omega) only[Qc])) ?_ ?_
   ·exact ⟨by omega,fun x hx=>by
    rw[List.take_succ_eq_append_getElem h3] at hx
    rcases List.mem_append.1 hx with hx|hx
    ·exact hJ x hx
    ·rw[List.mem_singleton.1 hx];simpa using h5⟩
   ·omega
 ·try simp at h3
  refine Ql (Q0 [6] (jh hX Za1) ?_)
  refine Q5 (je Za1 ?_)
  rw[Q5h (fun x hx=>hJ x (by rw[List.take_of_length_le Zb];exact hx)),if_neg Zb]
theorem Qfu:Q6 Tryz.prog 171:=jcb Tryz.func171
theorem Qfh{F:SF}{o1 o2:Bool}{st lo:List Typ}{k:Int}(hs:Q1w F.l≤1048576)(hw:Qs F.l=true)(hst:st.length≤500)(hlo:lo.length≤500)(hd:F.i.desc.length≤1099511627776):Ct Tryz.prog 171 [.ptr 0 0 0] [some (25,[oSW F o1 o2 st lo k])] (.tup []) [some (25,[Qak F (fdS F o1 o2 st lo k)])]:=by
 have hl:F.l.length≤1099511627776:=by unfold Q1w at hs;omega
 obtain ⟨bS,hS⟩: ∃b,Qsy F.i=b:=⟨_,rfl⟩
 obtain ⟨bP,hP⟩: ∃b,Qrl F.i=b:=⟨_,rfl⟩
 have hfx:(ffL F.l F.i.name F.i.desc (Qq F.l F.i.cls)).1=fdxS F:=rfl
 have hN:Qgs F.i=(if bS=true then 0 else 1)+(if bP=true then 1 else 0):=by rw[Qgs,hS,hP]
 have hS2:(34≤F.i.op)=(bS=true):=by rw[←hS];simp[Qsy]
 have hP1:(decide (F.i.op=33)||decide (F.i.op=35))=bP:=by rw[←hP];simp[Qrl]
 have hP2:(F.i.op=33∨F.i.op=35)=(bP=true):=by rw[←hP];simp[Qrl]
 cases bS<;>cases bP
 all_goals
  refine jbS Tryz.func171 98 fun X hX=> ?_
  refine Q0 [0,2] (jh hX Zi) ?_
  refine Q0 [0,2,3] (jh hX Zi) ?_
  refine Q0 [0,2,3,4] (js hX 4 Zi (jm 4 17 [0,2,3,21] (p:=by intro b;(try simp at b);exact (jh hX Zb8)) (q:=by intro b;(try simp at b);exact (jh hX Zb8)) (k:=(jh hX Zi)))) ?_
  refine Q0 [0,2,3,4] (jh hX Zi) ?_
  refine Q4 (Q0 [0,2,3,4,24] (jh hX Zi) ?_)
  refine jd (fun h4=> ?_) (fun h4=> ?_)
  ·try simp at h4
   all_goals
    refine Qb (js hX 2 Z1n (Q8.call [] rfl Z3 rfl Zi Z7 Z5g Qbc Z3 Z3 Zi (js hX 1 (by simp[h4,hS2,hP1,hP2,hfx];(try (simp (disch:=omega) only[Qc];(try simp[h4,hS2,hP1,hP2,hfx])));rfl) (Q8.call [0] rfl Z3 rfl Zi Z7 (by first|(apply Q28 (n:=2)<;>exact Z0;done)|(apply Q28 (n:=1)<;>exact Z0;done)) Qe Z3 Z3 Zi (jh hX Z1n))))) ?_
    have hL1:=Q24 k st 1
    have hL2:=Q24 k st 2
    refine Q0 [0,2,3,4,5] (js hX 1 Z1n (Q8.call [0] rfl Z3 rfl Zi Z7 Z17 Q19 Z3 Z3 Zi jf)) ?_
    refine jK 12 [0,1,2,3,4,5,6,7,8,9] (.two 10 11 (.one 11 .tail) (.one 10 .tail)) [0,2,3,4,5,6] ([0,1]) hX Z1n (.two (jN (p:=fun X hX=>(Q8.call [] rfl Z3 rfl Zi Z7 Z3m Q4u Z3 Z3 Zi jf)) (k:=(jN (p:=fun X hX=>(jh hX Z1n)) (k:=.tail)))) (jN (p:=fun X hX=>(jh hX Z1n)) (k:=(jN (p:=fun X hX=>(Q8.call [] rfl Z3 rfl Zi Z7 Z3m Q4u Z3 Z3 Zi jf)) (k:=.tail))))) (jh hX Z1n) ?_
    refine Q0 [0,2,3,4,5,6] (js hX 6 Z1n (Q8.call [0] rfl Z3 rfl Zi Z7 Ze Q9 Z3 Z3 Zi jf)) ?_
    refine Q4 (Q0 [0,2,3,4,5,6,58] (jh hX Z1n) ?_)
    refine jd (fun h10=> ?_) (fun h10=> ?_)
    ·try simp at h10
     refine Q5 (Qp Z1n Z15 (.of_eq ?_) ?_)
     all_goals clear hX
     ·rfl
     ·(simp_all[fdS,Qgt,Qn3,Q11])<;>congr
    ·try simp at h10
     have hx:=Qws h10
     obtain ⟨hf1,hf2⟩:=ff_e hw F.i.name F.i.desc (Qq F.l F.i.cls) hx.2
     rw[hfx] at hf1 hf2
     refine Q3 (jL 11 [0,1,2,3,4,5,6,7,9] [8,10] [0,2,3,4,5] ([0,1,4]) hX Z1n (jH (p:=fun X hX=>(Q8.call [] rfl Z3 rfl Zi Z7 Z7q Qcd Z3 Z3 Zi jf)) (k:=(jH (p:=fun X hX=>(jh hX Z1n)) (k:=.nil)))) (Q8.call [0] rfl Z3 rfl Zi Z7 Ze Q9 Z3 Z3 Zi jf) ?_)
     refine Q4 (Q0 [0,2,4,5,72] (jh hX Z1n) ?_)
     refine jd (fun h12=> ?_) (fun h12=> ?_)
     ·try simp at h12
      all_goals
       refine Q1x (n:=7) (A:=[0,1,2,3,4,5]) (B:=[6]) (L:=[1,3]) hmo Z24 tok hX Z1q (jH (p:=fun X hX=>(Q8.call [] rfl Z3 rfl Zi Z7 Zo Q10 Z3 Z3 Zi jf)) (k:=.nil)) (Q8.call [0] rfl Z3 rfl Zi Z7 Z19 Q1i Z3 Z3 Zi jf) ?_
       refine Q0 [0,2,5,81] (jh hX Z1q) ?_
       refine jd (fun h14=> ?_) (fun h14=> ?_)
       ·try simp at h14
        all_goals
         refine Q1x (n:=10) (A:=[0,1,2,3,4,5,6,7,8]) (B:=[9]) (L:=[1,3]) hmo Z24 tok hX Z1q (jH (p:=fun X hX=>(Q8.call [] rfl Z3 rfl Zi Z7 Z1z Q22 Z3 Z3 Zi jf)) (k:=.nil)) (Q8.call [0] rfl Z3 rfl Zi Z7 Z19 Q1i Z3 Z3 Zi jf) ?_
         refine Qk Z1q Z15 (.of_eq ?_) ?_
         all_goals clear hX
         ·rfl
         ·(simp_all[fdS,Qgt,Qn3,Q11])<;>congr
       ·try simp at h14
        all_goals
         refine Qb (js hX 3 Z1q (Q8.call [] rfl Z3 rfl Zi Z7 Z1z Q22 Z3 Z3 Zi (Q8.call [0] rfl Z3 rfl Zi Z7 Z12 Qg Z3 Z3 Zi jf))) ?_
         refine Qk Z1q Z15 (.of_eq ?_) ?_
         all_goals clear hX
         ·rfl
         ·(simp_all[fdS,Qgt,Qn3,Q11])<;>congr
     ·try simp at h12
      all_goals
       refine Q3 (Q0 [0,2,5,81] (jh hX Z1q) ?_)
       refine jd (fun h14=> ?_) (fun h14=> ?_)
       ·try simp at h14
        all_goals
         refine Q1x (n:=10) (A:=[0,1,2,3,4,5,6,7,8]) (B:=[9]) (L:=[1,3]) hmo Z24 tok hX Z1q (jH (p:=fun X hX=>(Q8.call [] rfl Z3 rfl Zi Z7 Z1z Q22 Z3 Z3 Zi jf)) (k:=.nil)) (Q8.call [0] rfl Z3 rfl Zi Z7 Z19 Q1i Z3 Z3 Zi jf) ?_
         refine Qk Z1q Z15 (.of_eq ?_) ?_
         all_goals clear hX
         ·rfl
         ·(simp_all[fdS,Qgt,Qn3,Q11])<;>congr
       ·try simp at h14
        all_goals
         refine Qb (js hX 3 Z1q (Q8.call [] rfl Z3 rfl Zi Z7 Z1z Q22 Z3 Z3 Zi (Q8.call [0] rfl Z3 rfl Zi Z7 Z12 Qg Z3 Z3 Zi jf))) ?_
         refine Qk Z1q Z15 (.of_eq ?_) ?_
         all_goals clear hX
         ·rfl
         ·(simp_all[fdS,Qgt,Qn3,Q11])<;>congr
  ·try simp at h4
   all_goals
    refine Qb (js hX 2 Z1n (Q8.call [] rfl Z3 rfl Zi Z7 Z5g Qbc Z3 Z3 Zi (Q8.call [0] rfl Z3 rfl Zi Z7 (by first|(apply Q28 (n:=1)<;>exact Z0;done)|(apply Q28 (n:=0)<;>exact Z0;done)) Qe Z3 Z3 Zi (jh hX Z1n)))) ?_
    have hL0:=Q24 k st 0
    have hL1:=Q24 k st 1
    refine Q0 [0,2,3,4,5] (js hX 1 Z1n (Q8.call [0] rfl Z3 rfl Zi Z7 Z17 Q19 Z3 Z3 Zi jf)) ?_
    refine jK 12 [0,1,2,3,4,5,6,7,8,9] (.two 10 11 (.one 11 .tail) (.one 10 .tail)) [0,2,3,4,5,6] ([0,1]) hX Z1n (.two (jN (p:=fun X hX=>(Q8.call [] rfl Z3 rfl Zi Z7 Z3m Q4u Z3 Z3 Zi jf)) (k:=(jN (p:=fun X hX=>(jh hX Z1n)) (k:=.tail)))) (jN (p:=fun X hX=>(jh hX Z1n)) (k:=(jN (p:=fun X hX=>(Q8.call [] rfl Z3 rfl Zi Z7 Z3m Q4u Z3 Z3 Zi jf)) (k:=.tail))))) (jh hX Z1n) ?_
    refine Q0 [0,2,3,4,5,6] (js hX 6 Z1n (Q8.call [0] rfl Z3 rfl Zi Z7 Ze Q9 Z3 Z3 Zi jf)) ?_
    refine Q4 (Q0 [0,2,3,4,5,6,58] (jh hX Z1n) ?_)
    refine jd (fun h10=> ?_) (fun h10=> ?_)
    ·try simp at h10
     refine Q5 (Qp Z1n Z15 (.of_eq ?_) ?_)
     all_goals clear hX
     ·rfl
     ·(simp_all[fdS,Qgt,Qn3,Q11])<;>congr
    ·try simp at h10
     have hx:=Qws h10
     obtain ⟨hf1,hf2⟩:=ff_e hw F.i.name F.i.desc (Qq F.l F.i.cls) hx.2
     rw[hfx] at hf1 hf2
     refine Q3 (jL 11 [0,1,2,3,4,5,6,7,9] [8,10] [0,2,3,4,5] ([0,1,4]) hX Z1n (jH (p:=fun X hX=>(Q8.call [] rfl Z3 rfl Zi Z7 Z7q Qcd Z3 Z3 Zi jf)) (k:=(jH (p:=fun X hX=>(jh hX Z1n)) (k:=.nil)))) (Q8.call [0] rfl Z3 rfl Zi Z7 Ze Q9 Z3 Z3 Zi jf) ?_)
     refine Q4 (Q0 [0,2,4,5,72] (jh hX Z1n) ?_)
     refine jd (fun h12=> ?_) (fun h12=> ?_)
     ·try simp at h12
      all_goals
       refine Q1x (n:=7) (A:=[0,1,2,3,4,5]) (B:=[6]) (L:=[1,3]) hmo Z24 tok hX Z1q (jH (p:=fun X hX=>(Q8.call [] rfl Z3 rfl Zi Z7 Zo Q10 Z3 Z3 Zi jf)) (k:=.nil)) (Q8.call [0] rfl Z3 rfl Zi Z7 Z19 Q1i Z3 Z3 Zi jf) ?_
       refine Q0 [0,2,5,81] (jh hX Z1q) ?_
       refine jd (fun h14=> ?_) (fun h14=> ?_)
       ·try simp at h14
        all_goals
         refine Q1x (n:=10) (A:=[0,1,2,3,4,5,6,7,8]) (B:=[9]) (L:=[1,3]) hmo Z24 tok hX Z1q (jH (p:=fun X hX=>(Q8.call [] rfl Z3 rfl Zi Z7 Z1z Q22 Z3 Z3 Zi jf)) (k:=.nil)) (Q8.call [0] rfl Z3 rfl Zi Z7 Z19 Q1i Z3 Z3 Zi jf) ?_
         refine Qk Z1q Z15 (.of_eq ?_) ?_
         all_goals clear hX
         ·rfl
         ·(simp_all[fdS,Qgt,Qn3,Q11])<;>congr
       ·try simp at h14
        all_goals
         refine Qb (js hX 3 Z1q (Q8.call [] rfl Z3 rfl Zi Z7 Z1z Q22 Z3 Z3 Zi (Q8.call [0] rfl Z3 rfl Zi Z7 Z12 Qg Z3 Z3 Zi jf))) ?_
         refine Qk Z1q Z15 (.of_eq ?_) ?_
         all_goals clear hX
         ·rfl
         ·(simp_all[fdS,Qgt,Qn3,Q11])<;>congr
     ·try simp at h12
      all_goals
       refine Q3 (Q0 [0,2,5,81] (jh hX Z1q) ?_)
       refine jd (fun h14=> ?_) (fun h14=> ?_)
       ·try simp at h14
        all_goals
         refine Q1x (n:=10) (A:=[0,1,2,3,4,5,6,7,8]) (B:=[9]) (L:=[1,3]) hmo Z24 tok hX Z1q (jH (p:=fun X hX=>(Q8.call [] rfl Z3 rfl Zi Z7 Z1z Q22 Z3 Z3 Zi jf)) (k:=.nil)) (Q8.call [0] rfl Z3 rfl Zi Z7 Z19 Q1i Z3 Z3 Zi jf) ?_
         refine Qk Z1q Z15 (.of_eq ?_) ?_
         all_goals clear hX
         ·rfl
         ·(simp_all[fdS,Qgt,Qn3,Q11])<;>congr
       ·try simp at h14
        all_goals
         refine Qb (js hX 3 Z1q (Q8.call [] rfl Z3 rfl Zi Z7 Z1z Q22 Z3 Z3 Zi (Q8.call [0] rfl Z3 rfl Zi Z7 Z12 Qg Z3 Z3 Zi jf))) ?_
         refine Qk Z1q Z15 (.of_eq ?_) ?_
         all_goals clear hX
         ·rfl
         ·(simp_all[fdS,Qgt,Qn3,Q11])<;>congr
theorem Q2x:Q6 Tryz.prog 242:=jcb Tryz.func242
theorem Qfi{l:List Cls}{c n d:Str}(hl:Q1w l≤1099511627776)(hw:Qs l=true):Ct Tryz.prog 242 [.lst false 6 (l.map eC),.str c,.str n,.str d] [] (eFd (fmL l n d (Qq l c)).1) []:=by
 have hll:l.length≤1099511627776:=by unfold Q1w at hl;omega
 have hsz: ∀{k:Nat} (h:k<l.length),Q1r l[k]≤1099511627776:=fun h=>Nat.le_trans (Q46 h) hl
 refine jbS Tryz.func242 55 fun X hX=> ?_
 refine jq [0,1,2,3,8] ?_
 refine Q4 (Q0 [0,1,2,3,8,21] (jt 1 (k:=(jc [] (c:=(by apply Q9b<;>exact Z3y)) (a:=Q5p) (k:=(jt 2 (k:=(jm 3 14 [0,1,2,3,8,17] (p:=Zcb) (q:=Zcb) (k:=(jt 1 (k:=(jm 3 18 [0,1,2,3,8,21] (p:=Zcb) (q:=Zcb) (k:=jf)))))))))))) ?_)
 refine jd (fun h1=> ?_) (fun h1=> ?_)
 ·try simp at h1
  refine Q0 [8] (jh hX Zs) ?_
  refine Q5 (je Zs ?_)
  obtain ⟨⟨e1,e2⟩,e3⟩:=h1
  rw[Q12x hw e1 e2 e3]
  rfl
 ·try simp at h1
  refine Q3 (Q4 (Q0 [0,2,3,8,9] (jt 2 (k:=(jc [] (c:=Z5m) (a:=Q1m) (k:=jr)))) ?_))
  refine Q7 (Qh (α:=Int) [0,2,3,8,9] (fun k=>[(9,.int .i64 k)]) (fun k=>[]) (fun k=>(-1≤k∧k<l.length)∧fmU l n d k=(fmL l n d (Qq l c)).1) (fun k=>rkU l k) (Qi c l 0) (fun k=>by simp;rfl) Z3 ?_ ?_)
  ·exact ⟨Qgq,Q12w hw (by simpa[Qn,Qdf] using h1)⟩
  rintro k ⟨hk,hI⟩
  refine Q4 (jq [0,2,3,8,9,28] ?_)
  refine jd (fun h4=> ?_) (fun h4=> ?_)
  ·try simp at h4
   obtain ⟨p,rfl⟩: ∃j:Nat,k=j:=⟨k.toNat,by omega⟩
   have hp:p<l.length:=by omega
   rw[Q16m hw hp] at hI
   refine Q3 (Q4 (Q7 (Q0 [0,2,3,8,9,10] (js hX 6 (by simp[h1,h4,hp];rfl) (jc [] (c:=(by apply Qc5<;>exact Z3y)) (a:=Q6b) (k:=jr))) ?_)))
   refine Q4 (jq [0,2,3,8,9,10,44] ?_)
   refine jd (fun h7=> ?_) (fun h7=> ?_)
   ·try simp at h7
    refine Q0 [8] (jh hX Z8x) ?_
    refine Q5 (je Z8x ?_)
    rw[if_pos (by simpa[hp] using h7)] at hI
    rw[←hI]
    simp[hp]
   ·try simp at h7
    rw[if_neg (by simpa[hp] using h7)] at hI
    refine Q3 (jq [0,2,3,8,9,53] ?_)
    refine jd (fun h9=> ?_) (fun h9=> ?_)
    ·try simp at h9
     refine Ql (Q0 [8] (jh hX Z8x) ?_)
     refine Q5 (je Z8x ?_)
     first
      |(rw[if_pos (by simpa[Qn] using h9)] at hI;rw[←hI];rfl)
      |(rw[←hI,Qzm Zb];rfl)
    ·try simp at h9
     rw[if_neg (by simpa[Qn] using h9)] at hI
     refine Q3 (Qb (js hX 6 Z8x (jc [] (c:=Z5m) (a:=Q1m) (k:=jr))) ?_)
     refine Qo (nxt l p) [0,2,3,8,9] (by simp[Qal,hp]) ?_ ?_
     ·exact ⟨@Qa2 l p,hI⟩
     ·exact Qxw hw hp
  ·try simp at h4
   refine Ql (Q0 [8] (jh hX Z5r) ?_)
   refine Q5 (je Z5r ?_)
   first
    |(rw[if_pos (by simpa[Qn] using h9)] at hI;rw[←hI];rfl)
    |(rw[←hI,Qzm Zb];rfl)
theorem Q42:Q6 Tryz.prog 243:=jcb Tryz.func243
theorem Qlc{l:List Cls}{x:Fnd}(hs:Q1w l≤1048576)(hc:(x.p= -1)∨(0≤Qi x.c l 0∧ ∃j:Nat,x.p=j∧j<(Q1q l x.c).methods.length)):Ct Tryz.prog 243 [.lst false 6 (l.map eC),eFd x] [] (eM (Qsx l x)) []:=by
 have hll:l.length≤1099511627776:=by unfold Q1w at hs;omega
 refine jbS Tryz.func243 21 fun X hX=> ?_
 refine jq [0,3,4] ?_
 refine Q4 (jq [0,3,4,7] ?_)
 refine jd (fun h1=> ?_) (fun h1=> ?_)
 ·try simp at h1
  refine Q0 [4] (jh hX Zs) ?_
  refine Q5 (Q1b Zs ?_ rfl)
  rw[Qsx,if_pos Zb];exact Qw3 _ _
 ·try simp at h1
  obtain ⟨hc,j,hj,hjl⟩:=hc.resolve_left Zb
  obtain ⟨q,hq,e1,_,e3,_⟩:=Q3w hc
  rw[Qsx,if_neg Zb,e3,hj,Int.toNat_natCast]
  rw[e3] at hjl
  refine Q3 (jL 10 [0,1,2,3,8,9] [4,5,6,7] [4] ([0]) hX Z6s (jH (p:=fun X hX=>(jc [] (c:=Z4t) (a:=Q1m) (k:=jf))) (k:=(jH (p:=fun X hX=>(jh hX Z6s)) (k:=(jH (p:=fun X hX=>(jh hX Z6s)) (k:=(jH (p:=fun X hX=>(jh hX Z6s)) (k:=.nil)))))))) (jh hX Z6s) ?_)
  refine Q5 (Q1b Z6s ?_ rfl)
  rw[Qa hjl];exact Wk.refl _
theorem Q1f:Q6 Tryz.prog 244:=jcb Tryz.func244
theorem Q8e{F:SF}{o1 o2:Bool}{st lo:List Typ}{k:Int}(hl:F.l.length≤1099511627776)(hw:Qs F.l=true){xs:List Typ}{off n:Nat}{ps:List Str}{r:Str}(hn:off+n≤xs.length)(hp:ps.length=n)(hn2:n≤1000)(ht: ∀p∈ps,p.length≤1099511627776):Ct Tryz.prog 244 [.ptr 0 0 0,.arr 1 off n,.agg [.lst false 1 (ps.map .str),.str r]] [some (25,[oSW F o1 o2 st lo k]),some (3,xs.map eT)] (.tup []) [some (25,[oSW F o1 o2 st lo (ndC k (Qbt F.l xs off ps n) 10)]),some (3,xs.map eT)]:=by
 refine jbS Tryz.func244 26 fun X hX=> ?_
 refine Q0 [0,1,5] (jh hX Zah) ?_
 refine Q0 [0,1,5,6] (jh hX Zah) ?_
 refine Q7 (Qh (α:=Nat) [0,1,5,6] (fun j=>[(6,.int .i64 j)]) (fun j=>[(0,some (25,[oSW F o1 o2 st lo (ndC k (Qbt F.l xs off ps j) 10)]))]) (fun j=>j≤n) (fun j=>n-j) (0) (fun j=>by simp;rfl) (by simp[Qbt,Q15o]) ?_ ?_)
 ·simp
 rintro j hj
 refine Q4 (Q0 [0,1,5,6,11] (jh hX Zah) ?_)
 refine jd (fun h2=> ?_) (fun h2=> ?_)
 ·try simp at h2
  have h2:j<ps.length:=by first|assumption|omega
  have hjn:j<n:=by omega
  have hjx:off+j<xs.length:=by omega
  have htj:=ht _ (List.getElem_mem h2)
  refine Q3 (Q4 (Q7 (Q1x (n:=11) (A:=[0,1,2,3,4,5,6,7,8,9]) (B:=[10]) (L:=[1,2]) hmo Z24 tok hX (by simp[h2,h2,hjn,hjx,hp];rfl) (jH (p:=fun X hX=>(Q8.call [] rfl Z3 rfl Zah Z7 Z3s Q22 Z3 Z3 Zah jf)) (k:=.nil)) (Q8.call [0] rfl Z3 rfl Zah Z7 (by apply Qb7<;>exact Z1o) Q1i Z3 Z3 Zah jf) ?_)))
  refine Qb (jh hX (by simp[h2,h2,hjn,hjx,hp];(try (simp (disch:=omega) only[Qc];(try simp[h2,h2,hjn,hjx,hp])));rfl)) ?_
  refine Qo (j+1) [0,1,5,6] (by simp[Qbt,Qze,h2,hjx];try (simp (disch:=omega) only[Qc])) ?_ ?_
  ·omega
  ·omega
 ·try simp at h2
  obtain rfl:j=n:=by omega
  refine Ql (Qk Zc1 Z15 (.of_eq ?_) ?_)
  all_goals clear hX
  ·rfl
  ·rfl
theorem Qv:Q6 Tryz.prog 245:=jcb Tryz.func245
theorem Qei{F:SF}{o1 o2:Bool}{st lo:List Typ}{k:Int}{ps:List V}{r:Str}(hs:st.length≤1000)(hr:r.length≤1099511627776):Ct Tryz.prog 245 [.ptr 0 0 0,.agg [.lst false 1 ps,.str r]] [some (25,[oSW F o1 o2 st lo k])] (.tup []) [some (25,[Qak F (Qms r ⟨o1,o2,st,lo,k⟩)])]:=by
 refine jbS Tryz.func245 19 fun X hX=> ?_
 refine jq [0,3] ?_
 refine Q0 [0,3,13] (jt 4 (k:=(jm 6 7 [0,3,13] (p:=Zcb) (q:=Zcb) (k:=jf)))) ?_
 refine jd (fun h1=> ?_) (fun h1=> ?_)
 ·try simp at h1
  refine Qb (jt 3 (k:=(jc [] (c:=Z3s) (a:=Q22) (k:=(jc [0] (c:=(by apply Q25<;>exact Z1o)) (a:=Qg) (k:=jf)))))) ?_
  refine Qk Z7 Z15 (.of_eq ?_) ?_
  all_goals clear hX
  ·rfl
  ·skip
   simp only[Qms]
   first|rw[if_pos h1]|rw[if_neg (fun e=>h1 e.1 e.2)]
   simp_all
 ·try simp at h1
  refine Q3 (Qk Z7 Z15 (.of_eq ?_) ?_)
  all_goals clear hX
  ·rfl
  ·skip
   simp only[Qms]
   first|rw[if_pos h1]|rw[if_neg (fun e=>h1 e.1 e.2)]
   simp_all
theorem Qhj:Q6 Tryz.prog 172:=jcb Tryz.func172
theorem Qgy{F:SF}{o1 o2:Bool}{st lo:List Typ}{k:Int}(hs:Q1w F.l≤1048576)(hw:Qs F.l=true)(hst:st.length≤500)(hlo:lo.length≤500)(hd:F.i.desc.length≤1099511627776)(hop:36≤F.i.op∧F.i.op≤38):Ct Tryz.prog 172 [.ptr 0 0 0] [some (25,[oSW F o1 o2 st lo k])] (.tup []) [some (25,[Qak F (Q4h F o1 o2 st lo k)])]:=by
 have hl:F.l.length≤1099511627776:=by unfold Q1w at hs;omega
 have hdl:=Q7x F.i.desc
 have hdr:=(Q6k F.i.desc).1
 have hdp: ∀p∈(Qd F.i.desc).params,p.length≤1099511627776:=fun p hp=>Nat.le_trans ((Q6k F.i.desc).2 p hp) hd
 have hfx:(fmL F.l F.i.name F.i.desc (Qq F.l F.i.cls)).1=Qvx F:=rfl
 rcases (by omega:F.i.op=36∨F.i.op=37∨F.i.op=38) with h|h|h
 all_goals by_cases hn:F.i.name=[60,105,110,105,116,62]
 all_goals first|have e36:(F.i.op=36)=(true=true):=by simp[h]|have e36:(F.i.op=36)=(false=true):=by simp[h]
 all_goals first|have e37:(F.i.op=37)=(true=true):=by simp[h]|have e37:(F.i.op=37)=(false=true):=by simp[h]
 all_goals first|have e38:(F.i.op=38)=(true=true):=by simp[h]|have e38:(F.i.op=38)=(false=true):=by simp[h]
 all_goals first|have en:(F.i.name=[60,105,110,105,116,62])=(true=true):=by simp[hn]|have en:(F.i.name=[60,105,110,105,116,62])=(false=true):=by simp[hn]
 all_goals clear h hn
 all_goals
  refine jbS Tryz.func172 225 fun X hX=> ?_
  refine Q0 [0,2] (jh hX Z2) ?_
  refine Q0 [0,2,3] (js hX 2 Z2 (Q8.callF rfl Z3 rfl Z2 Z7v Q34 (by (try simp[hfx,e36,e37,e38,en]);rfl) (jh hX Z2))) ?_
  refine jL 9 [0,1,2,3,4,5,6] [7,8] [0,2,3,4] ([1,2]) hX Z2 (jH (p:=fun X hX=>(Q8.call [] rfl Z3 rfl Z2 Z7 Z5g Qbc Z3 Z3 Z2 jf)) (k:=(jH (p:=fun X hX=>(jh hX (by simp[hfx,e36,e37,e38,en];(try (simp (disch:=omega) only[Qc];(try simp[hfx,e36,e37,e38,en])));rfl))) (k:=.nil)))) (Q8.call [0] rfl Z3 rfl Z2 Z7 (by first|(apply Q28 (n:=(Qd F.i.desc).params.length+1)<;>exact Z0;done)|(apply Q28 (n:=(Qd F.i.desc).params.length)<;>exact Z0;done)) Qe Z3 Z3 Z2 (jh hX Z2)) ?_
  have hL1:=Q24 k st ((Qd F.i.desc).params.length+1)
  have hL0:=Q24 k st (Qd F.i.desc).params.length
  refine Q0 [0,2,3,4,5] (jh hX Z2) ?_
  refine Q4 (Q0 [0,2,3,4,5,33] (jh hX Z2) ?_)
  refine jd (fun h4=> ?_) (fun h4=> ?_)
  ·try simp at h4
   all_goals
    refine Qb (js hX 3 Z2 (Q8.call [0] rfl Z3 rfl Z2 Z7 Ze Q9 Z3 Z3 Z2 jf)) ?_
    refine Q0 [0,2,3,4,5] (js hX 1 Z2 (Q8.call [0] rfl Z3 rfl Z2 Z7 Z17 Q19 Z3 Z3 Z2 jf)) ?_
    refine jK 12 [0,1,2,3,4,5,6,7,8,9] (.two 10 11 (.one 11 .tail) (.one 10 .tail)) [0,2,3,4,5,6] ([0,1]) hX Z2 (.two (jN (p:=fun X hX=>(Q8.call [] rfl Z3 rfl Z2 Z7 Z2k Q2x Z3 Z3 Z2 jf)) (k:=(jN (p:=fun X hX=>(jh hX Z2)) (k:=.tail)))) (jN (p:=fun X hX=>(jh hX Z2)) (k:=(jN (p:=fun X hX=>(Q8.call [] rfl Z3 rfl Z2 Z7 Z2k Q2x Z3 Z3 Z2 jf)) (k:=.tail))))) (jh hX Z2) ?_
    refine Q0 [0,2,3,4,5,6] (js hX 6 Z2 (Q8.call [0] rfl Z3 rfl Z2 Z7 Ze Q9 Z3 Z3 Z2 jf)) ?_
    refine Q4 (Q0 [0,2,3,4,5,6,74] (jh hX Z2) ?_)
    refine jd (fun h11=> ?_) (fun h11=> ?_)
    ·try simp at h11
     refine Q5 (Qp Z2 Z15 (.of_eq ?_) ?_)
     all_goals clear hX
     ·rfl
     ·((simp_all[Q4h,Q3u,Q58,Q3h,Q5u,Q37,ownB,Q55,Qn,Q11,Bool.and_assoc])<;>congr;done)
    ·try simp at h11
     have hx:=Qws h11
     obtain ⟨hm1,hm2⟩:=fm_e F.l F.i.name F.i.desc (Qq F.l F.i.cls) hx.2
     rw[hfx] at hm1 hm2
     replace hm1:=hm1.imp (fun h=>h.1) id
     refine Q3 (jK 7 [0,1,2,3,4] (.two 5 6 (.one 6 .tail) (.one 5 .tail)) [0,2,3,4,5,7] ([0,4]) hX Z2 (.two (jN (p:=fun X hX=>(Q8.call [] rfl Z3 rfl Z2 Z7 Z2o Q42 Z3 Z3 Z2 jf)) (k:=(jN (p:=fun X hX=>(jh hX Z2)) (k:=.tail)))) (jN (p:=fun X hX=>(jh hX Z2)) (k:=(jN (p:=fun X hX=>(Q8.call [] rfl Z3 rfl Z2 Z7 Z2o Q42 Z3 Z3 Z2 jf)) (k:=.tail))))) (jh hX Z2) ?_)
     refine Q4 (Q7 (Q0 [0,2,3,4,5,7,115] (jh hX Z2) ?_))
     refine jd (fun h16=> ?_) (fun h16=> ?_)
     ·try simp at h16
      all_goals
       refine Q0 [0,2,3,4] (js hX 4 Z2 (Q8.call [0] rfl Z3 rfl Z2 Z7 Ze Q9 Z3 Z3 Z2 jf)) ?_
       refine jL 7 [0,1,2,3,4,5] [6] [0,3,4] ([1,3]) hX Z2 (jH (p:=fun X hX=>(Q8.call [] rfl Z3 rfl Z2 Z7 Zo Q10 Z3 Z3 Z2 jf)) (k:=.nil)) (Q8.call [0] rfl Z3 rfl Z2 Z7 Z19 Q1i Z3 Z3 Z2 jf) ?_
       refine Q1x (n:=4) (A:=[0,1,2,3]) (B:=[]) (L:=[2]) hmo Z24 tok hX Z2 .nil (Q8.call [0,3] rfl Z3 rfl Z2 Z7 Z8 Q1f Z3 Z3 Z2 jf) ?_
       refine Qb (js hX 2 Z2 (Q8.call [0] rfl Z3 rfl Z2 Z7 Zl Qv Z3 Z3 Z2 jf)) ?_
       refine Qk Z2 Z15 (.of_eq ?_) ?_
       all_goals clear hX
       ·rfl
       ·((simp_all[Q4h,Q3u,Q58,Q3h,Q5u,Q37,ownB,Q55,Qn,Q11,Bool.and_assoc])<;>congr;done)
     ·try simp at h16
      all_goals
       refine Q0 [0,2,3,4,5,7,137] (jh hX Z2) ?_
       refine jd (fun h20=> ?_) (fun h20=> ?_)
       ·try simp at h20
        all_goals
         refine Q0 [0,3,4] (js hX 3 Z2 (Q8.call [0] rfl Z3 rfl Z2 Z7 Ze Q9 Z3 Z3 Z2 jf)) ?_
         refine Qb (js hX 3 Z2 (Q8.call [0,3] rfl Z3 rfl Z2 Z7 Z8 Q1f Z3 Z3 Z2 jf)) ?_
         refine Qb (js hX 2 Z2 (Q8.call [0] rfl Z3 rfl Z2 Z7 Zl Qv Z3 Z3 Z2 jf)) ?_
         refine Qk Z2 Z15 (.of_eq ?_) ?_
         all_goals clear hX
         ·rfl
         ·((simp_all[Q4h,Q3u,Q58,Q3h,Q5u,Q37,ownB,Q55,Qn,Q11,Bool.and_assoc])<;>congr;done)
       ·try simp at h20
        all_goals
         refine Q0 [0,2,3,4,7,149] (jh hX Z2) ?_
         refine jd (fun h23=> ?_) (fun h23=> ?_)
         ·try simp at h23
          all_goals
           refine jD [0,2,3,4,8] (jS 6 Z2 (jM 8 156 [0,2,3,4,164] (p:=Zcl) (q:=Zcl) (k:=(jQ Z2)))) ?_
           refine jD [0,2,3,4,8,9] (jS 6 Z2 (jM 19 170 [0,2,3,4,8,189] (p:=Zcm) (q:=Zcl) (k:=(jQ Z2)))) ?_
           refine Q0 [0,2,3,4,8,9] (js hX 3 Z2 (jm 2 192 [0,2,3,4,8,9,190,194] (p:=Zci) (q:=Zci) (k:=(Q8.call [0] rfl Z3 rfl Z2 Z7 Ze Q9 Z3 Z3 Z2 jf)))) ?_
           refine jL 4 [0,1,2,3] [] [0,2,3,4,8,9] ([2]) hX Z2 .nil (Q8.call [0,3] rfl Z3 rfl Z2 Z7 Z8 Q1f Z3 Z3 Z2 jf) ?_
           refine Q0 [0,2,3,4,9,201] (jh hX Z2) ?_
           refine jd (fun h28=> ?_) (fun h28=> ?_)
           ·try simp at h28
            refine Q1x (n:=7) (A:=[0,1,2,3,4,5]) (B:=[6]) (L:=[1,3]) hmo Z24 tok hX Z2 (jH (p:=fun X hX=>(Q8.call [] rfl Z3 rfl Z2 Z7 Zo Q10 Z3 Z3 Z2 jf)) (k:=.nil)) (Q8.call [0] rfl Z3 rfl Z2 Z7 Z2i Q2g Z3 Z3 Z2 jf) ?_
            refine Qb (js hX 2 Z2 (Q8.call [0] rfl Z3 rfl Z2 Z7 Zl Qv Z3 Z3 Z2 jf)) ?_
            refine Qk Z2 Z15 (.of_eq ?_) ?_
            all_goals clear hX
            ·rfl
            ·first|((simp_all[Q4h,Q3u,Q58,Q3h,Q5u,Q37,ownB,Q55,Qn,Q11,Bool.and_assoc])<;>congr;done)|(by_cases hk6:(atL (tkV k st ((Qd F.i.desc).params.length+1)) 0).k=6<;>by_cases hk7:(atL (tkV k st ((Qd F.i.desc).params.length+1)) 0).k=7<;>(simp_all[Q4h,Q3u,Q58,Q3h,Q5u,Q37,ownB,Q55,Qn,Q11,Bool.and_assoc])<;>congr)
           ·try simp at h28
            refine Q0 [0,3,4,210] (jh hX Z2) ?_
            refine jd (fun h30=> ?_) (fun h30=> ?_)
            ·try simp at h30
             refine Q1x (n:=10) (A:=[0,1,2,3,4,5,6,7,8]) (B:=[9]) (L:=[0,3]) hmo Z24 tok hX Z2 (jH (p:=fun X hX=>(Q8.call [] rfl Z3 rfl Z2 Z7 Zo Q10 Z3 Z3 Z2 jf)) (k:=.nil)) (Q8.call [0] rfl Z3 rfl Z2 Z7 Z2i Q2g Z3 Z3 Z2 jf) ?_
             refine Qb (js hX 2 Z2 (Q8.call [0] rfl Z3 rfl Z2 Z7 Zl Qv Z3 Z3 Z2 jf)) ?_
             refine Qk Z2 Z15 (.of_eq ?_) ?_
             all_goals clear hX
             ·rfl
             ·first|((simp_all[Q4h,Q3u,Q58,Q3h,Q5u,Q37,ownB,Q55,Qn,Q11,Bool.and_assoc])<;>congr;done)|(by_cases hk6:(atL (tkV k st ((Qd F.i.desc).params.length+1)) 0).k=6<;>by_cases hk7:(atL (tkV k st ((Qd F.i.desc).params.length+1)) 0).k=7<;>(simp_all[Q4h,Q3u,Q58,Q3h,Q5u,Q37,ownB,Q55,Qn,Q11,Bool.and_assoc])<;>congr)
            ·try simp at h30
             refine Q3 (Qb (js hX 2 Z2 (Q8.call [0] rfl Z3 rfl Z2 Z7 Zl Qv Z3 Z3 Z2 jf)) ?_)
             refine Qk Z2 Z15 (.of_eq ?_) ?_
             all_goals clear hX
             ·rfl
             ·first|((simp_all[Q4h,Q3u,Q58,Q3h,Q5u,Q37,ownB,Q55,Qn,Q11,Bool.and_assoc])<;>congr;done)|(by_cases hk6:(atL (tkV k st ((Qd F.i.desc).params.length+1)) 0).k=6<;>by_cases hk7:(atL (tkV k st ((Qd F.i.desc).params.length+1)) 0).k=7<;>(simp_all[Q4h,Q3u,Q58,Q3h,Q5u,Q37,ownB,Q55,Qn,Q11,Bool.and_assoc])<;>congr)
         ·try simp at h23
          all_goals
           refine Q0 [0,3,4] (js hX 5 Z2 (jm 4 85 [0,3,4,81,89] (p:=Zci) (q:=Zci) (k:=(js hX 1 Z2 (jm 7 90 [0,3,4,81,97] (p:=Zci) (q:=Zci) (k:=(Q8.call [0] rfl Z3 rfl Z2 Z7 Ze Q9 Z3 Z3 Z2 jf))))))) ?_
           refine jL 10 [0,1,2,3,4,5,6,7,8] [9] [0,3,4] ([0,3]) hX Z2 (jH (p:=fun X hX=>(Q8.call [] rfl Z3 rfl Z2 Z7 Zo Q10 Z3 Z3 Z2 jf)) (k:=.nil)) (Q8.call [0] rfl Z3 rfl Z2 Z7 Z19 Q1i Z3 Z3 Z2 jf) ?_
           refine Q1x (n:=4) (A:=[0,1,2,3]) (B:=[]) (L:=[2]) hmo Z24 tok hX Z2 .nil (Q8.call [0,3] rfl Z3 rfl Z2 Z7 Z8 Q1f Z3 Z3 Z2 jf) ?_
           refine Qb (js hX 2 Z2 (Q8.call [0] rfl Z3 rfl Z2 Z7 Zl Qv Z3 Z3 Z2 jf)) ?_
           refine Qk Z2 Z15 (.of_eq ?_) ?_
           all_goals clear hX
           ·rfl
           ·first|((simp_all[Q4h,Q3u,Q58,Q3h,Q5u,Q37,ownB,Q55,Qn,Q11,Bool.and_assoc])<;>congr;done)|(by_cases hk6:(atL (tkV k st ((Qd F.i.desc).params.length+1)) 0).k=6<;>by_cases hk7:(atL (tkV k st ((Qd F.i.desc).params.length+1)) 0).k=7<;>(simp_all[Q4h,Q3u,Q58,Q3h,Q5u,Q37,ownB,Q55,Qn,Q11,Bool.and_assoc])<;>congr)
  ·try simp at h4
   all_goals
    refine Q0 [0,2,3,4,5,39] (jh hX Z2) ?_
    refine jd (fun h6=> ?_) (fun h6=> ?_)
    ·try simp at h6
     all_goals
      refine Q1x (n:=9) (A:=[0,1,2,3,4,5,6,7,8]) (B:=[]) (L:=[0,1]) hmo Z24 tok hX Z2 .nil (Q8.call [0] rfl Z3 rfl Z2 Z7 Ze Q9 Z3 Z3 Z2 jf) ?_
      refine Q0 [0,2,3,4,5] (js hX 1 Z2 (Q8.call [0] rfl Z3 rfl Z2 Z7 Z17 Q19 Z3 Z3 Z2 jf)) ?_
      refine jK 12 [0,1,2,3,4,5,6,7,8,9] (.two 10 11 (.one 11 .tail) (.one 10 .tail)) [0,2,3,4,5,6] ([0,1]) hX Z2 (.two (jN (p:=fun X hX=>(Q8.call [] rfl Z3 rfl Z2 Z7 Z2k Q2x Z3 Z3 Z2 jf)) (k:=(jN (p:=fun X hX=>(jh hX Z2)) (k:=.tail)))) (jN (p:=fun X hX=>(jh hX Z2)) (k:=(jN (p:=fun X hX=>(Q8.call [] rfl Z3 rfl Z2 Z7 Z2k Q2x Z3 Z3 Z2 jf)) (k:=.tail))))) (jh hX Z2) ?_
      refine Q0 [0,2,3,4,5,6] (js hX 6 Z2 (Q8.call [0] rfl Z3 rfl Z2 Z7 Ze Q9 Z3 Z3 Z2 jf)) ?_
      refine Q4 (Q0 [0,2,3,4,5,6,74] (jh hX Z2) ?_)
      refine jd (fun h11=> ?_) (fun h11=> ?_)
      ·try simp at h11
       refine Q5 (Qp Z2 Z15 (.of_eq ?_) ?_)
       all_goals clear hX
       ·rfl
       ·((simp_all[Q4h,Q3u,Q58,Q3h,Q5u,Q37,ownB,Q55,Qn,Q11,Bool.and_assoc])<;>congr;done)
      ·try simp at h11
       have hx:=Qws h11
       obtain ⟨hm1,hm2⟩:=fm_e F.l F.i.name F.i.desc (Qq F.l F.i.cls) hx.2
       rw[hfx] at hm1 hm2
       replace hm1:=hm1.imp (fun h=>h.1) id
       refine Q3 (jK 7 [0,1,2,3,4] (.two 5 6 (.one 6 .tail) (.one 5 .tail)) [0,2,3,4,5,7] ([0,4]) hX Z2 (.two (jN (p:=fun X hX=>(Q8.call [] rfl Z3 rfl Z2 Z7 Z2o Q42 Z3 Z3 Z2 jf)) (k:=(jN (p:=fun X hX=>(jh hX Z2)) (k:=.tail)))) (jN (p:=fun X hX=>(jh hX Z2)) (k:=(jN (p:=fun X hX=>(Q8.call [] rfl Z3 rfl Z2 Z7 Z2o Q42 Z3 Z3 Z2 jf)) (k:=.tail))))) (jh hX Z2) ?_)
       refine Q4 (Q7 (Q0 [0,2,3,4,5,7,115] (jh hX Z2) ?_))
       refine jd (fun h16=> ?_) (fun h16=> ?_)
       ·try simp at h16
        all_goals
         refine Q0 [0,2,3,4] (js hX 4 Z2 (Q8.call [0] rfl Z3 rfl Z2 Z7 Ze Q9 Z3 Z3 Z2 jf)) ?_
         refine jL 7 [0,1,2,3,4,5] [6] [0,3,4] ([1,3]) hX Z2 (jH (p:=fun X hX=>(Q8.call [] rfl Z3 rfl Z2 Z7 Zo Q10 Z3 Z3 Z2 jf)) (k:=.nil)) (Q8.call [0] rfl Z3 rfl Z2 Z7 Z19 Q1i Z3 Z3 Z2 jf) ?_
         refine Q1x (n:=4) (A:=[0,1,2,3]) (B:=[]) (L:=[2]) hmo Z24 tok hX Z2 .nil (Q8.call [0,3] rfl Z3 rfl Z2 Z7 Z8 Q1f Z3 Z3 Z2 jf) ?_
         refine Qb (js hX 2 Z2 (Q8.call [0] rfl Z3 rfl Z2 Z7 Zl Qv Z3 Z3 Z2 jf)) ?_
         refine Qk Z2 Z15 (.of_eq ?_) ?_
         all_goals clear hX
         ·rfl
         ·first|((simp_all[Q4h,Q3u,Q58,Q3h,Q5u,Q37,ownB,Q55,Qn,Q11,Bool.and_assoc])<;>congr;done)|(by_cases hk6:(atL (tkV k st ((Qd F.i.desc).params.length+1)) 0).k=6<;>by_cases hk7:(atL (tkV k st ((Qd F.i.desc).params.length+1)) 0).k=7<;>(simp_all[Q4h,Q3u,Q58,Q3h,Q5u,Q37,ownB,Q55,Qn,Q11,Bool.and_assoc])<;>congr)
       ·try simp at h16
        all_goals
         refine Q0 [0,2,3,4,5,7,137] (jh hX Z2) ?_
         refine jd (fun h20=> ?_) (fun h20=> ?_)
         ·try simp at h20
          all_goals
           refine Q0 [0,3,4] (js hX 3 Z2 (Q8.call [0] rfl Z3 rfl Z2 Z7 Ze Q9 Z3 Z3 Z2 jf)) ?_
           refine Qb (js hX 3 Z2 (Q8.call [0,3] rfl Z3 rfl Z2 Z7 Z8 Q1f Z3 Z3 Z2 jf)) ?_
           refine Qb (js hX 2 Z2 (Q8.call [0] rfl Z3 rfl Z2 Z7 Zl Qv Z3 Z3 Z2 jf)) ?_
           refine Qk Z2 Z15 (.of_eq ?_) ?_
           all_goals clear hX
           ·rfl
           ·first|((simp_all[Q4h,Q3u,Q58,Q3h,Q5u,Q37,ownB,Q55,Qn,Q11,Bool.and_assoc])<;>congr;done)|(by_cases hk6:(atL (tkV k st ((Qd F.i.desc).params.length+1)) 0).k=6<;>by_cases hk7:(atL (tkV k st ((Qd F.i.desc).params.length+1)) 0).k=7<;>(simp_all[Q4h,Q3u,Q58,Q3h,Q5u,Q37,ownB,Q55,Qn,Q11,Bool.and_assoc])<;>congr)
         ·try simp at h20
          all_goals
           refine Q0 [0,2,3,4,7,149] (jh hX Z2) ?_
           refine jd (fun h23=> ?_) (fun h23=> ?_)
           ·try simp at h23
            all_goals
             refine jD [0,2,3,4,8] (jS 6 Z2 (jM 8 156 [0,2,3,4,164] (p:=Zcl) (q:=Zcl) (k:=(jQ Z2)))) ?_
             refine jD [0,2,3,4,8,9] (jS 6 Z2 (jM 19 170 [0,2,3,4,8,189] (p:=Zcm) (q:=Zcl) (k:=(jQ Z2)))) ?_
             refine Q0 [0,2,3,4,8,9] (js hX 3 Z2 (jm 2 192 [0,2,3,4,8,9,190,194] (p:=Zci) (q:=Zci) (k:=(Q8.call [0] rfl Z3 rfl Z2 Z7 Ze Q9 Z3 Z3 Z2 jf)))) ?_
             refine jL 4 [0,1,2,3] [] [0,2,3,4,8,9] ([2]) hX Z2 .nil (Q8.call [0,3] rfl Z3 rfl Z2 Z7 Z8 Q1f Z3 Z3 Z2 jf) ?_
             refine Q0 [0,2,3,4,9,201] (jh hX Z2) ?_
             refine jd (fun h28=> ?_) (fun h28=> ?_)
             ·try simp at h28
              refine Q1x (n:=7) (A:=[0,1,2,3,4,5]) (B:=[6]) (L:=[1,3]) hmo Z24 tok hX Z2 (jH (p:=fun X hX=>(Q8.call [] rfl Z3 rfl Z2 Z7 Zo Q10 Z3 Z3 Z2 jf)) (k:=.nil)) (Q8.call [0] rfl Z3 rfl Z2 Z7 Z2i Q2g Z3 Z3 Z2 jf) ?_
              refine Qb (js hX 2 Z2 (Q8.call [0] rfl Z3 rfl Z2 Z7 Zl Qv Z3 Z3 Z2 jf)) ?_
              refine Qk Z2 Z15 (.of_eq ?_) ?_
              all_goals clear hX
              ·rfl
              ·first|((simp_all[Q4h,Q3u,Q58,Q3h,Q5u,Q37,ownB,Q55,Qn,Q11,Bool.and_assoc])<;>congr;done)|(by_cases hk6:(atL (tkV k st ((Qd F.i.desc).params.length+1)) 0).k=6<;>by_cases hk7:(atL (tkV k st ((Qd F.i.desc).params.length+1)) 0).k=7<;>(simp_all[Q4h,Q3u,Q58,Q3h,Q5u,Q37,ownB,Q55,Qn,Q11,Bool.and_assoc])<;>congr)
             ·try simp at h28
              refine Q0 [0,3,4,210] (jh hX Z2) ?_
              refine jd (fun h30=> ?_) (fun h30=> ?_)
              ·try simp at h30
               refine Q1x (n:=10) (A:=[0,1,2,3,4,5,6,7,8]) (B:=[9]) (L:=[0,3]) hmo Z24 tok hX Z2 (jH (p:=fun X hX=>(Q8.call [] rfl Z3 rfl Z2 Z7 Zo Q10 Z3 Z3 Z2 jf)) (k:=.nil)) (Q8.call [0] rfl Z3 rfl Z2 Z7 Z2i Q2g Z3 Z3 Z2 jf) ?_
               refine Qb (js hX 2 Z2 (Q8.call [0] rfl Z3 rfl Z2 Z7 Zl Qv Z3 Z3 Z2 jf)) ?_
               refine Qk Z2 Z15 (.of_eq ?_) ?_
               all_goals clear hX
               ·rfl
               ·first|((simp_all[Q4h,Q3u,Q58,Q3h,Q5u,Q37,ownB,Q55,Qn,Q11,Bool.and_assoc])<;>congr;done)|(by_cases hk6:(atL (tkV k st ((Qd F.i.desc).params.length+1)) 0).k=6<;>by_cases hk7:(atL (tkV k st ((Qd F.i.desc).params.length+1)) 0).k=7<;>(simp_all[Q4h,Q3u,Q58,Q3h,Q5u,Q37,ownB,Q55,Qn,Q11,Bool.and_assoc])<;>congr)
              ·try simp at h30
               refine Q3 (Qb (js hX 2 Z2 (Q8.call [0] rfl Z3 rfl Z2 Z7 Zl Qv Z3 Z3 Z2 jf)) ?_)
               refine Qk Z2 Z15 (.of_eq ?_) ?_
               all_goals clear hX
               ·rfl
               ·first|((simp_all[Q4h,Q3u,Q58,Q3h,Q5u,Q37,ownB,Q55,Qn,Q11,Bool.and_assoc])<;>congr;done)|(by_cases hk6:(atL (tkV k st ((Qd F.i.desc).params.length+1)) 0).k=6<;>by_cases hk7:(atL (tkV k st ((Qd F.i.desc).params.length+1)) 0).k=7<;>(simp_all[Q4h,Q3u,Q58,Q3h,Q5u,Q37,ownB,Q55,Qn,Q11,Bool.and_assoc])<;>congr)
           ·try simp at h23
            all_goals
             refine Q0 [0,3,4] (js hX 5 Z2 (jm 4 85 [0,3,4,81,89] (p:=Zci) (q:=Zci) (k:=(js hX 1 Z2 (jm 7 90 [0,3,4,81,97] (p:=Zci) (q:=Zci) (k:=(Q8.call [0] rfl Z3 rfl Z2 Z7 Ze Q9 Z3 Z3 Z2 jf))))))) ?_
             refine jL 10 [0,1,2,3,4,5,6,7,8] [9] [0,3,4] ([0,3]) hX Z2 (jH (p:=fun X hX=>(Q8.call [] rfl Z3 rfl Z2 Z7 Zo Q10 Z3 Z3 Z2 jf)) (k:=.nil)) (Q8.call [0] rfl Z3 rfl Z2 Z7 Z19 Q1i Z3 Z3 Z2 jf) ?_
             refine Q1x (n:=4) (A:=[0,1,2,3]) (B:=[]) (L:=[2]) hmo Z24 tok hX Z2 .nil (Q8.call [0,3] rfl Z3 rfl Z2 Z7 Z8 Q1f Z3 Z3 Z2 jf) ?_
             refine Qb (js hX 2 Z2 (Q8.call [0] rfl Z3 rfl Z2 Z7 Zl Qv Z3 Z3 Z2 jf)) ?_
             refine Qk Z2 Z15 (.of_eq ?_) ?_
             all_goals clear hX
             ·rfl
             ·((simp_all[Q4h,Q3u,Q58,Q3h,Q5u,Q37,ownB,Q55,Qn,Q11,Bool.and_assoc])<;>congr;done)
    ·try simp at h6
     all_goals
      refine Q3 (Q0 [0,2,3,4,5] (js hX 1 Z2 (Q8.call [0] rfl Z3 rfl Z2 Z7 Z17 Q19 Z3 Z3 Z2 jf)) ?_)
      refine jK 12 [0,1,2,3,4,5,6,7,8,9] (.two 10 11 (.one 11 .tail) (.one 10 .tail)) [0,2,3,4,5,6] ([0,1]) hX Z2 (.two (jN (p:=fun X hX=>(Q8.call [] rfl Z3 rfl Z2 Z7 Z2k Q2x Z3 Z3 Z2 jf)) (k:=(jN (p:=fun X hX=>(jh hX Z2)) (k:=.tail)))) (jN (p:=fun X hX=>(jh hX Z2)) (k:=(jN (p:=fun X hX=>(Q8.call [] rfl Z3 rfl Z2 Z7 Z2k Q2x Z3 Z3 Z2 jf)) (k:=.tail))))) (jh hX Z2) ?_
      refine Q0 [0,2,3,4,5,6] (js hX 6 Z2 (Q8.call [0] rfl Z3 rfl Z2 Z7 Ze Q9 Z3 Z3 Z2 jf)) ?_
      refine Q4 (Q0 [0,2,3,4,5,6,74] (jh hX Z2) ?_)
      refine jd (fun h11=> ?_) (fun h11=> ?_)
      ·try simp at h11
       refine Q5 (Qp Z2 Z15 (.of_eq ?_) ?_)
       all_goals clear hX
       ·rfl
       ·((simp_all[Q4h,Q3u,Q58,Q3h,Q5u,Q37,ownB,Q55,Qn,Q11,Bool.and_assoc])<;>congr;done)
      ·try simp at h11
       have hx:=Qws h11
       obtain ⟨hm1,hm2⟩:=fm_e F.l F.i.name F.i.desc (Qq F.l F.i.cls) hx.2
       rw[hfx] at hm1 hm2
       replace hm1:=hm1.imp (fun h=>h.1) id
       refine Q3 (jK 7 [0,1,2,3,4] (.two 5 6 (.one 6 .tail) (.one 5 .tail)) [0,2,3,4,5,7] ([0,4]) hX Z2 (.two (jN (p:=fun X hX=>(Q8.call [] rfl Z3 rfl Z2 Z7 Z2o Q42 Z3 Z3 Z2 jf)) (k:=(jN (p:=fun X hX=>(jh hX Z2)) (k:=.tail)))) (jN (p:=fun X hX=>(jh hX Z2)) (k:=(jN (p:=fun X hX=>(Q8.call [] rfl Z3 rfl Z2 Z7 Z2o Q42 Z3 Z3 Z2 jf)) (k:=.tail))))) (jh hX Z2) ?_)
       refine Q4 (Q7 (Q0 [0,2,3,4,5,7,115] (jh hX Z2) ?_))
       refine jd (fun h16=> ?_) (fun h16=> ?_)
       ·try simp at h16
        all_goals
         refine Q0 [0,2,3,4] (js hX 4 Z2 (Q8.call [0] rfl Z3 rfl Z2 Z7 Ze Q9 Z3 Z3 Z2 jf)) ?_
         refine jL 7 [0,1,2,3,4,5] [6] [0,3,4] ([1,3]) hX Z2 (jH (p:=fun X hX=>(Q8.call [] rfl Z3 rfl Z2 Z7 Zo Q10 Z3 Z3 Z2 jf)) (k:=.nil)) (Q8.call [0] rfl Z3 rfl Z2 Z7 Z19 Q1i Z3 Z3 Z2 jf) ?_
         refine Q1x (n:=4) (A:=[0,1,2,3]) (B:=[]) (L:=[2]) hmo Z24 tok hX Z2 .nil (Q8.call [0,3] rfl Z3 rfl Z2 Z7 Z8 Q1f Z3 Z3 Z2 jf) ?_
         refine Qb (js hX 2 Z2 (Q8.call [0] rfl Z3 rfl Z2 Z7 Zl Qv Z3 Z3 Z2 jf)) ?_
         refine Qk Z2 Z15 (.of_eq ?_) ?_
         all_goals clear hX
         ·rfl
         ·first|((simp_all[Q4h,Q3u,Q58,Q3h,Q5u,Q37,ownB,Q55,Qn,Q11,Bool.and_assoc])<;>congr;done)|(by_cases hk6:(atL (tkV k st ((Qd F.i.desc).params.length+1)) 0).k=6<;>by_cases hk7:(atL (tkV k st ((Qd F.i.desc).params.length+1)) 0).k=7<;>(simp_all[Q4h,Q3u,Q58,Q3h,Q5u,Q37,ownB,Q55,Qn,Q11,Bool.and_assoc])<;>congr)
       ·try simp at h16
        all_goals
         refine Q0 [0,2,3,4,5,7,137] (jh hX Z2) ?_
         refine jd (fun h20=> ?_) (fun h20=> ?_)
         ·try simp at h20
          all_goals
           refine Q0 [0,3,4] (js hX 3 Z2 (Q8.call [0] rfl Z3 rfl Z2 Z7 Ze Q9 Z3 Z3 Z2 jf)) ?_
           refine Qb (js hX 3 Z2 (Q8.call [0,3] rfl Z3 rfl Z2 Z7 Z8 Q1f Z3 Z3 Z2 jf)) ?_
           refine Qb (js hX 2 Z2 (Q8.call [0] rfl Z3 rfl Z2 Z7 Zl Qv Z3 Z3 Z2 jf)) ?_
           refine Qk Z2 Z15 (.of_eq ?_) ?_
           all_goals clear hX
           ·rfl
           ·first|((simp_all[Q4h,Q3u,Q58,Q3h,Q5u,Q37,ownB,Q55,Qn,Q11,Bool.and_assoc])<;>congr;done)|(by_cases hk6:(atL (tkV k st ((Qd F.i.desc).params.length+1)) 0).k=6<;>by_cases hk7:(atL (tkV k st ((Qd F.i.desc).params.length+1)) 0).k=7<;>(simp_all[Q4h,Q3u,Q58,Q3h,Q5u,Q37,ownB,Q55,Qn,Q11,Bool.and_assoc])<;>congr)
         ·try simp at h20
          all_goals
           refine Q0 [0,2,3,4,7,149] (jh hX Z2) ?_
           refine jd (fun h23=> ?_) (fun h23=> ?_)
           ·try simp at h23
            all_goals
             refine jD [0,2,3,4,8] (jS 6 Z2 (jM 8 156 [0,2,3,4,164] (p:=Zcl) (q:=Zcl) (k:=(jQ Z2)))) ?_
             refine jD [0,2,3,4,8,9] (jS 6 Z2 (jM 19 170 [0,2,3,4,8,189] (p:=Zcm) (q:=Zcl) (k:=(jQ Z2)))) ?_
             refine Q0 [0,2,3,4,8,9] (js hX 3 Z2 (jm 2 192 [0,2,3,4,8,9,190,194] (p:=Zci) (q:=Zci) (k:=(Q8.call [0] rfl Z3 rfl Z2 Z7 Ze Q9 Z3 Z3 Z2 jf)))) ?_
             refine jL 4 [0,1,2,3] [] [0,2,3,4,8,9] ([2]) hX Z2 .nil (Q8.call [0,3] rfl Z3 rfl Z2 Z7 Z8 Q1f Z3 Z3 Z2 jf) ?_
             refine Q0 [0,2,3,4,9,201] (jh hX Z2) ?_
             refine jd (fun h28=> ?_) (fun h28=> ?_)
             ·try simp at h28
              refine Q1x (n:=7) (A:=[0,1,2,3,4,5]) (B:=[6]) (L:=[1,3]) hmo Z24 tok hX Z2 (jH (p:=fun X hX=>(Q8.call [] rfl Z3 rfl Z2 Z7 Zo Q10 Z3 Z3 Z2 jf)) (k:=.nil)) (Q8.call [0] rfl Z3 rfl Z2 Z7 Z2i Q2g Z3 Z3 Z2 jf) ?_
              refine Qb (js hX 2 Z2 (Q8.call [0] rfl Z3 rfl Z2 Z7 Zl Qv Z3 Z3 Z2 jf)) ?_
              refine Qk Z2 Z15 (.of_eq ?_) ?_
              all_goals clear hX
              ·rfl
              ·((simp_all[Q4h,Q3u,Q58,Q3h,Q5u,Q37,ownB,Q55,Qn,Q11,Bool.and_assoc])<;>congr;done)
             ·try simp at h28
              refine Q0 [0,3,4,210] (jh hX Z2) ?_
              refine jd (fun h30=> ?_) (fun h30=> ?_)
              ·try simp at h30
               refine Q1x (n:=10) (A:=[0,1,2,3,4,5,6,7,8]) (B:=[9]) (L:=[0,3]) hmo Z24 tok hX Z2 (jH (p:=fun X hX=>(Q8.call [] rfl Z3 rfl Z2 Z7 Zo Q10 Z3 Z3 Z2 jf)) (k:=.nil)) (Q8.call [0] rfl Z3 rfl Z2 Z7 Z2i Q2g Z3 Z3 Z2 jf) ?_
               refine Qb (js hX 2 Z2 (Q8.call [0] rfl Z3 rfl Z2 Z7 Zl Qv Z3 Z3 Z2 jf)) ?_
               refine Qk Z2 Z15 (.of_eq ?_) ?_
               all_goals clear hX
               ·rfl
               ·((simp_all[Q4h,Q3u,Q58,Q3h,Q5u,Q37,ownB,Q55,Qn,Q11,Bool.and_assoc])<;>congr;done)
              ·try simp at h30
               refine Q3 (Qb (js hX 2 Z2 (Q8.call [0] rfl Z3 rfl Z2 Z7 Zl Qv Z3 Z3 Z2 jf)) ?_)
               refine Qk Z2 Z15 (.of_eq ?_) ?_
               all_goals clear hX
               ·rfl
               ·(by_cases hk6:(atL (tkV k st ((Qd F.i.desc).params.length+1)) 0).k=6<;>by_cases hk7:(atL (tkV k st ((Qd F.i.desc).params.length+1)) 0).k=7<;>(simp_all[Q4h,Q3u,Q58,Q3h,Q5u,Q37,ownB,Q55,Qn,Q11,Bool.and_assoc])<;>congr)
           ·try simp at h23
            all_goals
             refine Q0 [0,3,4] (js hX 5 Z2 (jm 4 85 [0,3,4,81,89] (p:=Zci) (q:=Zci) (k:=(js hX 1 Z2 (jm 7 90 [0,3,4,81,97] (p:=Zci) (q:=Zci) (k:=(Q8.call [0] rfl Z3 rfl Z2 Z7 Ze Q9 Z3 Z3 Z2 jf))))))) ?_
             refine jL 10 [0,1,2,3,4,5,6,7,8] [9] [0,3,4] ([0,3]) hX Z2 (jH (p:=fun X hX=>(Q8.call [] rfl Z3 rfl Z2 Z7 Zo Q10 Z3 Z3 Z2 jf)) (k:=.nil)) (Q8.call [0] rfl Z3 rfl Z2 Z7 Z19 Q1i Z3 Z3 Z2 jf) ?_
             refine Q1x (n:=4) (A:=[0,1,2,3]) (B:=[]) (L:=[2]) hmo Z24 tok hX Z2 .nil (Q8.call [0,3] rfl Z3 rfl Z2 Z7 Z8 Q1f Z3 Z3 Z2 jf) ?_
             refine Qb (js hX 2 Z2 (Q8.call [0] rfl Z3 rfl Z2 Z7 Zl Qv Z3 Z3 Z2 jf)) ?_
             refine Qk Z2 Z15 (.of_eq ?_) ?_
             all_goals clear hX
             ·rfl
             ·first|((simp_all[Q4h,Q3u,Q58,Q3h,Q5u,Q37,ownB,Q55,Qn,Q11,Bool.and_assoc])<;>congr;done)|(by_cases hk6:(atL (tkV k st ((Qd F.i.desc).params.length+1)) 0).k=6<;>by_cases hk7:(atL (tkV k st ((Qd F.i.desc).params.length+1)) 0).k=7<;>(simp_all[Q4h,Q3u,Q58,Q3h,Q5u,Q37,ownB,Q55,Qn,Q11,Bool.and_assoc])<;>congr)
theorem Q1a:Q6 Tryz.prog 247:=jcb Tryz.func247
theorem Qlb{t:Typ}:Ct Tryz.prog 247 [eT t] [] (.bool (Q48 t)) []:=by
 refine jbS Tryz.func247 15 fun X hX=> ?_
 refine jq [1] ?_
 refine Q0 [2] (jt 4 (k:=(jm 4 6 [1,10] (p:=Zcb) (q:=Zcb) (k:=(jt 1 (k:=(jm 3 11 [14] (p:=Zcb) (q:=Zcr) (k:=jr)))))))) ?_
 refine Q5 (je0 ?_)
 simp[Q48];grind
theorem Qfs:Q6 Tryz.prog 173:=jcb Tryz.func173
theorem Qfe{F:SF}{o1 o2:Bool}{st lo:List Typ}{k:Int}(hs:Q1w F.l≤1048576)(hw:Qs F.l=true)(hst:st.length≤500)(hlo:lo.length≤500)(hd:F.i.desc.length≤1099511627776):Ct Tryz.prog 173 [.ptr 0 0 0] [some (25,[oSW F o1 o2 st lo k])] (.tup []) [some (25,[Qak F (Qb2 F o1 o2 st lo k)])]:=by
 have hl:F.l.length≤1099511627776:=by unfold Q1w at hs;omega
 refine jbS Tryz.func173 115 fun X hX=> ?_
 refine jq [0,2] ?_
 refine jq [0,2,13] ?_
 refine Q7 (jq [0,2,13,25] ?_)
 refine jd (fun h5=> ?_) (fun h5=> ?_)
 ·try simp at h5
  refine Q0 [0,2,3] (jt 1 (k:=(jc [0] (c:=Zm) (a:=Qe) (k:=jr)))) ?_
  have hL1:=Q24 k st 1
  refine jq [0,2,3,4] ?_
  refine Q4 (jq [0,2,3,4,32] ?_)
  refine jd (fun h8=> ?_) (fun h8=> ?_)
  ·try simp at h8
   refine Q0 [0,3,4] (jt 2 (k:=(jc [] (c:=(by apply Qc7<;>exact Z0)) (a:=Q8p) (k:=jr)))) ?_
   refine Q1x (n:=8) (A:=[0,1,2,3,4,5,6]) (B:=[7]) (L:=[0,3]) hmo Z24 tok hX Z7 (jH (p:=fun X hX=>(jc [] (c:=(by apply Q5i<;>exact Z0)) (a:=Q5o) (k:=jf))) (k:=.nil)) (jc [0] (c:=Ze) (a:=Q9) (k:=jf)) ?_
   refine Q0 [0,4] (jt 4 (k:=(jc [0] (c:=Zv) (a:=Q13) (k:=jf)))) ?_
   refine Qb (jt 2 (k:=(jc [0] (c:=Z2q) (a:=Qg) (k:=jf)))) ?_
   refine Qk Z7 Z15 (.of_eq ?_) ?_
   all_goals clear hX
   ·rfl
   ·simp_all[Qb2,Qv8,lsK,elT,Q90,Q11]
  ·try simp at h8
   refine Q3 (Q0 [0,4] (jt 4 (k:=(jc [0] (c:=Zv) (a:=Q13) (k:=jf)))) ?_)
   refine Qb (jt 2 (k:=(jc [0] (c:=Z2q) (a:=Qg) (k:=jf)))) ?_
   refine Qk Z7 Z15 (.of_eq ?_) ?_
   all_goals clear hX
   ·rfl
   ·simp_all[Qb2,Qv8,lsK,elT,Q90,Q11]
 ·try simp at h5
  refine jq [0,13,54] ?_
  refine jd (fun h13=> ?_) (fun h13=> ?_)
  ·try simp at h13
   refine Q0 [0,5] (jt 1 (k:=(jc [0] (c:=Z1a) (a:=Qe) (k:=jr)))) ?_
   have hL2:=Q24 k st 2
   refine Q0 [0,5] (jt 4 (k:=(jc [] (c:=Z5d) (a:=Q4n) (k:=(jc [0] (c:=Ze) (a:=Q9) (k:=jf)))))) ?_
   refine Q0 [0,5] (jt 4 (k:=(jc [0] (c:=Zv) (a:=Q13) (k:=jf)))) ?_
   refine jq [0,5,73] ?_
   refine jd (fun h17=> ?_) (fun h17=> ?_)
   ·try simp at h17
    refine Qb (jt 2 (k:=(jc [0] (c:=Z14) (a:=Qg) (k:=jf)))) ?_
    refine Qk Z7 Z15 (.of_eq ?_) ?_
    all_goals clear hX
    ·rfl
    ·simp_all[Qb2,Qv8,lsK,elT,Q90,Q11]
   ·try simp at h17
    refine Qb (jt 5 (k:=(jc [] (c:=Zo) (a:=Q10) (k:=(jc [0] (c:=Z12) (a:=Qg) (k:=jf)))))) ?_
    refine Qk Z7 Z15 (.of_eq ?_) ?_
    all_goals clear hX
    ·rfl
    ·simp_all[Qb2,Qv8,lsK,elT,Q90,Q11]
  ·try simp at h13
   refine jq [0,84] ?_
   refine jd (fun h20=> ?_) (fun h20=> ?_)
   ·try simp at h20
    refine Q0 [0,6] (jt 1 (k:=(jc [0] (c:=(by apply (Q28 (n:=3))<;>exact Z0)) (a:=Qe) (k:=jr)))) ?_
    have hL3:=Q24 k st 3
    refine Q0 [0,6] (jt 4 (k:=(jc [] (c:=Z5d) (a:=Q4n) (k:=(jc [0] (c:=Ze) (a:=Q9) (k:=jf)))))) ?_
    refine Q0 [0,6] (jt 4 (k:=(jc [0] (c:=Zv) (a:=Q13) (k:=jf)))) ?_
    refine jq [0,6,103] ?_
    refine jd (fun h24=> ?_) (fun h24=> ?_)
    ·try simp at h24
     refine Qb (jt 4 (k:=(jc [0] (c:=Zv) (a:=Q13) (k:=jf)))) ?_
     refine Qk Z7 Z15 (.of_eq ?_) ?_
     all_goals clear hX
     ·rfl
     ·simp_all[Qb2,Qv8,lsK,elT,Q90,Q11]
    ·try simp at h24
     refine Qb (jt 4 (k:=(jc [] (c:=Zq) (a:=Q1a) (k:=(jc [0] (c:=Ze) (a:=Q9) (k:=jf)))))) ?_
     refine Qk Z7 Z15 (.of_eq ?_) ?_
     all_goals clear hX
     ·rfl
     ·simp_all[Qb2,Qv8,lsK,elT,Q90,Q11]
   ·try simp at h20
    refine Q0 [0,7] (jt 1 (k:=(jc [0] (c:=Zm) (a:=Qe) (k:=jr)))) ?_
    have hL1:=Q24 k st 1
    refine Q0 [0] (jt 4 (k:=(jc [] (c:=Z5d) (a:=Q4n) (k:=(jc [0] (c:=Ze) (a:=Q9) (k:=jf)))))) ?_
    refine Qb (jt 2 (k:=(jc [0] (c:=Z14) (a:=Qg) (k:=jf)))) ?_
    refine Qk Z7 Z15 (.of_eq ?_) ?_
    all_goals clear hX
    ·rfl
    ·simp_all[Qb2,Qv8,lsK,elT,Q90,Q11]
theorem Qsc:Q6 Tryz.prog 248:=jcb Tryz.func248
theorem Qrz{a b:Int}:Ct Tryz.prog 248 [.int .i64 a,.int .i64 b] [] (.int .i64 (if a<b then a else b)) []:=by
 refine jbS Tryz.func248 10 fun X hX=> ?_
 refine jq [0,1] ?_
 refine Q4 (jq [0,1,7] ?_)
 refine jd (fun h1=> ?_) (fun h1=> ?_)
 ·try simp at h1
  refine jq [4] ?_
  refine Q5 (je Zs ?_)
  first|(simp_all;done)|(simp;omega)
 ·try simp at h1
  refine Q3 (jq [4] ?_)
  refine Q5 (je Zs ?_)
  first|(simp_all;done)|(simp;omega)
theorem Qfr:Q6 Tryz.prog 174:=jcb Tryz.func174
theorem Qfd{F:SF}{o1 o2:Bool}{st lo:List Typ}{k:Int}(hs:Q1w F.l≤1048576)(hw:Qs F.l=true)(hst:st.length≤500)(hlo:lo.length≤500)(hia:F.i.op=3∨F.i.op=4→0≤F.i.a):Ct Tryz.prog 174 [.ptr 0 0 0] [some (25,[oSW F o1 o2 st lo k])] (.tup []) [some (25,[Qak F (Q2c F o1 o2 st lo k)])]:=by
 have hl:F.l.length≤1099511627776:=by unfold Q1w at hs;omega
 cases ho:o2
 all_goals
  refine jbS Tryz.func174 248 fun X hX=> ?_
  refine Q0 [0,2] (jh hX Z5) ?_
  first|refine Q15 (Le.expose 0 0 23 Z1g) ?_|refine Q15 (Le.nilOb 3 _) ?_
  refine Q0 [0,2,3] (jh hX Z5) ?_
  first|refine Q15 (Le.absorb 0 0 23 Z7) ?_|skip
  refine Q0 [0,2,3,25] (jh hX Z5) ?_
  refine Q7 (Q0 [0,2,3,25,26] (jh hX Z5) ?_)
  refine jd (fun h3=> ?_) (fun h3=> ?_)
  ·try simp at h3
   refine Qb (js hX 2 Z5 (Q8.call [0] rfl Z3 rfl Z5 Z7 Z14 Qg Z3 Z3 Z5 jf)) ?_
   refine Qk Z5 Z15 (.of_eq ?_) ?_
   all_goals clear hX
   ·rfl
   ·simp_all[Q2c,d2L,ldB,stK,Qn,Q11]
  ·try simp at h3
   refine Q0 [0,2,3,25,31] (jh hX Z5) ?_
   refine jd (fun h5=> ?_) (fun h5=> ?_)
   ·try simp at h5
    refine Qb (js hX 2 Z5 (Q8.call [0] rfl Z3 rfl Z5 Z7 (by first|(apply Q25 (t:=⟨2,[],0⟩)<;>exact Z0;done)) Qg Z3 Z3 Z5 jf)) ?_
    refine Qk Z5 Z15 (.of_eq ?_) ?_
    all_goals clear hX
    ·rfl
    ·simp_all[Q2c,d2L,ldB,stK,Qn,Q11]
   ·try simp at h5
    refine Q0 [0,2,3,25,36] (jh hX Z5) ?_
    refine jd (fun h7=> ?_) (fun h7=> ?_)
    ·try simp at h7
     first|refine Q15 (Le.expose 0 0 23 Z1g) ?_|refine Q15 (Le.nilOb 3 _) ?_
     have ha:=hia (.inl h7)
     by_cases hA:F.i.a<(lo.length:Int)
     all_goals have hmin:F.i.a<(lo.length:Int)→(if F.i.a<(lo.length:Int)-1 then F.i.a else (lo.length:Int)-1)=F.i.a:=fun _=>by split<;>omega
     all_goals have hAn:F.i.a<(lo.length:Int)→F.i.a.toNat<lo.length:=fun _=>by omega
     all_goals first|have hmn:=hmin hA|have hmn:=trivial
     all_goals first|have hAt:=hAn hA|have hAt:=trivial
     all_goals clear hmin hAn
     all_goals have hwl:IntKind.i64.wrap ((lo.length:Int)-1)=(lo.length:Int)-1:=Qc Zb Zb
     all_goals
      first|(refine jL 21 [0,1,2,3,4,5,6,7,8,9,10,11,12,13,14] [15,16,17,18,19,20] [0,2] ([0,1]) hX Z29 (jH (p:=fun X hX=>(Q8.call [] rfl Z3 rfl Z5 Z7 (by apply Qrz<;>exact Z0) Qsc Z3 Z3 Z5 jf)) (k:=(jH (p:=fun X hX=>(jh hX Z29)) (k:=(jH (p:=fun X hX=>(jh hX Z29)) (k:=(jH (p:=fun X hX=>(jh hX Z29)) (k:=(jH (p:=fun X hX=>(jh hX Z29)) (k:=(jH (p:=fun X hX=>(jh hX Z29)) (k:=.nil)))))))))))) (Q8.call [0,3] rfl Z3 rfl Z5 Z7 Z1h Q9 Z3 Z3 Z5 jf) ?_)|(refine jL 21 [0,1,2,3,4,5,6,7,8,9,10,11,12,13,14] [15,16,17,18,19,20] [0,2] ([0,1]) hX Z29 (jH (p:=fun X hX=>(jh hX Z29)) (k:=(jH (p:=fun X hX=>(jh hX Z29)) (k:=(jH (p:=fun X hX=>(jh hX Z29)) (k:=(jH (p:=fun X hX=>(jh hX Z29)) (k:=(jH (p:=fun X hX=>(jh hX Z29)) (k:=(jH (p:=fun X hX=>(jh hX Z29)) (k:=.nil)))))))))))) (Q8.call [0,3] rfl Z3 rfl Z5 Z7 Z1h Q9 Z3 Z3 Z5 jf) ?_)
      refine Q0 [0,2,64] (jh hX Z29) ?_
      refine jd (fun h9=> ?_) (fun h9=> ?_)
      ·try simp at h9
       all_goals
        refine Q1x (n:=10) (A:=[0,1,2,3,4,5,6,7,8,9]) (B:=[]) (L:=[0,1,3]) hmo Z24 tok hX Z29 .nil (Q8.weak (Q8.call [0,3] rfl Z3 rfl Z5 Z7 (by apply Qfc<;>exact Z0) Qg Z3 Z3 Z5 jf) Zd8) ?_
        refine Qk Z29 Z15 (.of_eq ?_) ?_
        all_goals clear hX
        ·rfl
        ·first|(have e9:ldB F lo=false:=Zar;have e: ∀b,Q2c F o1 b st lo k=⟨true,b,st++[atL lo F.i.a.toNat],lo,0⟩:=(fun b=>by rw[Q2c,if_neg h3,if_neg h5,if_pos h7,e9,if_pos h9]);simp[e,h9,hAt];done)|(have e9:ldB F lo= !decide (lo[F.i.a.toNat].k=0):=(by simp[ldB,hA,hAt]);have e: ∀b,Q2c F o1 b st lo k=⟨true,b,st++[atL lo F.i.a.toNat],lo,0⟩:=(fun b=>by rw[Q2c,if_neg h3,if_neg h5,if_pos h7,e9,if_pos h9]);simp[e,h9,hAt];done)
      ·try simp at h9
       all_goals
        first|refine Q15 (Le.absorb 0 0 23 Z7) ?_|skip
        refine Q3 (Qk Z29 Z15 (.of_eq ?_) ?_)
        all_goals clear hX
        ·rfl
        ·first|(have e9:ldB F lo=false:=Zar;have e: ∀b,Q2c F o1 b st lo k=⟨o1,b,st,lo,ndC k (ldB F lo) 10⟩:=(fun b=>by rw[Q2c,if_neg h3,if_neg h5,if_pos h7,e9,if_neg (by first|exact h9|(rw[ndC_f10];exact id))]);simp[e,e9];done)|(have e9:ldB F lo= !decide (lo[F.i.a.toNat].k=0):=(by simp[ldB,hA,hAt]);have e: ∀b,Q2c F o1 b st lo k=⟨o1,b,st,lo,ndC k (ldB F lo) 10⟩:=(fun b=>by rw[Q2c,if_neg h3,if_neg h5,if_pos h7,e9,if_neg (by first|exact h9|(rw[ndC_f10];exact id))]);simp[e,e9];done)
    ·try simp at h7
     refine Q0 [0,2,3,25,76] (jh hX Z5) ?_
     refine jd (fun h11=> ?_) (fun h11=> ?_)
     ·try simp at h11
      refine Q0 [0,2,3,4] (js hX 1 Z5 (Q8.call [0] rfl Z3 rfl Z5 Z7 Zm Qe Z3 Z3 Z5 (jh hX Z5))) ?_
      have hL1:=Q24 k st 1
      refine Q0 [0,2,4] (js hX 5 Z5 (Q8.call [0] rfl Z3 rfl Z5 Z7 Ze Q9 Z3 Z3 Z5 jf)) ?_
      refine Q0 [0,2,4] (js hX 5 Z5 (jm 7 90 [0,2,4,86,97] (p:=fun b14_5=>by (try simp at b14_5);exact (jh hX (by simp[-Qr,-Qa,b14_5,ho];rfl))) (q:=fun b14_5=>by (try simp at b14_5);exact (jh hX (by simp[-Qr,-Qa,b14_5,ho];rfl))) (k:=(Q8.call [0] rfl Z3 rfl Z5 Z7 Ze Q9 Z3 Z3 Z5 jf)))) ?_
      refine Q0 [0,2,4,103] (jh hX Z5) ?_
      refine jd (fun h15=> ?_) (fun h15=> ?_)
      ·try simp at h15
       have w1:lo.length*32≤140737488355328:=by omega
       have w2:lo.length≤1099511627776:=by omega
       have ha:=hia (.inr h11)
       have hc:=(Q12i (Q12i h15 Z3w).1 Z3w).2
       have hA:F.i.a<(lo.length:Int):=by simpa using hc
       have hAt:F.i.a.toNat<lo.length:=by omega
       first|refine Q15 (Le.expose 0 0 23 Z1g) ?_|refine Q15 (Le.nilOb 3 _) ?_
       refine Q0 [0,2,4] (jh hX Z8o) ?_
       refine Q1x (n:=10) (A:=[0,1,2,3,4,5,6,7,8,9]) (B:=[]) (L:=[0,1,3]) hmo Z24 tok hX Z8o .nil (Q8.weak (jh hX Z8o) Zd8) ?_
       refine Qk Z8o Z15 (.of_eq ?_) ?_
       all_goals clear hX
       ·rfl
       ·skip
        have e: ∀b,Q2c F o1 b st lo k=⟨tkO o1 k st 1,true,tkL k st 1,lo.set F.i.a.toNat (atL (tkV k st 1) 0),0⟩:=fun b=>by rw[Q2c,if_neg h3,if_neg h5,if_neg h7,if_pos h11,if_pos (by simpa[stK] using h15)]
        have h16:=h15
        rw[decide_eq_true hA] at h16
        simp[e,h16]
      ·try simp at h15
       refine Q3 (Qk Z5 Z15 (.of_eq ?_) ?_)
       all_goals clear hX
       ·rfl
       ·skip
        have e: ∀b,Q2c F o1 b st lo k=⟨tkO o1 k st 1,b,tkL k st 1,lo,stK F st lo k⟩:=fun b=>by rw[Q2c,if_neg h3,if_neg h5,if_neg h7,if_pos h11,if_neg (by simpa[stK] using h15)]
        simp[e,stK]
     ·try simp at h11
      refine Q0 [0,2,25,126] (jh hX Z5) ?_
      refine jd (fun h18=> ?_) (fun h18=> ?_)
      ·try simp at h18
       refine Qb (js hX 1 Z5 (Q8.call [0] rfl Z3 rfl Z5 Z7 Zm Qe Z3 Z3 Z5 jf)) ?_
       have hL1:=Q24 k st 1
       refine Qk Z5 Z15 (.of_eq ?_) ?_
       all_goals clear hX
       ·rfl
       ·simp_all[Q2c,d2L,ldB,stK,Qn,Q11]
      ·try simp at h18
       refine Q0 [0,2,25,130] (jh hX Z5) ?_
       refine jd (fun h20=> ?_) (fun h20=> ?_)
       ·try simp at h20
        refine Q0 [0,5] (js hX 1 Z5 (Q8.call [0] rfl Z3 rfl Z5 Z7 Zm Qe Z3 Z3 Z5 (jh hX Z5))) ?_
        have hL1:=Q24 k st 1
        refine Q0 [0,5] (js hX 4 Z5 (Q8.call [0] rfl Z3 rfl Z5 Z7 Z12 Qg Z3 Z3 Z5 jf)) ?_
        refine Qb (js hX 4 Z5 (Q8.call [0] rfl Z3 rfl Z5 Z7 (by have c:=fun o2=>Q25 (F:=F) (o1:=true) (o2:=o2) (st:=tkL k st 1++[atL (tkV k st 1) 0]) (lo:=lo) (k:=tkC k st 1) (t:=atL (tkV k st 1) 0) Z3l;simp at c;first|exact c.1|exact c.2) Qg Z3 Z3 Z5 jf)) ?_
        refine Qk Z5 Z15 (.of_eq ?_) ?_
        all_goals clear hX
        ·rfl
        ·simp_all[Q2c,d2L,ldB,stK,Qn,Q11]
       ·try simp at h20
        refine Q0 [0,2,25,144] (jh hX Z5) ?_
        refine jd (fun h24=> ?_) (fun h24=> ?_)
        ·try simp at h24
         refine Q0 [0,6] (js hX 1 Z5 (Q8.call [0] rfl Z3 rfl Z5 Z7 Z1a Qe Z3 Z3 Z5 (jh hX Z5))) ?_
         have hL2:=Q24 k st 2
         refine Q0 [0,6] (js hX 4 Z5 (Q8.call [0] rfl Z3 rfl Z5 Z7 Z12 Qg Z3 Z3 Z5 jf)) ?_
         refine Qb (js hX 4 Z5 (Q8.call [0] rfl Z3 rfl Z5 Z7 (by have c:=fun o2=>Q25 (F:=F) (o1:=true) (o2:=o2) (st:=tkL k st 2++[atL (tkV k st 2) 1]) (lo:=lo) (k:=tkC k st 2) (t:=atL (tkV k st 2) 0) Z3l;simp at c;first|exact c.1|exact c.2) Qg Z3 Z3 Z5 jf)) ?_
         refine Qk Z5 Z15 (.of_eq ?_) ?_
         all_goals clear hX
         ·rfl
         ·simp_all[Q2c,d2L,ldB,stK,Qn,Q11]
        ·try simp at h24
         refine Q0 [0,2,25,158] (jh hX Z5) ?_
         refine jd (fun h28=> ?_) (fun h28=> ?_)
         ·try simp at h28
          refine Q0 [0,7] (js hX 1 Z5 (Q8.call [0] rfl Z3 rfl Z5 Z7 Z1a Qe Z3 Z3 Z5 (jh hX Z5))) ?_
          have hL2:=Q24 k st 2
          refine Q0 [0,7,8] (jh hX Z5) ?_
          refine Q7 (Qh (α:=Nat) [0,7,8] (fun j=>[(8,.int .i64 (j:Nat))]) (fun j=>[(0,some (25,[oSW F (tkO o1 k st 2||decide (0<j)) o2 (tkL k st 2++d2L (tkV k st 2) j) lo (tkC k st 2)]))]) (fun j=>j≤4) (fun j=>4-j) (0) (fun j=>by simp;rfl) (by simp[d2L,ho]) ?_ ?_)
          ·simp
          rintro j hj
          have hm:=mod2 j
          have hj2:j%2<2:=by omega
          have hj2a:0≤(j:Int)%2:=by omega
          have hj2b:(j:Int)%2<2:=by omega
          have hj2c:((j:Int)%2).toNat=j%2:=by omega
          have hdl:=Qzp (tkV k st 2) j
          have hat:atL (tkV k st 2) (j%2)=(tkV k st 2)[j%2]'Z3l:=Qa Z3l
          refine Q4 (Q0 [0,7,8,163] (jh hX (by simp[hm,hj2,hj2a,hj2b,hj2c,ho];rfl)) ?_)
          refine jd (fun h31=> ?_) (fun h31=> ?_)
          ·try simp at h31
           refine Q3 (Q4 (Q7 (Qb (js hX 6 (by simp[hm,hj2,hj2a,hj2b,hj2c,h31,ho];rfl) (Q8.call [0] rfl Z3 rfl Z5 Z7 (by have c:=fun o2=>Q25 (F:=F) (o1:=(tkO o1 k st 2||decide (0<j))) (o2:=o2) (st:=tkL k st 2++d2L (tkV k st 2) j) (lo:=lo) (k:=tkC k st 2) (t:=atL (tkV k st 2) (j%2)) Z3l;simp[hj2] at c;first|exact c.1|exact c.2) Qg Z3 Z3 Z5 jf)) ?_)))
           refine Qb (jh hX (by simp[hm,hj2,hj2a,hj2b,hj2c,h31,ho];(try (simp (disch:=omega) only[Qc];(try simp[hm,hj2,hj2a,hj2b,hj2c,h31,ho])));rfl)) ?_
           refine Qo (j+1) [0,7,8] (by simp[d2L,ho,hm,hat];try (simp (disch:=omega) only[Qc])) ?_ ?_
           ·omega
           ·omega
          ·try simp at h31
           obtain rfl:j=4:=by omega
           refine Ql (Qk (by simp[hm,hj2,hj2a,hj2b,hj2c,h31,ho];rfl) Z15 (.of_eq ?_) ?_)
           all_goals clear hX
           ·rfl
           ·simp_all[Q2c,d2L,ldB,stK,Qn,Q11]
         ·try simp at h28
          refine Q4 (Q0 [0,2,25,173] (jh hX Z5) ?_)
          refine jd (fun h34=> ?_) (fun h34=> ?_)
          ·try simp at h34
           refine Q3 (jd (fun h34_1=> ?_) (fun h34_1=> ?_))
           ·try simp at h34_1
            refine Q0 [0,9] (js hX 1 Z5 (Q8.call [0] rfl Z3 rfl Z5 Z7 Zm Qe Z3 Z3 Z5 (jh hX Z5))) ?_
            have hL1:=Q24 k st 1
            refine Qb (js hX 4 Z5 (Q8.call [0] rfl Z3 rfl Z5 Z7 Zv Q13 Z3 Z3 Z5 jf)) ?_
            refine Qk Z5 Z15 (.of_eq ?_) ?_
            all_goals clear hX
            ·rfl
            ·simp_all[Q2c,d2L,ldB,stK,Qn,Q11]
           ·try simp at h34_1
            refine Q4 (Q0 [0,2,25,183] (jh hX Z5) ?_)
            refine jd (fun h38=> ?_) (fun h38=> ?_)
            ·try simp at h38
             refine Q3 (jd (fun h38_1=> ?_) (fun h38_1=> ?_))
             ·try simp at h38_1
              refine Q0 [0,10] (js hX 1 Z5 (Q8.call [0] rfl Z3 rfl Z5 Z7 Z1a Qe Z3 Z3 Z5 (jh hX Z5))) ?_
              have hL2:=Q24 k st 2
              refine Q0 [0,10] (js hX 4 Z5 (Q8.call [0] rfl Z3 rfl Z5 Z7 Zv Q13 Z3 Z3 Z5 jf)) ?_
              refine Qb (js hX 4 Z5 (Q8.call [0] rfl Z3 rfl Z5 Z7 Zv Q13 Z3 Z3 Z5 jf)) ?_
              refine Qk Z5 Z15 (.of_eq ?_) ?_
              all_goals clear hX
              ·rfl
              ·simp_all[Q2c,d2L,ldB,stK,Qn,Q11]
             ·try simp at h38_1
              refine Q0 [0,2,25,198] (jh hX Z5) ?_
              refine jd (fun h43=> ?_) (fun h43=> ?_)
              ·try simp at h43
               refine Q0 [0,11] (js hX 1 Z5 (Q8.call [0] rfl Z3 rfl Z5 Z7 Zm Qe Z3 Z3 Z5 (jh hX Z5))) ?_
               have hL1:=Q24 k st 1
               refine Qb (js hX 4 Z5 (Q8.call [] rfl Z3 rfl Z5 Z7 Zq Q1a Z3 Z3 Z5 (Q8.call [0] rfl Z3 rfl Z5 Z7 Ze Q9 Z3 Z3 Z5 jf))) ?_
               refine Qk Z5 Z15 (.of_eq ?_) ?_
               all_goals clear hX
               ·rfl
               ·simp_all[Q2c,d2L,ldB,stK,Qn,Q11]
              ·try simp at h43
               refine Q0 [0,2,25,208] (jh hX Z5) ?_
               refine jd (fun h46=> ?_) (fun h46=> ?_)
               ·try simp at h46
                refine Q0 [0,12] (js hX 1 Z5 (Q8.call [0] rfl Z3 rfl Z5 Z7 Z1a Qe Z3 Z3 Z5 (jh hX Z5))) ?_
                have hL2:=Q24 k st 2
                refine Qb (js hX 4 Z5 (Q8.call [] rfl Z3 rfl Z5 Z7 Zq Q1a Z3 Z3 Z5 (js hX 1 Z5 (jm 5 217 [212,222] (p:=Zco) (q:=Zd0) (k:=(Q8.call [0] rfl Z3 rfl Z5 Z7 Ze Q9 Z3 Z3 Z5 jf)))))) ?_
                refine Qk Z5 Z15 (.of_eq ?_) ?_
                all_goals clear hX
                ·rfl
                ·simp_all[Q2c,d2L,ldB,stK,Qn,Q11]
               ·try simp at h46
                refine Q4 (Q0 [0,2,25,224] (jh hX Z5) ?_)
                refine jd (fun h49=> ?_) (fun h49=> ?_)
                ·try simp at h49
                 refine Q3 (jd (fun h49_1=> ?_) (fun h49_1=> ?_))
                 ·try simp at h49_1
                  refine Q0 [0,2,13] (js hX 1 Z5 (Q8.call [0] rfl Z3 rfl Z5 Z7 Zm Qe Z3 Z3 Z5 (jh hX Z5))) ?_
                  have hL1:=Q24 k st 1
                  refine Q0 [0,2,13] (js hX 1 Z5 (Q8.call [0] rfl Z3 rfl Z5 Z7 Z17 Q19 Z3 Z3 Z5 jf)) ?_
                  refine Q0 [0,2] (js hX 4 Z5 (Q8.call [] rfl Z3 rfl Z5 Z7 Zq Q1a Z3 Z3 Z5 (Q8.call [0] rfl Z3 rfl Z5 Z7 Ze Q9 Z3 Z3 Z5 jf))) ?_
                  refine Q0 [0,2,239] (jh hX Z5) ?_
                  refine jd (fun h54=> ?_) (fun h54=> ?_)
                  ·try simp at h54
                   refine Qb (js hX 3 Z5 (Q8.call [] rfl Z3 rfl Z5 Z7 Zo Q10 Z3 Z3 Z5 (Q8.call [0] rfl Z3 rfl Z5 Z7 Z12 Qg Z3 Z3 Z5 jf))) ?_
                   refine Qk Z5 Z15 (.of_eq ?_) ?_
                   all_goals clear hX
                   ·rfl
                   ·simp_all[Q2c,d2L,ldB,stK,Qn,Q11]
                  ·try simp at h54
                   refine Qb (js hX 2 Z5 (Q8.call [0] rfl Z3 rfl Z5 Z7 Z14 Qg Z3 Z3 Z5 jf)) ?_
                   refine Qk Z5 Z15 (.of_eq ?_) ?_
                   all_goals clear hX
                   ·rfl
                   ·simp_all[Q2c,d2L,ldB,stK,Qn,Q11]
                 ·try simp at h49_1
                  refine Q3 (Qk Z5 Z15 (.of_eq ?_) ?_)
                  all_goals clear hX
                  ·rfl
                  ·simp_all[Q2c,d2L,ldB,stK,Qn,Q11]
                ·try simp at h49
                 refine Qb (jh hX Z5) ?_
                 refine jd (fun h50=> ?_) (fun h50=> ?_)
                 ·try simp at h50
                  refine Q0 [0,2,13] (js hX 1 Z5 (Q8.call [0] rfl Z3 rfl Z5 Z7 Zm Qe Z3 Z3 Z5 (jh hX Z5))) ?_
                  have hL1:=Q24 k st 1
                  refine Q0 [0,2,13] (js hX 1 Z5 (Q8.call [0] rfl Z3 rfl Z5 Z7 Z17 Q19 Z3 Z3 Z5 jf)) ?_
                  refine Q0 [0,2] (js hX 4 Z5 (Q8.call [] rfl Z3 rfl Z5 Z7 Zq Q1a Z3 Z3 Z5 (Q8.call [0] rfl Z3 rfl Z5 Z7 Ze Q9 Z3 Z3 Z5 jf))) ?_
                  refine Q0 [0,2,239] (jh hX Z5) ?_
                  refine jd (fun h54=> ?_) (fun h54=> ?_)
                  ·try simp at h54
                   refine Qb (js hX 3 Z5 (Q8.call [] rfl Z3 rfl Z5 Z7 Zo Q10 Z3 Z3 Z5 (Q8.call [0] rfl Z3 rfl Z5 Z7 Z12 Qg Z3 Z3 Z5 jf))) ?_
                   refine Qk Z5 Z15 (.of_eq ?_) ?_
                   all_goals clear hX
                   ·rfl
                   ·simp_all[Q2c,d2L,ldB,stK,Qn,Q11]
                  ·try simp at h54
                   refine Qb (js hX 2 Z5 (Q8.call [0] rfl Z3 rfl Z5 Z7 Z14 Qg Z3 Z3 Z5 jf)) ?_
                   refine Qk Z5 Z15 (.of_eq ?_) ?_
                   all_goals clear hX
                   ·rfl
                   ·simp_all[Q2c,d2L,ldB,stK,Qn,Q11]
                 ·try simp at h50
                  refine Q3 (Qk Z5 Z15 (.of_eq ?_) ?_)
                  all_goals clear hX
                  ·rfl
                  ·simp_all[Q2c,d2L,ldB,stK,Qn,Q11]
            ·try simp at h38
             refine Qb (jh hX Z5) ?_
             refine jd (fun h39=> ?_) (fun h39=> ?_)
             ·try simp at h39
              refine Q0 [0,10] (js hX 1 Z5 (Q8.call [0] rfl Z3 rfl Z5 Z7 Z1a Qe Z3 Z3 Z5 (jh hX Z5))) ?_
              have hL2:=Q24 k st 2
              refine Q0 [0,10] (js hX 4 Z5 (Q8.call [0] rfl Z3 rfl Z5 Z7 Zv Q13 Z3 Z3 Z5 jf)) ?_
              refine Qb (js hX 4 Z5 (Q8.call [0] rfl Z3 rfl Z5 Z7 Zv Q13 Z3 Z3 Z5 jf)) ?_
              refine Qk Z5 Z15 (.of_eq ?_) ?_
              all_goals clear hX
              ·rfl
              ·simp_all[Q2c,d2L,ldB,stK,Qn,Q11]
             ·try simp at h39
              refine Q0 [0,2,25,198] (jh hX Z5) ?_
              refine jd (fun h43=> ?_) (fun h43=> ?_)
              ·try simp at h43
               refine Q0 [0,11] (js hX 1 Z5 (Q8.call [0] rfl Z3 rfl Z5 Z7 Zm Qe Z3 Z3 Z5 (jh hX Z5))) ?_
               have hL1:=Q24 k st 1
               refine Qb (js hX 4 Z5 (Q8.call [] rfl Z3 rfl Z5 Z7 Zq Q1a Z3 Z3 Z5 (Q8.call [0] rfl Z3 rfl Z5 Z7 Ze Q9 Z3 Z3 Z5 jf))) ?_
               refine Qk Z5 Z15 (.of_eq ?_) ?_
               all_goals clear hX
               ·rfl
               ·simp_all[Q2c,d2L,ldB,stK,Qn,Q11]
              ·try simp at h43
               refine Q0 [0,2,25,208] (jh hX Z5) ?_
               refine jd (fun h46=> ?_) (fun h46=> ?_)
               ·try simp at h46
                refine Q0 [0,12] (js hX 1 Z5 (Q8.call [0] rfl Z3 rfl Z5 Z7 Z1a Qe Z3 Z3 Z5 (jh hX Z5))) ?_
                have hL2:=Q24 k st 2
                refine Qb (js hX 4 Z5 (Q8.call [] rfl Z3 rfl Z5 Z7 Zq Q1a Z3 Z3 Z5 (js hX 1 Z5 (jm 5 217 [212,222] (p:=Zco) (q:=Zd0) (k:=(Q8.call [0] rfl Z3 rfl Z5 Z7 Ze Q9 Z3 Z3 Z5 jf)))))) ?_
                refine Qk Z5 Z15 (.of_eq ?_) ?_
                all_goals clear hX
                ·rfl
                ·simp_all[Q2c,d2L,ldB,stK,Qn,Q11]
               ·try simp at h46
                refine Q4 (Q0 [0,2,25,224] (jh hX Z5) ?_)
                refine jd (fun h49=> ?_) (fun h49=> ?_)
                ·try simp at h49
                 refine Q3 (jd (fun h49_1=> ?_) (fun h49_1=> ?_))
                 ·try simp at h49_1
                  refine Q0 [0,2,13] (js hX 1 Z5 (Q8.call [0] rfl Z3 rfl Z5 Z7 Zm Qe Z3 Z3 Z5 (jh hX Z5))) ?_
                  have hL1:=Q24 k st 1
                  refine Q0 [0,2,13] (js hX 1 Z5 (Q8.call [0] rfl Z3 rfl Z5 Z7 Z17 Q19 Z3 Z3 Z5 jf)) ?_
                  refine Q0 [0,2] (js hX 4 Z5 (Q8.call [] rfl Z3 rfl Z5 Z7 Zq Q1a Z3 Z3 Z5 (Q8.call [0] rfl Z3 rfl Z5 Z7 Ze Q9 Z3 Z3 Z5 jf))) ?_
                  refine Q0 [0,2,239] (jh hX Z5) ?_
                  refine jd (fun h54=> ?_) (fun h54=> ?_)
                  ·try simp at h54
                   refine Qb (js hX 3 Z5 (Q8.call [] rfl Z3 rfl Z5 Z7 Zo Q10 Z3 Z3 Z5 (Q8.call [0] rfl Z3 rfl Z5 Z7 Z12 Qg Z3 Z3 Z5 jf))) ?_
                   refine Qk Z5 Z15 (.of_eq ?_) ?_
                   all_goals clear hX
                   ·rfl
                   ·simp_all[Q2c,d2L,ldB,stK,Qn,Q11]
                  ·try simp at h54
                   refine Qb (js hX 2 Z5 (Q8.call [0] rfl Z3 rfl Z5 Z7 Z14 Qg Z3 Z3 Z5 jf)) ?_
                   refine Qk Z5 Z15 (.of_eq ?_) ?_
                   all_goals clear hX
                   ·rfl
                   ·simp_all[Q2c,d2L,ldB,stK,Qn,Q11]
                 ·try simp at h49_1
                  refine Q3 (Qk Z5 Z15 (.of_eq ?_) ?_)
                  all_goals clear hX
                  ·rfl
                  ·simp_all[Q2c,d2L,ldB,stK,Qn,Q11]
                ·try simp at h49
                 refine Qb (jh hX Z5) ?_
                 refine jd (fun h50=> ?_) (fun h50=> ?_)
                 ·try simp at h50
                  refine Q0 [0,2,13] (js hX 1 Z5 (Q8.call [0] rfl Z3 rfl Z5 Z7 Zm Qe Z3 Z3 Z5 (jh hX Z5))) ?_
                  have hL1:=Q24 k st 1
                  refine Q0 [0,2,13] (js hX 1 Z5 (Q8.call [0] rfl Z3 rfl Z5 Z7 Z17 Q19 Z3 Z3 Z5 jf)) ?_
                  refine Q0 [0,2] (js hX 4 Z5 (Q8.call [] rfl Z3 rfl Z5 Z7 Zq Q1a Z3 Z3 Z5 (Q8.call [0] rfl Z3 rfl Z5 Z7 Ze Q9 Z3 Z3 Z5 jf))) ?_
                  refine Q0 [0,2,239] (jh hX Z5) ?_
                  refine jd (fun h54=> ?_) (fun h54=> ?_)
                  ·try simp at h54
                   refine Qb (js hX 3 Z5 (Q8.call [] rfl Z3 rfl Z5 Z7 Zo Q10 Z3 Z3 Z5 (Q8.call [0] rfl Z3 rfl Z5 Z7 Z12 Qg Z3 Z3 Z5 jf))) ?_
                   refine Qk Z5 Z15 (.of_eq ?_) ?_
                   all_goals clear hX
                   ·rfl
                   ·simp_all[Q2c,d2L,ldB,stK,Qn,Q11]
                  ·try simp at h54
                   refine Qb (js hX 2 Z5 (Q8.call [0] rfl Z3 rfl Z5 Z7 Z14 Qg Z3 Z3 Z5 jf)) ?_
                   refine Qk Z5 Z15 (.of_eq ?_) ?_
                   all_goals clear hX
                   ·rfl
                   ·simp_all[Q2c,d2L,ldB,stK,Qn,Q11]
                 ·try simp at h50
                  refine Q3 (Qk Z5 Z15 (.of_eq ?_) ?_)
                  all_goals clear hX
                  ·rfl
                  ·simp_all[Q2c,d2L,ldB,stK,Qn,Q11]
          ·try simp at h34
           refine Qb (jh hX Z5) ?_
           refine jd (fun h35=> ?_) (fun h35=> ?_)
           ·try simp at h35
            refine Q0 [0,9] (js hX 1 Z5 (Q8.call [0] rfl Z3 rfl Z5 Z7 Zm Qe Z3 Z3 Z5 (jh hX Z5))) ?_
            have hL1:=Q24 k st 1
            refine Qb (js hX 4 Z5 (Q8.call [0] rfl Z3 rfl Z5 Z7 Zv Q13 Z3 Z3 Z5 jf)) ?_
            refine Qk Z5 Z15 (.of_eq ?_) ?_
            all_goals clear hX
            ·rfl
            ·simp_all[Q2c,d2L,ldB,stK,Qn,Q11]
           ·try simp at h35
            refine Q4 (Q0 [0,2,25,183] (jh hX Z5) ?_)
            refine jd (fun h38=> ?_) (fun h38=> ?_)
            ·try simp at h38
             refine Q3 (jd (fun h38_1=> ?_) (fun h38_1=> ?_))
             ·try simp at h38_1
              refine Q0 [0,10] (js hX 1 Z5 (Q8.call [0] rfl Z3 rfl Z5 Z7 Z1a Qe Z3 Z3 Z5 (jh hX Z5))) ?_
              have hL2:=Q24 k st 2
              refine Q0 [0,10] (js hX 4 Z5 (Q8.call [0] rfl Z3 rfl Z5 Z7 Zv Q13 Z3 Z3 Z5 jf)) ?_
              refine Qb (js hX 4 Z5 (Q8.call [0] rfl Z3 rfl Z5 Z7 Zv Q13 Z3 Z3 Z5 jf)) ?_
              refine Qk Z5 Z15 (.of_eq ?_) ?_
              all_goals clear hX
              ·rfl
              ·simp_all[Q2c,d2L,ldB,stK,Qn,Q11]
             ·try simp at h38_1
              refine Q0 [0,2,25,198] (jh hX Z5) ?_
              refine jd (fun h43=> ?_) (fun h43=> ?_)
              ·try simp at h43
               refine Q0 [0,11] (js hX 1 Z5 (Q8.call [0] rfl Z3 rfl Z5 Z7 Zm Qe Z3 Z3 Z5 (jh hX Z5))) ?_
               have hL1:=Q24 k st 1
               refine Qb (js hX 4 Z5 (Q8.call [] rfl Z3 rfl Z5 Z7 Zq Q1a Z3 Z3 Z5 (Q8.call [0] rfl Z3 rfl Z5 Z7 Ze Q9 Z3 Z3 Z5 jf))) ?_
               refine Qk Z5 Z15 (.of_eq ?_) ?_
               all_goals clear hX
               ·rfl
               ·simp_all[Q2c,d2L,ldB,stK,Qn,Q11]
              ·try simp at h43
               refine Q0 [0,2,25,208] (jh hX Z5) ?_
               refine jd (fun h46=> ?_) (fun h46=> ?_)
               ·try simp at h46
                refine Q0 [0,12] (js hX 1 Z5 (Q8.call [0] rfl Z3 rfl Z5 Z7 Z1a Qe Z3 Z3 Z5 (jh hX Z5))) ?_
                have hL2:=Q24 k st 2
                refine Qb (js hX 4 Z5 (Q8.call [] rfl Z3 rfl Z5 Z7 Zq Q1a Z3 Z3 Z5 (js hX 1 Z5 (jm 5 217 [212,222] (p:=Zco) (q:=Zd0) (k:=(Q8.call [0] rfl Z3 rfl Z5 Z7 Ze Q9 Z3 Z3 Z5 jf)))))) ?_
                refine Qk Z5 Z15 (.of_eq ?_) ?_
                all_goals clear hX
                ·rfl
                ·simp_all[Q2c,d2L,ldB,stK,Qn,Q11]
               ·try simp at h46
                refine Q4 (Q0 [0,2,25,224] (jh hX Z5) ?_)
                refine jd (fun h49=> ?_) (fun h49=> ?_)
                ·try simp at h49
                 refine Q3 (jd (fun h49_1=> ?_) (fun h49_1=> ?_))
                 ·try simp at h49_1
                  refine Q0 [0,2,13] (js hX 1 Z5 (Q8.call [0] rfl Z3 rfl Z5 Z7 Zm Qe Z3 Z3 Z5 (jh hX Z5))) ?_
                  have hL1:=Q24 k st 1
                  refine Q0 [0,2,13] (js hX 1 Z5 (Q8.call [0] rfl Z3 rfl Z5 Z7 Z17 Q19 Z3 Z3 Z5 jf)) ?_
                  refine Q0 [0,2] (js hX 4 Z5 (Q8.call [] rfl Z3 rfl Z5 Z7 Zq Q1a Z3 Z3 Z5 (Q8.call [0] rfl Z3 rfl Z5 Z7 Ze Q9 Z3 Z3 Z5 jf))) ?_
                  refine Q0 [0,2,239] (jh hX Z5) ?_
                  refine jd (fun h54=> ?_) (fun h54=> ?_)
                  ·try simp at h54
                   refine Qb (js hX 3 Z5 (Q8.call [] rfl Z3 rfl Z5 Z7 Zo Q10 Z3 Z3 Z5 (Q8.call [0] rfl Z3 rfl Z5 Z7 Z12 Qg Z3 Z3 Z5 jf))) ?_
                   refine Qk Z5 Z15 (.of_eq ?_) ?_
                   all_goals clear hX
                   ·rfl
                   ·simp_all[Q2c,d2L,ldB,stK,Qn,Q11]
                  ·try simp at h54
                   refine Qb (js hX 2 Z5 (Q8.call [0] rfl Z3 rfl Z5 Z7 Z14 Qg Z3 Z3 Z5 jf)) ?_
                   refine Qk Z5 Z15 (.of_eq ?_) ?_
                   all_goals clear hX
                   ·rfl
                   ·simp_all[Q2c,d2L,ldB,stK,Qn,Q11]
                 ·try simp at h49_1
                  refine Q3 (Qk Z5 Z15 (.of_eq ?_) ?_)
                  all_goals clear hX
                  ·rfl
                  ·simp_all[Q2c,d2L,ldB,stK,Qn,Q11]
                ·try simp at h49
                 refine Qb (jh hX Z5) ?_
                 refine jd (fun h50=> ?_) (fun h50=> ?_)
                 ·try simp at h50
                  refine Q0 [0,2,13] (js hX 1 Z5 (Q8.call [0] rfl Z3 rfl Z5 Z7 Zm Qe Z3 Z3 Z5 (jh hX Z5))) ?_
                  have hL1:=Q24 k st 1
                  refine Q0 [0,2,13] (js hX 1 Z5 (Q8.call [0] rfl Z3 rfl Z5 Z7 Z17 Q19 Z3 Z3 Z5 jf)) ?_
                  refine Q0 [0,2] (js hX 4 Z5 (Q8.call [] rfl Z3 rfl Z5 Z7 Zq Q1a Z3 Z3 Z5 (Q8.call [0] rfl Z3 rfl Z5 Z7 Ze Q9 Z3 Z3 Z5 jf))) ?_
                  refine Q0 [0,2,239] (jh hX Z5) ?_
                  refine jd (fun h54=> ?_) (fun h54=> ?_)
                  ·try simp at h54
                   refine Qb (js hX 3 Z5 (Q8.call [] rfl Z3 rfl Z5 Z7 Zo Q10 Z3 Z3 Z5 (Q8.call [0] rfl Z3 rfl Z5 Z7 Z12 Qg Z3 Z3 Z5 jf))) ?_
                   refine Qk Z5 Z15 (.of_eq ?_) ?_
                   all_goals clear hX
                   ·rfl
                   ·simp_all[Q2c,d2L,ldB,stK,Qn,Q11]
                  ·try simp at h54
                   refine Qb (js hX 2 Z5 (Q8.call [0] rfl Z3 rfl Z5 Z7 Z14 Qg Z3 Z3 Z5 jf)) ?_
                   refine Qk Z5 Z15 (.of_eq ?_) ?_
                   all_goals clear hX
                   ·rfl
                   ·simp_all[Q2c,d2L,ldB,stK,Qn,Q11]
                 ·try simp at h50
                  refine Q3 (Qk Z5 Z15 (.of_eq ?_) ?_)
                  all_goals clear hX
                  ·rfl
                  ·simp_all[Q2c,d2L,ldB,stK,Qn,Q11]
            ·try simp at h38
             refine Qb (jh hX Z5) ?_
             refine jd (fun h39=> ?_) (fun h39=> ?_)
             ·try simp at h39
              refine Q0 [0,10] (js hX 1 Z5 (Q8.call [0] rfl Z3 rfl Z5 Z7 Z1a Qe Z3 Z3 Z5 (jh hX Z5))) ?_
              have hL2:=Q24 k st 2
              refine Q0 [0,10] (js hX 4 Z5 (Q8.call [0] rfl Z3 rfl Z5 Z7 Zv Q13 Z3 Z3 Z5 jf)) ?_
              refine Qb (js hX 4 Z5 (Q8.call [0] rfl Z3 rfl Z5 Z7 Zv Q13 Z3 Z3 Z5 jf)) ?_
              refine Qk Z5 Z15 (.of_eq ?_) ?_
              all_goals clear hX
              ·rfl
              ·simp_all[Q2c,d2L,ldB,stK,Qn,Q11]
             ·try simp at h39
              refine Q0 [0,2,25,198] (jh hX Z5) ?_
              refine jd (fun h43=> ?_) (fun h43=> ?_)
              ·try simp at h43
               refine Q0 [0,11] (js hX 1 Z5 (Q8.call [0] rfl Z3 rfl Z5 Z7 Zm Qe Z3 Z3 Z5 (jh hX Z5))) ?_
               have hL1:=Q24 k st 1
               refine Qb (js hX 4 Z5 (Q8.call [] rfl Z3 rfl Z5 Z7 Zq Q1a Z3 Z3 Z5 (Q8.call [0] rfl Z3 rfl Z5 Z7 Ze Q9 Z3 Z3 Z5 jf))) ?_
               refine Qk Z5 Z15 (.of_eq ?_) ?_
               all_goals clear hX
               ·rfl
               ·simp_all[Q2c,d2L,ldB,stK,Qn,Q11]
              ·try simp at h43
               refine Q0 [0,2,25,208] (jh hX Z5) ?_
               refine jd (fun h46=> ?_) (fun h46=> ?_)
               ·try simp at h46
                refine Q0 [0,12] (js hX 1 Z5 (Q8.call [0] rfl Z3 rfl Z5 Z7 Z1a Qe Z3 Z3 Z5 (jh hX Z5))) ?_
                have hL2:=Q24 k st 2
                refine Qb (js hX 4 Z5 (Q8.call [] rfl Z3 rfl Z5 Z7 Zq Q1a Z3 Z3 Z5 (js hX 1 Z5 (jm 5 217 [212,222] (p:=Zco) (q:=Zd0) (k:=(Q8.call [0] rfl Z3 rfl Z5 Z7 Ze Q9 Z3 Z3 Z5 jf)))))) ?_
                refine Qk Z5 Z15 (.of_eq ?_) ?_
                all_goals clear hX
                ·rfl
                ·simp_all[Q2c,d2L,ldB,stK,Qn,Q11]
               ·try simp at h46
                refine Q4 (Q0 [0,2,25,224] (jh hX Z5) ?_)
                refine jd (fun h49=> ?_) (fun h49=> ?_)
                ·try simp at h49
                 refine Q3 (jd (fun h49_1=> ?_) (fun h49_1=> ?_))
                 ·try simp at h49_1
                  refine Q0 [0,2,13] (js hX 1 Z5 (Q8.call [0] rfl Z3 rfl Z5 Z7 Zm Qe Z3 Z3 Z5 (jh hX Z5))) ?_
                  have hL1:=Q24 k st 1
                  refine Q0 [0,2,13] (js hX 1 Z5 (Q8.call [0] rfl Z3 rfl Z5 Z7 Z17 Q19 Z3 Z3 Z5 jf)) ?_
                  refine Q0 [0,2] (js hX 4 Z5 (Q8.call [] rfl Z3 rfl Z5 Z7 Zq Q1a Z3 Z3 Z5 (Q8.call [0] rfl Z3 rfl Z5 Z7 Ze Q9 Z3 Z3 Z5 jf))) ?_
                  refine Q0 [0,2,239] (jh hX Z5) ?_
                  refine jd (fun h54=> ?_) (fun h54=> ?_)
                  ·try simp at h54
                   refine Qb (js hX 3 Z5 (Q8.call [] rfl Z3 rfl Z5 Z7 Zo Q10 Z3 Z3 Z5 (Q8.call [0] rfl Z3 rfl Z5 Z7 Z12 Qg Z3 Z3 Z5 jf))) ?_
                   refine Qk Z5 Z15 (.of_eq ?_) ?_
                   all_goals clear hX
                   ·rfl
                   ·simp_all[Q2c,d2L,ldB,stK,Qn,Q11]
                  ·try simp at h54
                   refine Qb (js hX 2 Z5 (Q8.call [0] rfl Z3 rfl Z5 Z7 Z14 Qg Z3 Z3 Z5 jf)) ?_
                   refine Qk Z5 Z15 (.of_eq ?_) ?_
                   all_goals clear hX
                   ·rfl
                   ·simp_all[Q2c,d2L,ldB,stK,Qn,Q11]
                 ·try simp at h49_1
                  refine Q3 (Qk Z5 Z15 (.of_eq ?_) ?_)
                  all_goals clear hX
                  ·rfl
                  ·simp_all[Q2c,d2L,ldB,stK,Qn,Q11]
                ·try simp at h49
                 refine Qb (jh hX Z5) ?_
                 refine jd (fun h50=> ?_) (fun h50=> ?_)
                 ·try simp at h50
                  refine Q0 [0,2,13] (js hX 1 Z5 (Q8.call [0] rfl Z3 rfl Z5 Z7 Zm Qe Z3 Z3 Z5 (jh hX Z5))) ?_
                  have hL1:=Q24 k st 1
                  refine Q0 [0,2,13] (js hX 1 Z5 (Q8.call [0] rfl Z3 rfl Z5 Z7 Z17 Q19 Z3 Z3 Z5 jf)) ?_
                  refine Q0 [0,2] (js hX 4 Z5 (Q8.call [] rfl Z3 rfl Z5 Z7 Zq Q1a Z3 Z3 Z5 (Q8.call [0] rfl Z3 rfl Z5 Z7 Ze Q9 Z3 Z3 Z5 jf))) ?_
                  refine Q0 [0,2,239] (jh hX Z5) ?_
                  refine jd (fun h54=> ?_) (fun h54=> ?_)
                  ·try simp at h54
                   refine Qb (js hX 3 Z5 (Q8.call [] rfl Z3 rfl Z5 Z7 Zo Q10 Z3 Z3 Z5 (Q8.call [0] rfl Z3 rfl Z5 Z7 Z12 Qg Z3 Z3 Z5 jf))) ?_
                   refine Qk Z5 Z15 (.of_eq ?_) ?_
                   all_goals clear hX
                   ·rfl
                   ·simp_all[Q2c,d2L,ldB,stK,Qn,Q11]
                  ·try simp at h54
                   refine Qb (js hX 2 Z5 (Q8.call [0] rfl Z3 rfl Z5 Z7 Z14 Qg Z3 Z3 Z5 jf)) ?_
                   refine Qk Z5 Z15 (.of_eq ?_) ?_
                   all_goals clear hX
                   ·rfl
                   ·simp_all[Q2c,d2L,ldB,stK,Qn,Q11]
                 ·try simp at h50
                  refine Q3 (Qk Z5 Z15 (.of_eq ?_) ?_)
                  all_goals clear hX
                  ·rfl
                  ·simp_all[Q2c,d2L,ldB,stK,Qn,Q11]
theorem Qes:Q6 Tryz.prog 108:=jcb Tryz.func108
theorem Qel{F:SF}{o1 o2:Bool}{st lo:List Typ}{k:Int}(hs:Q1w F.l≤1048576)(hw:Qs F.l=true)(hst:st.length≤100)(hlo:lo.length≤100)(hia:F.i.op=3∨F.i.op=4→0≤F.i.a)(hd:F.i.desc.length≤1099511627776)(hmd:F.m.desc.length≤1099511627776)(hi:F.m.name=Qn→0<lo.length):Ct Tryz.prog 108 [.ptr 0 0 0] [some (25,[oSW F o1 o2 st lo k])] (.tup []) [some (25,[Qak F (Q7q F o1 o2 st lo k)])]:=by
 have hl:F.l.length≤1099511627776:=by unfold Q1w at hs;omega
 have hr:=Nat.le_trans (Q6k F.m.desc).1 hmd
 refine jbS Tryz.func108 86 fun X hX=> ?_
 refine jq [0,2] ?_
 refine Q4 (Q7 (Q0 [0,2,11] (jt 3 (k:=(jm 3 14 [0,2,17] (p:=fun b2_3=>by (try simp at b2_3);exact (jh hX Zan)) (q:=fun b2_3=>by (try simp at b2_3);exact (jh hX Zan)) (k:=jr)))) ?_))
 refine jd (fun h2=> ?_) (fun h2=> ?_)
 ·try simp at h2
  refine Q0 [0,3] (js hX 1 Zw (jc [0] (c:=Z1a) (a:=Qe) (k:=(jh hX Zw)))) ?_
  have hL2:=Q24 k st 2
  refine Q0 [0,3] (js hX 4 Zw (jc [0] (c:=Zv) (a:=Q13) (k:=jf))) ?_
  refine Q0 [0,3] (js hX 4 Zw (jc [0] (c:=Zv) (a:=Q13) (k:=jf))) ?_
  refine Qb (js hX 4 Zw (jc [0] (c:=Z12) (a:=Qg) (k:=jf))) ?_
  refine Q15 (Le.trans (Le.trim 1 Z1r _ Z3) (Le.of_eq Z7)) ?_
  first
  |(obtain ⟨s9,hs9⟩: ∃s,Qf8 F o1 o2 st lo k=s:=⟨_,rfl⟩;rw[hs9];obtain ⟨p1,p2,pst,plo,pk⟩:=s9;cases p1)
  |(obtain ⟨s9,hs9⟩: ∃s,Qij F o1 o2 st lo k=s:=⟨_,rfl⟩;rw[hs9];obtain ⟨p1,p2,pst,plo,pk⟩:=s9;cases p1)
  |(obtain ⟨s9,hs9⟩: ∃s,fdS F o1 o2 st lo k=s:=⟨_,rfl⟩;rw[hs9];obtain ⟨p1,p2,pst,plo,pk⟩:=s9;cases p1)
  |(obtain ⟨s9,hs9⟩: ∃s,Q4h F o1 o2 st lo k=s:=⟨_,rfl⟩;rw[hs9];obtain ⟨p1,p2,pst,plo,pk⟩:=s9;cases p1)
  |(obtain ⟨s9,hs9⟩: ∃s,Qb2 F o1 o2 st lo k=s:=⟨_,rfl⟩;rw[hs9];obtain ⟨p1,p2,pst,plo,pk⟩:=s9;cases p1)
  |(obtain ⟨s9,hs9⟩: ∃s,Q2c F o1 o2 st lo k=s:=⟨_,rfl⟩;rw[hs9];obtain ⟨p1,p2,pst,plo,pk⟩:=s9;cases p1)
  |skip
  all_goals first|refine Q15 (Le.expose 0 0 22 Z1g) ?_|refine Q15 (Le.nilOb 3 _) ?_
  all_goals
   refine Q1x (n:=13) (A:=[0,1,2,3,4,5,6,7,8,9,10,11,12]) (B:=[]) (L:=[0,1]) hmo Z24 tok hX Zw .nil (Q8.weak (jc [0,1] (c:=Z1h) (a:=Q9) (k:=jf)) Zcu) ?_
   refine Qk Zw Z15 (.of_eq ?_) ?_
   all_goals clear hX
   ·rfl
   ·first|(simp_all[Q7q,Q9a,Qap,Qq0];done)|(have c1:(8≤F.i.op∧F.i.op≤18)=False:=eq_false Zb;(first|have c2:(26≤F.i.op∧F.i.op≤29)=True:=eq_true Zb|have c2:(26≤F.i.op∧F.i.op≤29)=False:=eq_false Zb);(first|have c3:(F.i.op=31)=True:=eq_true Zb|have c3:(F.i.op=31)=False:=eq_false Zb);(first|have c4:(32≤F.i.op∧F.i.op≤35)=True:=eq_true Zb|have c4:(32≤F.i.op∧F.i.op≤35)=False:=eq_false Zb);(first|have c5:(36≤F.i.op∧F.i.op≤38)=True:=eq_true Zb|have c5:(36≤F.i.op∧F.i.op≤38)=False:=eq_false Zb);(first|have c6:(41≤F.i.op)=True:=eq_true Zb|have c6:(41≤F.i.op)=False:=eq_false Zb);(first|(simp only[Qak,Q7q,Q9a,c1,c2,c3,c4,c5,c6,hs9,Qap,if_false,if_true];simp;done)|simp only[Qak,Q7q,Q9a,c1,c2,c3,c4,c5,c6,hs9,Qap,if_false,if_true]))
 ·try simp at h2
  refine Q0 [0,2,35] (js hX 3 Zw (jm 3 38 [0,2,41] (p:=fun b7_3=>by (try simp at b7_3);exact (jh hX (by simp[-Qr,-Qa,h2,b7_3];rfl))) (q:=fun b7_3=>by (try simp at b7_3);exact (jh hX (by simp[-Qr,-Qa,h2,b7_3];rfl))) (k:=(jh hX Zw)))) ?_
  refine jd (fun h7=> ?_) (fun h7=> ?_)
  ·try simp at h7
   refine Qb (js hX 1 Z5s (jc [0] (c:=(by apply Qff<;>exact Z0)) (a:=Qft) (k:=jf))) ?_
   first
   |(obtain ⟨s9,hs9⟩: ∃s,Qf8 F o1 o2 st lo k=s:=⟨_,rfl⟩;rw[hs9];obtain ⟨p1,p2,pst,plo,pk⟩:=s9;cases p1)
   |(obtain ⟨s9,hs9⟩: ∃s,Qij F o1 o2 st lo k=s:=⟨_,rfl⟩;rw[hs9];obtain ⟨p1,p2,pst,plo,pk⟩:=s9;cases p1)
   |(obtain ⟨s9,hs9⟩: ∃s,fdS F o1 o2 st lo k=s:=⟨_,rfl⟩;rw[hs9];obtain ⟨p1,p2,pst,plo,pk⟩:=s9;cases p1)
   |(obtain ⟨s9,hs9⟩: ∃s,Q4h F o1 o2 st lo k=s:=⟨_,rfl⟩;rw[hs9];obtain ⟨p1,p2,pst,plo,pk⟩:=s9;cases p1)
   |(obtain ⟨s9,hs9⟩: ∃s,Qb2 F o1 o2 st lo k=s:=⟨_,rfl⟩;rw[hs9];obtain ⟨p1,p2,pst,plo,pk⟩:=s9;cases p1)
   |(obtain ⟨s9,hs9⟩: ∃s,Q2c F o1 o2 st lo k=s:=⟨_,rfl⟩;rw[hs9];obtain ⟨p1,p2,pst,plo,pk⟩:=s9;cases p1)
   |skip
   all_goals first|refine Q15 (Le.expose 0 0 22 Z1g) ?_|refine Q15 (Le.nilOb 3 _) ?_
   all_goals
    refine Q1x (n:=13) (A:=[0,1,2,3,4,5,6,7,8,9,10,11,12]) (B:=[]) (L:=[0,1]) hmo Z24 tok hX Z5s .nil (Q8.weak (jc [0,1] (c:=Z1h) (a:=Q9) (k:=jf)) Zcu) ?_
    refine Qk Z5s Z15 (.of_eq ?_) ?_
    all_goals clear hX
    ·rfl
    ·first|(simp_all[Q7q,Q9a,Qap,Qq0];done)|(have c1:(8≤F.i.op∧F.i.op≤18)=False:=eq_false Zb;(first|have c2:(26≤F.i.op∧F.i.op≤29)=True:=eq_true Zb|have c2:(26≤F.i.op∧F.i.op≤29)=False:=eq_false Zb);(first|have c3:(F.i.op=31)=True:=eq_true Zb|have c3:(F.i.op=31)=False:=eq_false Zb);(first|have c4:(32≤F.i.op∧F.i.op≤35)=True:=eq_true Zb|have c4:(32≤F.i.op∧F.i.op≤35)=False:=eq_false Zb);(first|have c5:(36≤F.i.op∧F.i.op≤38)=True:=eq_true Zb|have c5:(36≤F.i.op∧F.i.op≤38)=False:=eq_false Zb);(first|have c6:(41≤F.i.op)=True:=eq_true Zb|have c6:(41≤F.i.op)=False:=eq_false Zb);(first|(simp only[Qak,Q7q,Q9a,c1,c2,c3,c4,c5,c6,hs9,Qap,if_false,if_true];simp;done)|simp only[Qak,Q7q,Q9a,c1,c2,c3,c4,c5,c6,hs9,Qap,if_false,if_true]))
  ·try simp at h7
   refine Q0 [0,2,44] (jh hX Z5s) ?_
   refine jd (fun h9=> ?_) (fun h9=> ?_)
   ·try simp at h9
    refine Qb (js hX 1 Z5s (jc [0] (c:=(by apply Qej<;>exact Z0)) (a:=Qer) (k:=jf))) ?_
    first
    |(obtain ⟨s9,hs9⟩: ∃s,Qf8 F o1 o2 st lo k=s:=⟨_,rfl⟩;rw[hs9];obtain ⟨p1,p2,pst,plo,pk⟩:=s9;cases p1)
    |(obtain ⟨s9,hs9⟩: ∃s,Qij F o1 o2 st lo k=s:=⟨_,rfl⟩;rw[hs9];obtain ⟨p1,p2,pst,plo,pk⟩:=s9;cases p1)
    |(obtain ⟨s9,hs9⟩: ∃s,fdS F o1 o2 st lo k=s:=⟨_,rfl⟩;rw[hs9];obtain ⟨p1,p2,pst,plo,pk⟩:=s9;cases p1)
    |(obtain ⟨s9,hs9⟩: ∃s,Q4h F o1 o2 st lo k=s:=⟨_,rfl⟩;rw[hs9];obtain ⟨p1,p2,pst,plo,pk⟩:=s9;cases p1)
    |(obtain ⟨s9,hs9⟩: ∃s,Qb2 F o1 o2 st lo k=s:=⟨_,rfl⟩;rw[hs9];obtain ⟨p1,p2,pst,plo,pk⟩:=s9;cases p1)
    |(obtain ⟨s9,hs9⟩: ∃s,Q2c F o1 o2 st lo k=s:=⟨_,rfl⟩;rw[hs9];obtain ⟨p1,p2,pst,plo,pk⟩:=s9;cases p1)
    |skip
    all_goals first|refine Q15 (Le.expose 0 0 22 Z1g) ?_|refine Q15 (Le.nilOb 3 _) ?_
    all_goals
     refine Q1x (n:=13) (A:=[0,1,2,3,4,5,6,7,8,9,10,11,12]) (B:=[]) (L:=[0,1]) hmo Z24 tok hX Z5s .nil (Q8.weak (jc [0,1] (c:=Z1h) (a:=Q9) (k:=jf)) Zcu) ?_
     refine Qk Z5s Z15 (.of_eq ?_) ?_
     all_goals clear hX
     ·rfl
     ·first|(simp_all[Q7q,Q9a,Qap,Qq0];done)|(have c1:(8≤F.i.op∧F.i.op≤18)=False:=eq_false Zb;(first|have c2:(26≤F.i.op∧F.i.op≤29)=True:=eq_true Zb|have c2:(26≤F.i.op∧F.i.op≤29)=False:=eq_false Zb);(first|have c3:(F.i.op=31)=True:=eq_true Zb|have c3:(F.i.op=31)=False:=eq_false Zb);(first|have c4:(32≤F.i.op∧F.i.op≤35)=True:=eq_true Zb|have c4:(32≤F.i.op∧F.i.op≤35)=False:=eq_false Zb);(first|have c5:(36≤F.i.op∧F.i.op≤38)=True:=eq_true Zb|have c5:(36≤F.i.op∧F.i.op≤38)=False:=eq_false Zb);(first|have c6:(41≤F.i.op)=True:=eq_true Zb|have c6:(41≤F.i.op)=False:=eq_false Zb);(first|(simp only[Qak,Q7q,Q9a,c1,c2,c3,c4,c5,c6,hs9,Qap,if_false,if_true];simp;done)|simp only[Qak,Q7q,Q9a,c1,c2,c3,c4,c5,c6,hs9,Qap,if_false,if_true]))
   ·try simp at h9
    refine Q0 [0,2,49] (js hX 3 Z5s (jm 3 52 [0,2,55] (p:=fun b11_3=>by (try simp at b11_3);exact (jh hX (by simp[-Qr,-Qa,h2,h7,b11_3];rfl))) (q:=fun b11_3=>by (try simp at b11_3);exact (jh hX (by simp[-Qr,-Qa,h2,h7,b11_3];rfl))) (k:=(jh hX Z5s)))) ?_
    refine jd (fun h11=> ?_) (fun h11=> ?_)
    ·try simp at h11
     refine Qb (js hX 1 Z9l (jc [0] (c:=(by apply Qfh<;>exact Z0)) (a:=Qfu) (k:=jf))) ?_
     first
     |(obtain ⟨s9,hs9⟩: ∃s,Qf8 F o1 o2 st lo k=s:=⟨_,rfl⟩;rw[hs9];obtain ⟨p1,p2,pst,plo,pk⟩:=s9;cases p1)
     |(obtain ⟨s9,hs9⟩: ∃s,Qij F o1 o2 st lo k=s:=⟨_,rfl⟩;rw[hs9];obtain ⟨p1,p2,pst,plo,pk⟩:=s9;cases p1)
     |(obtain ⟨s9,hs9⟩: ∃s,fdS F o1 o2 st lo k=s:=⟨_,rfl⟩;rw[hs9];obtain ⟨p1,p2,pst,plo,pk⟩:=s9;cases p1)
     |(obtain ⟨s9,hs9⟩: ∃s,Q4h F o1 o2 st lo k=s:=⟨_,rfl⟩;rw[hs9];obtain ⟨p1,p2,pst,plo,pk⟩:=s9;cases p1)
     |(obtain ⟨s9,hs9⟩: ∃s,Qb2 F o1 o2 st lo k=s:=⟨_,rfl⟩;rw[hs9];obtain ⟨p1,p2,pst,plo,pk⟩:=s9;cases p1)
     |(obtain ⟨s9,hs9⟩: ∃s,Q2c F o1 o2 st lo k=s:=⟨_,rfl⟩;rw[hs9];obtain ⟨p1,p2,pst,plo,pk⟩:=s9;cases p1)
     |skip
     all_goals first|refine Q15 (Le.expose 0 0 22 Z1g) ?_|refine Q15 (Le.nilOb 3 _) ?_
     all_goals
      refine Q1x (n:=13) (A:=[0,1,2,3,4,5,6,7,8,9,10,11,12]) (B:=[]) (L:=[0,1]) hmo Z24 tok hX Z9l .nil (Q8.weak (jc [0,1] (c:=Z1h) (a:=Q9) (k:=jf)) Zcu) ?_
      refine Qk Z9l Z15 (.of_eq ?_) ?_
      all_goals clear hX
      ·rfl
      ·first|(simp_all[Q7q,Q9a,Qap,Qq0];done)|(have c1:(8≤F.i.op∧F.i.op≤18)=False:=eq_false Zb;(first|have c2:(26≤F.i.op∧F.i.op≤29)=True:=eq_true Zb|have c2:(26≤F.i.op∧F.i.op≤29)=False:=eq_false Zb);(first|have c3:(F.i.op=31)=True:=eq_true Zb|have c3:(F.i.op=31)=False:=eq_false Zb);(first|have c4:(32≤F.i.op∧F.i.op≤35)=True:=eq_true Zb|have c4:(32≤F.i.op∧F.i.op≤35)=False:=eq_false Zb);(first|have c5:(36≤F.i.op∧F.i.op≤38)=True:=eq_true Zb|have c5:(36≤F.i.op∧F.i.op≤38)=False:=eq_false Zb);(first|have c6:(41≤F.i.op)=True:=eq_true Zb|have c6:(41≤F.i.op)=False:=eq_false Zb);(first|(simp only[Qak,Q7q,Q9a,c1,c2,c3,c4,c5,c6,hs9,Qap,if_false,if_true];simp;done)|simp only[Qak,Q7q,Q9a,c1,c2,c3,c4,c5,c6,hs9,Qap,if_false,if_true]))
    ·try simp at h11
     refine Q0 [0,2,58] (js hX 3 Z9l (jm 3 61 [0,2,64] (p:=fun b13_3=>by (try simp at b13_3);exact (jh hX Zb9)) (q:=fun b13_3=>by (try simp at b13_3);exact (jh hX Zb9)) (k:=(jh hX Z9l)))) ?_
     refine jd (fun h13=> ?_) (fun h13=> ?_)
     ·try simp at h13
      refine Qb (js hX 1 Za2 (jc [0] (c:=(by apply Qgy<;>exact Z0)) (a:=Qhj) (k:=jf))) ?_
      first
      |(obtain ⟨s9,hs9⟩: ∃s,Qf8 F o1 o2 st lo k=s:=⟨_,rfl⟩;rw[hs9];obtain ⟨p1,p2,pst,plo,pk⟩:=s9;cases p1)
      |(obtain ⟨s9,hs9⟩: ∃s,Qij F o1 o2 st lo k=s:=⟨_,rfl⟩;rw[hs9];obtain ⟨p1,p2,pst,plo,pk⟩:=s9;cases p1)
      |(obtain ⟨s9,hs9⟩: ∃s,fdS F o1 o2 st lo k=s:=⟨_,rfl⟩;rw[hs9];obtain ⟨p1,p2,pst,plo,pk⟩:=s9;cases p1)
      |(obtain ⟨s9,hs9⟩: ∃s,Q4h F o1 o2 st lo k=s:=⟨_,rfl⟩;rw[hs9];obtain ⟨p1,p2,pst,plo,pk⟩:=s9;cases p1)
      |(obtain ⟨s9,hs9⟩: ∃s,Qb2 F o1 o2 st lo k=s:=⟨_,rfl⟩;rw[hs9];obtain ⟨p1,p2,pst,plo,pk⟩:=s9;cases p1)
      |(obtain ⟨s9,hs9⟩: ∃s,Q2c F o1 o2 st lo k=s:=⟨_,rfl⟩;rw[hs9];obtain ⟨p1,p2,pst,plo,pk⟩:=s9;cases p1)
      |skip
      all_goals first|refine Q15 (Le.expose 0 0 22 Z1g) ?_|refine Q15 (Le.nilOb 3 _) ?_
      all_goals
       refine Q1x (n:=13) (A:=[0,1,2,3,4,5,6,7,8,9,10,11,12]) (B:=[]) (L:=[0,1]) hmo Z24 tok hX Za2 .nil (Q8.weak (jc [0,1] (c:=Z1h) (a:=Q9) (k:=jf)) Zcu) ?_
       refine Qk Za2 Z15 (.of_eq ?_) ?_
       all_goals clear hX
       ·rfl
       ·first|(simp_all[Q7q,Q9a,Qap,Qq0];done)|(have c1:(8≤F.i.op∧F.i.op≤18)=False:=eq_false Zb;(first|have c2:(26≤F.i.op∧F.i.op≤29)=True:=eq_true Zb|have c2:(26≤F.i.op∧F.i.op≤29)=False:=eq_false Zb);(first|have c3:(F.i.op=31)=True:=eq_true Zb|have c3:(F.i.op=31)=False:=eq_false Zb);(first|have c4:(32≤F.i.op∧F.i.op≤35)=True:=eq_true Zb|have c4:(32≤F.i.op∧F.i.op≤35)=False:=eq_false Zb);(first|have c5:(36≤F.i.op∧F.i.op≤38)=True:=eq_true Zb|have c5:(36≤F.i.op∧F.i.op≤38)=False:=eq_false Zb);(first|have c6:(41≤F.i.op)=True:=eq_true Zb|have c6:(41≤F.i.op)=False:=eq_false Zb);(first|(simp only[Qak,Q7q,Q9a,c1,c2,c3,c4,c5,c6,hs9,Qap,if_false,if_true];simp;done)|simp only[Qak,Q7q,Q9a,c1,c2,c3,c4,c5,c6,hs9,Qap,if_false,if_true]))
     ·try simp at h13
      refine Q0 [0,67] (jh hX Za2) ?_
      refine jd (fun h15=> ?_) (fun h15=> ?_)
      ·try simp at h15
       refine Qb (js hX 1 Z6k (jc [0] (c:=(by apply Qfe<;>exact Z0)) (a:=Qfs) (k:=jf))) ?_
       first
       |(obtain ⟨s9,hs9⟩: ∃s,Qf8 F o1 o2 st lo k=s:=⟨_,rfl⟩;rw[hs9];obtain ⟨p1,p2,pst,plo,pk⟩:=s9;cases p1)
       |(obtain ⟨s9,hs9⟩: ∃s,Qij F o1 o2 st lo k=s:=⟨_,rfl⟩;rw[hs9];obtain ⟨p1,p2,pst,plo,pk⟩:=s9;cases p1)
       |(obtain ⟨s9,hs9⟩: ∃s,fdS F o1 o2 st lo k=s:=⟨_,rfl⟩;rw[hs9];obtain ⟨p1,p2,pst,plo,pk⟩:=s9;cases p1)
       |(obtain ⟨s9,hs9⟩: ∃s,Q4h F o1 o2 st lo k=s:=⟨_,rfl⟩;rw[hs9];obtain ⟨p1,p2,pst,plo,pk⟩:=s9;cases p1)
       |(obtain ⟨s9,hs9⟩: ∃s,Qb2 F o1 o2 st lo k=s:=⟨_,rfl⟩;rw[hs9];obtain ⟨p1,p2,pst,plo,pk⟩:=s9;cases p1)
       |(obtain ⟨s9,hs9⟩: ∃s,Q2c F o1 o2 st lo k=s:=⟨_,rfl⟩;rw[hs9];obtain ⟨p1,p2,pst,plo,pk⟩:=s9;cases p1)
       |skip
       all_goals first|refine Q15 (Le.expose 0 0 22 Z1g) ?_|refine Q15 (Le.nilOb 3 _) ?_
       all_goals
        refine Q1x (n:=13) (A:=[0,1,2,3,4,5,6,7,8,9,10,11,12]) (B:=[]) (L:=[0,1]) hmo Z24 tok hX Z6k .nil (Q8.weak (jc [0,1] (c:=Z1h) (a:=Q9) (k:=jf)) Zcu) ?_
        refine Qk Z6k Z15 (.of_eq ?_) ?_
        all_goals clear hX
        ·rfl
        ·first|(simp_all[Q7q,Q9a,Qap,Qq0];done)|(have c1:(8≤F.i.op∧F.i.op≤18)=False:=eq_false Zb;(first|have c2:(26≤F.i.op∧F.i.op≤29)=True:=eq_true Zb|have c2:(26≤F.i.op∧F.i.op≤29)=False:=eq_false Zb);(first|have c3:(F.i.op=31)=True:=eq_true Zb|have c3:(F.i.op=31)=False:=eq_false Zb);(first|have c4:(32≤F.i.op∧F.i.op≤35)=True:=eq_true Zb|have c4:(32≤F.i.op∧F.i.op≤35)=False:=eq_false Zb);(first|have c5:(36≤F.i.op∧F.i.op≤38)=True:=eq_true Zb|have c5:(36≤F.i.op∧F.i.op≤38)=False:=eq_false Zb);(first|have c6:(41≤F.i.op)=True:=eq_true Zb|have c6:(41≤F.i.op)=False:=eq_false Zb);(first|(simp only[Qak,Q7q,Q9a,c1,c2,c3,c4,c5,c6,hs9,Qap,if_false,if_true];simp;done)|simp only[Qak,Q7q,Q9a,c1,c2,c3,c4,c5,c6,hs9,Qap,if_false,if_true]))
      ·try simp at h15
       refine Qb (js hX 1 Z6k (jc [0] (c:=(by apply Qfd<;>exact Z0)) (a:=Qfr) (k:=jf))) ?_
       first
       |(obtain ⟨s9,hs9⟩: ∃s,Qf8 F o1 o2 st lo k=s:=⟨_,rfl⟩;rw[hs9];obtain ⟨p1,p2,pst,plo,pk⟩:=s9;cases p1)
       |(obtain ⟨s9,hs9⟩: ∃s,Qij F o1 o2 st lo k=s:=⟨_,rfl⟩;rw[hs9];obtain ⟨p1,p2,pst,plo,pk⟩:=s9;cases p1)
       |(obtain ⟨s9,hs9⟩: ∃s,fdS F o1 o2 st lo k=s:=⟨_,rfl⟩;rw[hs9];obtain ⟨p1,p2,pst,plo,pk⟩:=s9;cases p1)
       |(obtain ⟨s9,hs9⟩: ∃s,Q4h F o1 o2 st lo k=s:=⟨_,rfl⟩;rw[hs9];obtain ⟨p1,p2,pst,plo,pk⟩:=s9;cases p1)
       |(obtain ⟨s9,hs9⟩: ∃s,Qb2 F o1 o2 st lo k=s:=⟨_,rfl⟩;rw[hs9];obtain ⟨p1,p2,pst,plo,pk⟩:=s9;cases p1)
       |(obtain ⟨s9,hs9⟩: ∃s,Q2c F o1 o2 st lo k=s:=⟨_,rfl⟩;rw[hs9];obtain ⟨p1,p2,pst,plo,pk⟩:=s9;cases p1)
       |skip
       all_goals first|refine Q15 (Le.expose 0 0 22 Z1g) ?_|refine Q15 (Le.nilOb 3 _) ?_
       all_goals
        refine Q1x (n:=13) (A:=[0,1,2,3,4,5,6,7,8,9,10,11,12]) (B:=[]) (L:=[0,1]) hmo Z24 tok hX Z6k .nil (Q8.weak (jc [0,1] (c:=Z1h) (a:=Q9) (k:=jf)) Zcu) ?_
        refine Qk Z6k Z15 (.of_eq ?_) ?_
        all_goals clear hX
        ·rfl
        ·first|(simp_all[Q7q,Q9a,Qap,Qq0];done)|(have c1:(8≤F.i.op∧F.i.op≤18)=False:=eq_false Zb;(first|have c2:(26≤F.i.op∧F.i.op≤29)=True:=eq_true Zb|have c2:(26≤F.i.op∧F.i.op≤29)=False:=eq_false Zb);(first|have c3:(F.i.op=31)=True:=eq_true Zb|have c3:(F.i.op=31)=False:=eq_false Zb);(first|have c4:(32≤F.i.op∧F.i.op≤35)=True:=eq_true Zb|have c4:(32≤F.i.op∧F.i.op≤35)=False:=eq_false Zb);(first|have c5:(36≤F.i.op∧F.i.op≤38)=True:=eq_true Zb|have c5:(36≤F.i.op∧F.i.op≤38)=False:=eq_false Zb);(first|have c6:(41≤F.i.op)=True:=eq_true Zb|have c6:(41≤F.i.op)=False:=eq_false Zb);(first|(simp only[Qak,Q7q,Q9a,c1,c2,c3,c4,c5,c6,hs9,Qap,if_false,if_true];simp;done)|simp only[Qak,Q7q,Q9a,c1,c2,c3,c4,c5,c6,hs9,Qap,if_false,if_true]))
theorem Qm2:Q6 Tryz.prog 55:=jcb Tryz.func55
theorem Qld{l:List Cls}{c:Cls}{m:Mth}{a:Nat}{f:Frm}(hs:Q1w l≤1048576)(hw:Qs l=true)(ha:a<m.code.length)(hst:f.stack.length≤100)(hlo:f.locals.length≤100)(hia:m.code[a].op=3∨m.code[a].op=4→0≤m.code[a].a)(hd:m.code[a].desc.length≤1099511627776)(hmd:m.desc.length≤1099511627776)(hi:m.name=Qn→0<f.locals.length):Ct Tryz.prog 55 [.lst false 6 (l.map eC),eC c,eM m,.int .i64 (a:Nat),eFr f] [] (oFo (efT ⟨l,c,m,m.code[a],a⟩ f)) []:=by
 refine jbS Tryz.func55 52 fun X hX=> ?_
 refine Q0 [0,3,6,7,9,10] (jh hX Z4r) ?_
 refine jL 10 [0,1,2,3,4,5,6,7,8,9] [] [10,11] ([0,1,2]) hX Z4r .nil (jh hX Z4r) ?_
 refine Q0 [10,11] (js hX 1 Z4r (jc [4] (c:=(by apply (Qel (F:=⟨l,c,m,m.code[a],a⟩) (o1:=false) (o2:=false) (st:=f.stack) (lo:=f.locals) (k:=0))<;>exact Z1i)) (a:=Qes) (k:=jf))) ?_
 have hln:=Qrt ⟨l,c,m,m.code[a],a⟩ false false f.stack f.locals 0
 obtain ⟨s9,hs9⟩: ∃s,Q7q ⟨l,c,m,m.code[a],a⟩ false false f.stack f.locals 0=s:=⟨_,rfl⟩
 rw[hs9] at hln
 simp only[Qak,hs9]
 unfold efT
 rw[hs9]
 obtain ⟨p1,p2,pst,plo,pk⟩:=s9
 have w1:pst.length*32≤140737488355328:=by simp at hln;omega
 have w2:pst.length≤1099511627776:=by simp at hln;omega
 have w3:plo.length*32≤140737488355328:=by simp at hln;omega
 have w4:plo.length≤1099511627776:=by simp at hln;omega
 refine Q4 (Q0 [10,11,30] (jh hX Z4r) ?_)
 refine jd (fun h3=> ?_) (fun h3=> ?_)
 ·try simp at h3
  refine Q0 [10] (jh hX Z4r) ?_
  refine Q5 (Q1b Z4r ?_ rfl)
  rw[frOf,if_neg h3]
  exact Wk.agg (.cons (Wk.nilSlice _ _) (.cons (Wk.nilSlice _ _) (.cons (Wk.refl _) .nil)))
 ·try simp at h3
  refine Q3 ?_
  cases p1<;>cases p2
  all_goals first|refine Q15 (Le.expose 4 0 22 Z1g) ?_|refine Q15 (Le.nilOb 3 _) ?_
  all_goals first|refine Q15 (Le.expose 4 0 23 Z1g) ?_|refine Q15 (Le.nilOb 3 _) ?_
  all_goals
   refine jP 13 (Q17 [1,2,3,4,5,8,9,10,11,12] (.alt 0 (.alt 6 (.alt 7 .tail .stop) (.alt 7 (.alt 6 .tail .stop) .stop)) (.alt 7 (.alt 0 (.alt 6 .tail .stop) .stop) .stop))) [10] [4] hX (jPp [1,2,3,4,5,8,9,10,11,12] _ Zao (jPa 0 7 (p:=fun X hX=>(jh hX Z2x)) (k:=(jPa 6 7 (p:=fun X hX=>(jh hX Z2x)) (k:=(jPa 7 7 (p:=fun X hX=>(jh hX Z2x)) (k:=.tail) (kr:=.stop))) (kr:=(jPa 7 7 (p:=fun X hX=>(jh hX Z2x)) (k:=(jPa 6 7 (p:=fun X hX=>(jh hX Z2x)) (k:=.tail) (kr:=.stop))) (kr:=.stop))))) (kr:=(jPa 7 7 (p:=fun X hX=>(jh hX Z2x)) (k:=(jPa 0 7 (p:=fun X hX=>(jh hX Z2x)) (k:=(jPa 6 7 (p:=fun X hX=>(jh hX Z2x)) (k:=(jPw 7 8 Z5y .tail)) (kr:=.stop))) (kr:=.stop))) (kr:=.stop))))) (jh hX Z2x) ?_
   refine Q5 (Q1b Z2x ?_ rfl)
   rw[frOf,if_pos Z9d]
   exact Wk.refl _
theorem Qpo:Q6 Tryz.prog 142:=jcb Tryz.func142
theorem Qp9{f:Frm}(h1:f.stack.length≤1048576)(h2:f.locals.length≤1048576):Ct Tryz.prog 142 [eFr f] [] (eFr f) []:=by
 refine jbS Tryz.func142 12 fun X hX=> ?_
 refine jq [1,2] ?_
 refine jT 7 (Q17 [1,2,5,6] (.alt 0 (.alt 3 (.alt 4 .tail .stop) (.alt 4 (.alt 3 .tail .stop) .stop)) (.alt 4 (.alt 0 (.alt 3 .tail .stop) .stop) .stop))) [2] [0] hX (jTp [1,2,5,6] _ Zax (jTa 0 (p:=fun X hX=>(jZl (k:=jf))) (k:=(jTa 3 (p:=fun X hX=>(jZf (k:=jf))) (k:=(jTa 4 (p:=fun X hX=>(jZl (k:=jf))) (k:=.tail) (kr:=.stop))) (kr:=(jTa 4 (p:=fun X hX=>(jZl (k:=jf))) (k:=(jTa 3 (p:=fun X hX=>(jZf (k:=jf))) (k:=.tail) (kr:=.stop))) (kr:=.stop))))) (kr:=(jTa 4 (p:=fun X hX=>(jZl (k:=jf))) (k:=(jTa 0 (p:=fun X hX=>(jZl (k:=jf))) (k:=(jTa 3 (p:=fun X hX=>(jZf (k:=jf))) (k:=.tail) (kr:=.stop))) (kr:=.stop))) (kr:=.stop))))) (jZf (k:=jr)) ?_
 refine Q5 (je0 ?_)
 rfl
theorem Qm5:Q6 Tryz.prog 144:=jcb Tryz.func144
theorem Qli{n:Int}:Ct Tryz.prog 144 [.int .i64 n] [] (.bool (Qrg n)) []:=by
 refine jbS Tryz.func144 6 fun X hX=> ?_
 refine jq [0] ?_
 refine Q0 [2] (jt 1 (k:=(jc [] (c:=Z7x) (a:=Qbd) (k:=jr)))) ?_
 refine Q5 (je0 ?_)
 simp[Qrg]
end Go.Proofs
