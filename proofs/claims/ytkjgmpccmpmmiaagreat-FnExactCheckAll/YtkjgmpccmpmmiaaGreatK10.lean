/- Part 11 of what the proofs lean on: what the functions of the program and of the reference compute. Conditions: none. -/
import Derived.Test.YtkjgmpccmpmmiaaGreatK09
set_option linter.all false
set_option linter.unusedVariables false
set_option linter.unusedSimpArgs false
set_option maxHeartbeats 2000000
set_option maxRecDepth 100000
namespace Go.Proofs
open Go Go.Ev
theorem Qfy:Q6 Tryz.prog 202:=jcb Tryz.func202
theorem Qfm{l:List Cls}(hl:l.length≤1048576)(hs:Q1w l≤1099511627776){c:Cls}{k:Int}(hc:Q1r c≤1099511627776)(hk:isKnown l c.name=true):Ct Tryz.prog 202 [.int .i64 k,eC c,.fp [wv l]] [] (.int .i64 (pI5 l c)) []:=by
 refine jbS Tryz.func202 10 fun X hX=> ?_
 refine jq [2,4] ?_
 refine Q0 [5] (jt 2 (k:=(jc [] (c:=(by apply Qep<;>exact Z6)) (a:=Qew) (k:=(jc [] (c:=Z4v) (a:=Q1d) (k:=jr)))))) ?_
 refine Q5 (je0 ?_)
 unfold pI5
 rfl
theorem Qj0:Q6 Tryz.prog 127:=jcb Tryz.func127
theorem Qip{l:List Cls}(hl:l.length≤1048576)(hs:Q1w l≤1099511627776):Ct Tryz.prog 127 [wv l] [] (.agg [.int .i64 (Qs9 l).1,.int .i64 (Qs9 l).2]) []:=by
 refine jbS Tryz.func127 50 fun X hX=> ?_
 refine jq [1,2] ?_
 refine Q4 (jq [1,2,14] ?_)
 refine jd (fun h1=> ?_) (fun h1=> ?_)
 ·try simp at h1
  refine Q0 [2] (jh hX Zs) ?_
  refine Q5 (je Zs ?_)
  simp[Qs9,h1]
 ·try simp at h1
  refine Q3 (jq [1,2,3] ?_)
  refine Q4 (Q0 [1,2,22,23,24] (jh hX Zs) ?_)
  refine Q7 (Qh (α:=Nat) [1,2,22,23,24] (fun p=>[(24,.int .i64 p)]) (fun p=>[]) (fun p=>p≤5∧Q8m l p (5-p)=Q8m l 0 5) (fun p=>5-p) (0) (fun p=>by simp;rfl) Z3 ?_ ?_)
  ·simp
  rintro p ⟨hp,hI⟩
  obtain ⟨q,hq⟩: ∃q,q=p+1:=⟨_,rfl⟩
  obtain rfl|rfl|rfl|rfl|rfl|rfl:p=0∨p=1∨p=2∨p=3∨p=4∨p=5:=by omega
  all_goals
   refine jq [1,2,22,23,24,25] ?_
   refine Q4 (jd (fun h5=> ?_) (fun h5=> ?_))
   ·try simp at h5
    all_goals
     refine Q3 (Q4 (Q7 (Q0 [1,2,5,22,23,24] (jh hX Zc2) ?_)))
     refine Q0 [1,2,5,22,23,24,31,32,33] (jh hX Zc2) ?_
     refine Q7 (Qh (α:=Nat) [1,2,5,22,23,24,31,32,33] (fun k=>[(33,.int .i64 k)]) (fun k=>[]) (fun k=>k≤l.length∧Q12 (Qdp l (q-1)) (l.length-k) k=Q12 (Qdp l (q-1)) l.length 0) (fun k=>l.length-k) (0) (fun k=>by simp;rfl) Z3 ?_ ?_)
     ·simp
     rintro k ⟨hk,hK⟩
     simp only[hq,Nat.reduceAdd,Nat.reduceSub,Nat.zero_add,Nat.add_sub_cancel] at hK
     refine jq [1,2,5,22,23,24,31,32,33,34] ?_
     refine Q4 (jd (fun h8=> ?_) (fun h8=> ?_))
     ·try simp at h8
      rw[Q14q h8] at hK
      refine Q3 (Q4 (Q7 (Q0 [1,2,5,6,7,22,23,24,31,32,33] (jh hX Zbm) ?_)))
      refine Q0 [1,2,5,6,8,22,23,24,31,32,33] (js hX 3 Zbm (jB (c:=(by first|(apply Qfq<;>(first|assumption|omega|exact Nat.le_trans (Q46 h8) hs|exact Q5e h8))|(apply Qfp<;>(first|assumption|omega|exact Nat.le_trans (Q46 h8) hs|exact Q5e h8))|(apply Qfo<;>(first|assumption|omega|exact Nat.le_trans (Q46 h8) hs|exact Q5e h8))|(apply Qfn<;>(first|assumption|omega|exact Nat.le_trans (Q46 h8) hs|exact Q5e h8))|(apply Qfm<;>(first|assumption|omega|exact Nat.le_trans (Q46 h8) hs|exact Q5e h8)))) (a:=(by first|exact Qg2|exact Qg1|exact Qg0|exact Qfz|exact Qfy)) (k:=jr))) ?_
      refine jq [1,2,5,6,8,22,23,24,31,32,33,43] ?_
      refine jd (fun h11=> ?_) (fun h11=> ?_)
      ·try simp at h11
       rw[if_neg (by simp only[Qdp,Qa h8];exact h11)] at hK
       refine Q0 [2] (jh hX Zbm) ?_
       refine Q5 (je Zbm ?_)
       rw[Qs9,if_neg Zb,←hI,Q14z hK.symm]
       simp[Qdp,h8]
      ·try simp at h11
       rw[if_pos (by simp only[Qdp,Qa h8];exact h11)] at hK
       refine Q3 (Qb (jh hX Z9) ?_)
       refine Qm (k+1) [1,2,5,22,23,24,31,32,33] 3 Z1r Z3 (by simp[h1,h5,h8];try (simp (disch:=omega) only[Qc])) ?_ ?_
       ·exact ⟨by omega,by simp only[hq,Nat.reduceAdd,Nat.reduceSub,Nat.zero_add,Nat.add_sub_cancel];exact hK⟩
       ·omega
     ·try simp at h8
      rw[show l.length-k=0 from by omega] at hK
      simp only[Q12] at hK
      refine Ql (Qb (jh hX Z9) ?_)
      refine Qm (q) [1,2,22,23,24] 3 Z1r Z3 (by simp[hq];try (simp (disch:=omega) only[Qc])) ?_ ?_
      ·exact ⟨by omega,by rw[hq];exact (Q139 hK.symm).symm.trans hI⟩
      ·omega
   ·try simp at h5
    all_goals
     refine Ql (Q0 [2] (jh hX Zc2) ?_)
     refine Q5 (je Zc2 ?_)
     rw[Qs9,if_neg Zb,←hI]
     rfl
section
variable {X:Ctx} {ops:Array Oper} {ls:List Oper} {st s s1 s2 s3:St} {o:Oper} {n0:Nat} {L:List Nat} {Q:Exit→St→Prop}
theorem jZ{id:Nat}{y:Code}(t:Tm)(ks L:List Nat)(hX:X.n0=n0)(hH:Q4c Tryz.prog TT n0 ls.toArray L t st s2)(hk:W Tryz.prog X y (s2.keep ks) Q)
  (hB:tmsZ .any ls.toArray t=true:=by kernel_rfl):W Tryz.prog X (.seq (.region id ls.toArray true) y) st Q:=Q16z t ks L hmo hB tok hX hH hk
end
section
variable {X:Ctx} {ops:Array Oper} {ls:List Oper} {st s s1 s2 s3:St} {n0:Nat} {Q:Exit→St→Prop} {t u:Ti}
theorem jV{id:Nat}{y:Code}(n:Nat)(t:Ti)(ks:List Nat)(hX:X.n0=n0)(hH:Q5z Tryz.prog TT n0 ls.toArray t st s2)(h2:Q8 Tryz.prog X ls.toArray (ls.drop n) s2 s3)(hk:W Tryz.prog X y (s3.keep ks) Q)
  (hB:tisB .any ls.toArray n t=true:=by kernel_rfl):W Tryz.prog X (.seq (.region id ls.toArray true) y) st Q:=Q13n n t ks hmo hB tok hX hH h2 hk
theorem jVp{i:Nat}(h:Q4q TT n0 ops [] [i] s=some s1)(k:Q5z Tryz.prog TT n0 ops t s1 s2):Q5z Tryz.prog TT n0 ops (.pur i t) s s2:= .pur h k
theorem jVo{i:Nat}{o:Oper}(ho:ops[i]? =some o:=by rfl)(p: ∀X:Ctx,X.n0=n0→Q8 Tryz.prog X ops [o] s s1)(k:Q5z Tryz.prog TT n0 ops t s1 s2):Q5z Tryz.prog TT n0 ops (.one i t) s s2:= .one ho p k
theorem jVt{i j:Nat}(h1:Q5z Tryz.prog TT n0 ops (.one i t) s s2)(h2:Q5z Tryz.prog TT n0 ops (.one j u) s s2):Q5z Tryz.prog TT n0 ops (.two i j t u) s s2:= .two h1 h2
end
theorem Q20:Q6 Tryz.prog 115:=jcb Tryz.func115
theorem Q2z{l:List Typ}(hl:l.length≤1048576):Ct Tryz.prog 115 [.lst false 3 (l.map eT)] [] (.lst true 3 (l.map eT)) []:=by
 have w1:l.length*32≤140737488355328:=by omega
 have w2:l.length≤1099511627776:=by omega
 refine jbS Tryz.func115 8 fun X hX=> ?_
 refine Q0 [0] (jh hX Z47) ?_
 refine Q4 (Q158 [0,4] (Qdy.step 1 tok hX Z47 (Qdy.eqNil tok rfl rfl rfl rfl Z3)) ?_)
 rintro _ ⟨b1,hb1,rfl⟩
 refine jd (fun h1=> ?_) (fun h1=> ?_)
 ·try simp at h1
  refine Q0 [2] (jh hX Z47) ?_
  refine Q5 (Q1b Z47 ?_ rfl)
  obtain rfl:l=[]:=by
   cases l with
   |nil=>rfl
   |cons x l=>have:=hb1 Z3;simp_all
  exact Wk.nilSlice _ _
 ·try simp at h1
  refine Q3 (Q0 [2] (jh hX Z47) ?_)
  refine Q5 (Q1b Z47 ?_ rfl)
  exact Wk.refl _
theorem Qx:Q6 Tryz.prog 79:=jcb Tryz.func79
theorem Qlu{f:Frm}(h1:f.stack.length≤1048576)(h2:f.locals.length≤1048576):Ct Tryz.prog 79 [eFr f] [] (.agg [.lst true 3 (f.stack.map eT),.lst true 3 (f.locals.map eT)]) []:=by
 refine jbS Tryz.func79 10 fun X hX=> ?_
 refine jq [1,2] ?_
 refine jT 5 (Q17 [0,1,3,4] (.alt 2 .tail .stop)) [2] [0] hX (jTp [0,1,3,4] _ Zax (jTa 2 (p:=fun X hX=>(jc [] (c:=Z6m) (a:=Q20) (k:=jf))) (k:=.tail) (kr:=.stop))) (jc [] (c:=Z6m) (a:=Q20) (k:=jr)) ?_
 refine Q5 (je0 ?_)
 rfl
theorem Qof:Q6 Tryz.prog 33:=jcb Tryz.func33
theorem Qnt{n:Int}:Ct Tryz.prog 33 [.int .i64 n] [] (.bool (Qje n)) []:=by
 refine jbS Tryz.func33 9 fun X hX=> ?_
 refine jq [0] ?_
 refine Q0 [2] (jt 3 (k:=(jm 3 5 [8] (p:=Zcb) (q:=by intro b;(try simp at b);exact (js hX 1 Z1 (Q8.call [] rfl Z3 rfl Z1 Z7 Z1s Q2h Z3 Z3 Z1 (jh hX Z1)))) (k:=jr)))) ?_
 refine Q5 (je0 ?_)
 simp_all[Qje]
theorem Qmi:Q6 Tryz.prog 35:=jcb Tryz.func35
theorem Qlx{n:Int}:Ct Tryz.prog 35 [.int .i64 n] [] (.bool (Qrg n)) []:=by
 refine jbS Tryz.func35 6 fun X hX=> ?_
 refine jq [0] ?_
 refine Q0 [2] (jt 1 (k:=(jc [] (c:=Z7z) (a:=Qbh) (k:=jr)))) ?_
 refine Q5 (je0 ?_)
 simp[Qrg]
theorem Qz:Q6 Tryz.prog 113:=jcb Tryz.func113
theorem Q8i{l:List Typ}:Ct Tryz.prog 113 [.lst false 3 (l.map eT)] [] (.int .i64 l.length) []:=by
 refine jbS Tryz.func113 5 fun X hX=> ?_
 refine jq [0] ?_
 refine jq [2] ?_
 refine Q5 (je0 ?_)
 simp
theorem Qtc:Q6 Tryz.prog 114:=jcb Tryz.func114
theorem Qt5{i:Ins}(hd:i.desc.length≤1099511627776):Ct Tryz.prog 114 [eI i] [] (.int .i64 (Q2a i)) []:=by
 have hds:=Qig i.desc
 refine jbS Tryz.func114 46 fun X hX=> ?_
 refine jq [1] ?_
 refine Q4 (jq [1,4] ?_)
 refine Q7 (Q4 (jq [1,4,5] ?_))
 refine' Qbi (l1:=[(1,.ptr 0 0 0),(4,.int .i64 i.op),(5,.bool (tk1 i.op))]) (l0:=[(1,.ptr 0 0 0),(4,.int .i64 i.op),(5,.bool (tk1 i.op))]) [1,4,5] Z7 Z15 (fun h2=> ?a1_1) (fun h2=> ?a0_1) ?ak_1
 case a1_1=>
  try simp at h2
  refine Q3 ?_
  exact ⟨rfl,Eq.trans Z22 (by refine congr (congrArg St.mk (congrArg (sp 46) ?_)) rfl;(try simp_all[tk1,tk2]);try grind)⟩
 case a0_1=>
  try simp at h2
  refine jq [1,4,5] ?_
  refine jd (fun h3=> ?_) (fun h3=> ?_)
  ·try simp at h3
   refine Q3 ?_
   exact ⟨rfl,Eq.trans Z22 (by refine congr (congrArg St.mk (congrArg (sp 46) ?_)) rfl;(try simp_all[tk1,tk2]);try grind)⟩
  ·try simp at h3
   refine jq [1,4,5] ?_
   refine jd (fun h4=> ?_) (fun h4=> ?_)
   ·try simp at h4
    refine Q3 ?_
    exact ⟨rfl,Eq.trans Z22 (by refine congr (congrArg St.mk (congrArg (sp 46) ?_)) rfl;(try simp_all[tk1,tk2]);try grind)⟩
   ·try simp at h4
    refine jq [1,4,5] ?_
    refine jd (fun h5=> ?_) (fun h5=> ?_)
    ·try simp at h5
     refine Q3 ?_
     exact ⟨rfl,Eq.trans Z22 (by refine congr (congrArg St.mk (congrArg (sp 46) ?_)) rfl;(try simp_all[tk1,tk2]);try grind)⟩
    ·try simp at h5
     refine jq [1,4,5] ?_
     refine jd (fun h6=> ?_) (fun h6=> ?_)
     ·try simp at h6
      refine Q3 ?_
      exact ⟨rfl,Eq.trans Z22 (by refine congr (congrArg St.mk (congrArg (sp 46) ?_)) rfl;(try simp_all[tk1,tk2]);try grind)⟩
     ·try simp at h6
      refine jq [1,4,5] ?_
      refine jd (fun h7=> ?_) (fun h7=> ?_)
      ·try simp at h7
       refine Q3 ?_
       exact ⟨rfl,Eq.trans Z22 (by refine congr (congrArg St.mk (congrArg (sp 46) ?_)) rfl;(try simp_all[tk1,tk2]);try grind)⟩
      ·try simp at h7
       refine jq [1,4,5] ?_
       refine jd (fun h8=> ?_) (fun h8=> ?_)
       ·try simp at h8
        refine Q3 ?_
        exact ⟨rfl,Eq.trans Z22 (by refine congr (congrArg St.mk (congrArg (sp 46) ?_)) rfl;(try simp_all[tk1,tk2]);try grind)⟩
       ·try simp at h8
        refine jq [1,4,5] ?_
        refine jd (fun h9=> ?_) (fun h9=> ?_)
        ·try simp at h9
         refine Q3 ?_
         exact ⟨rfl,Eq.trans Z22 (by refine congr (congrArg St.mk (congrArg (sp 46) ?_)) rfl;(try simp_all[tk1,tk2]);try grind)⟩
        ·try simp at h9
         refine jq [1,4,5] ?_
         refine jd (fun h10=> ?_) (fun h10=> ?_)
         ·try simp at h10
          refine Q3 ?_
          exact ⟨rfl,Eq.trans Z22 (by refine congr (congrArg St.mk (congrArg (sp 46) ?_)) rfl;(try simp_all[tk1,tk2]);try grind)⟩
         ·try simp at h10
          refine jq [1,4,5] ?_
          refine jd (fun h11=> ?_) (fun h11=> ?_)
          ·try simp at h11
           refine Q3 ?_
           exact ⟨rfl,Eq.trans Z22 (by refine congr (congrArg St.mk (congrArg (sp 46) ?_)) rfl;(try simp_all[tk1,tk2]);try grind)⟩
          ·try simp at h11
           refine jq [1,4,5] ?_
           refine jd (fun h12=> ?_) (fun h12=> ?_)
           ·try simp at h12
            refine Q3 ?_
            exact ⟨rfl,Eq.trans Z22 (by refine congr (congrArg St.mk (congrArg (sp 46) ?_)) rfl;(try simp_all[tk1,tk2]);try grind)⟩
           ·try simp at h12
            refine jq [1,4,5] ?_
            refine jd (fun h13=> ?_) (fun h13=> ?_)
            ·try simp at h13
             refine Q3 ?_
             exact ⟨rfl,Eq.trans Z22 (by refine congr (congrArg St.mk (congrArg (sp 46) ?_)) rfl;(try simp_all[tk1,tk2]);try grind)⟩
            ·try simp at h13
             refine jq [1,4,5] ?_
             refine jd (fun h14=> ?_) (fun h14=> ?_)
             ·try simp at h14
              refine Q3 ?_
              exact ⟨rfl,Eq.trans Z22 (by refine congr (congrArg St.mk (congrArg (sp 46) ?_)) rfl;(try simp_all[tk1,tk2]);try grind)⟩
             ·try simp at h14
              refine jq [1,4,5] ?_
              refine jd (fun h15=> ?_) (fun h15=> ?_)
              ·try simp at h15
               refine Q3 ?_
               exact ⟨rfl,Eq.trans Z22 (by refine congr (congrArg St.mk (congrArg (sp 46) ?_)) rfl;(try simp_all[tk1,tk2]);try grind)⟩
              ·try simp at h15
               refine Qb (Q8.weak jr (Le.keep [1,4,5] _)) ?_
               exact ⟨rfl,Eq.trans Z22 (by refine congr (congrArg St.mk (congrArg (sp 46) ?_)) rfl;(try simp_all[tk1,tk2]);try grind)⟩
 case ak_1=>
  refine Q15 (Le.of_eq Z7) ?_
  refine jd (fun h2=> ?_) (fun h2=> ?_)
  ·try simp at h2
   refine jq [2] ?_
   refine Q5 (je0 ?_)
   simp_all[Q2a]
  ·try simp at h2
   refine Q4 (jq [1,4,21] ?_)
   refine' Qbi (l1:=[(1,.ptr 0 0 0),(4,.int .i64 i.op),(21,.bool (tk2 i.op))]) (l0:=[(1,.ptr 0 0 0),(4,.int .i64 i.op),(21,.bool (tk2 i.op))]) [1,4,21] Z7 Z15 (fun h18=> ?a1_2) (fun h18=> ?a0_2) ?ak_2
   case a1_2=>
    try simp at h18
    refine Q3 ?_
    exact ⟨rfl,Eq.trans Z22 (by refine congr (congrArg St.mk (congrArg (sp 46) ?_)) rfl;(try simp_all[tk1,tk2]);try grind)⟩
   case a0_2=>
    try simp at h18
    refine jq [1,4,21] ?_
    refine jd (fun h19=> ?_) (fun h19=> ?_)
    ·try simp at h19
     refine Q3 ?_
     exact ⟨rfl,Eq.trans Z22 (by refine congr (congrArg St.mk (congrArg (sp 46) ?_)) rfl;(try simp_all[tk1,tk2]);try grind)⟩
    ·try simp at h19
     refine jq [1,4,21] ?_
     refine jd (fun h20=> ?_) (fun h20=> ?_)
     ·try simp at h20
      refine Q3 ?_
      exact ⟨rfl,Eq.trans Z22 (by refine congr (congrArg St.mk (congrArg (sp 46) ?_)) rfl;(try simp_all[tk1,tk2]);try grind)⟩
     ·try simp at h20
      refine jq [1,4,21] ?_
      refine jd (fun h21=> ?_) (fun h21=> ?_)
      ·try simp at h21
       refine Q3 ?_
       exact ⟨rfl,Eq.trans Z22 (by refine congr (congrArg St.mk (congrArg (sp 46) ?_)) rfl;(try simp_all[tk1,tk2]);try grind)⟩
      ·try simp at h21
       refine jq [1,4,21] ?_
       refine jd (fun h22=> ?_) (fun h22=> ?_)
       ·try simp at h22
        refine Q3 ?_
        exact ⟨rfl,Eq.trans Z22 (by refine congr (congrArg St.mk (congrArg (sp 46) ?_)) rfl;(try simp_all[tk1,tk2]);try grind)⟩
       ·try simp at h22
        refine jq [1,4,21] ?_
        refine jd (fun h23=> ?_) (fun h23=> ?_)
        ·try simp at h23
         refine Q3 ?_
         exact ⟨rfl,Eq.trans Z22 (by refine congr (congrArg St.mk (congrArg (sp 46) ?_)) rfl;(try simp_all[tk1,tk2]);try grind)⟩
        ·try simp at h23
         refine Qb (Q8.weak jr (Le.keep [1,4,21] _)) ?_
         exact ⟨rfl,Eq.trans Z22 (by refine congr (congrArg St.mk (congrArg (sp 46) ?_)) rfl;(try simp_all[tk1,tk2]);try grind)⟩
   case ak_2=>
    refine Q15 (Le.of_eq Z7) ?_
    refine jd (fun h18=> ?_) (fun h18=> ?_)
    ·try simp at h18
     refine jq [2] ?_
     refine Q5 (je0 ?_)
     simp_all[Q2a]
    ·try simp at h18
     refine jq [1,4,29] ?_
     refine jd (fun h26=> ?_) (fun h26=> ?_)
     ·try simp at h26
      refine jq [2] ?_
      refine Q5 (je0 ?_)
      simp_all[Q2a]
     ·try simp at h26
      refine Q4 (jq [1,4,31] ?_)
      refine' Qbi (l1:=[(1,.ptr 0 0 0),(4,.int .i64 i.op),(31,.bool (decide (i.op=36∨i.op=38)))]) (l0:=[(1,.ptr 0 0 0),(4,.int .i64 i.op),(31,.bool (decide (i.op=36∨i.op=38)))]) [1,4,31] Z7 Z15 (fun h28=> ?a1_3) (fun h28=> ?a0_3) ?ak_3
      case a1_3=>
       try simp at h28
       refine Q3 ?_
       exact ⟨rfl,Eq.trans Z22 (by refine congr (congrArg St.mk (congrArg (sp 46) ?_)) rfl;(try simp_all[tk1,tk2]);try grind)⟩
      case a0_3=>
       try simp at h28
       refine Qb (Q8.weak jr (Le.keep [1,4,31] _)) ?_
       exact ⟨rfl,Eq.trans Z22 (by refine congr (congrArg St.mk (congrArg (sp 46) ?_)) rfl;(try simp_all[tk1,tk2]);try grind)⟩
      case ak_3=>
       refine Q15 (Le.of_eq Z7) ?_
       refine jd (fun h28=> ?_) (fun h28=> ?_)
       ·try simp at h28
        refine Q0 [2] (jt 2 (k:=(jc [] (c:=Z7r) (a:=Q8t) (k:=(jh hX Z9))))) ?_
        refine Q5 (je0 ?_)
        simp_all[Q2a]
       ·try simp at h28
        refine jq [1,38] ?_
        refine jd (fun h31=> ?_) (fun h31=> ?_)
        ·try simp at h31
         refine Q0 [2] (jt 2 (k:=(jc [] (c:=Z7r) (a:=Q8t) (k:=jr)))) ?_
         refine Q5 (je0 ?_)
         simp_all[Q2a]
        ·try simp at h31
         refine Q3 (Q4 (Q0 [45] (jt 2 (k:=(jc [] (c:=(by apply Q8h<;>exact Z0)) (a:=Q2h) (k:=jf)))) ?_))
         refine jd (fun h33=> ?_) (fun h33=> ?_)
         ·try simp at h33
          refine jq [2] ?_
          refine Q5 (je0 ?_)
          simp_all[Q2a]
         ·try simp at h33
          refine Q3 (jq [2] ?_)
          refine Q5 (je0 ?_)
          simp_all[Q2a]
theorem Q38:Q6 Tryz.prog 161:=jcb Tryz.func161
theorem Q9k{n:Int}:Ct Tryz.prog 161 [.int .i64 n] [] (eT ⟨n,[],0⟩) []:=by
 refine jbS Tryz.func161 5 fun X hX=> ?_
 refine jq [0,2] ?_
 refine jq [2] ?_
 refine Q5 (je0 ?_)
 simp
theorem Q1k:Q6 Tryz.prog 181:=jcb Tryz.func181
theorem Qit{F:SF}{st lo tk:List Typ}{ys:List Typ}(hs:st.length≤1000)(hy:ys.length≤1000):Ct Tryz.prog 181 [.ptr 0 0 0,.lst false 3 (ys.map eT)] [some (20,[oFV F (.lst true 3 (st.map eT)) (.arr 1 0 lo.length) (.lst false 3 (tk.map eT))]),some (3,lo.map eT)] (.int .i64 0) [some (20,[oFV F (.lst true 3 ((st++ys).map eT)) (.arr 1 0 lo.length) (.lst false 3 (tk.map eT))]),some (3,lo.map eT)]:=by
 have w1:(st.length+ys.length)*32≤140737488355328:=by omega
 have w2:st.length+ys.length≤1099511627776:=by omega
 refine jbS Tryz.func181 16 fun X hX=> ?_
 refine Q0 [0,1] (jh hX Z47) ?_
 refine Q15 (Le.expose 0 0 17 Z1g) ?_
 refine Q0 [] (jh hX Z47) ?_
 refine Q15 (Le.absorb 0 0 17 Z7) ?_
 refine Q0 [4] (jh hX Z47) ?_
 refine Q5 (Qp Z47 Z15 (.of_eq ?_) ?_)
 all_goals clear hX
 ·rfl
 ·skip
  simp
  exact List.take_of_length_le Z3
theorem Q21{F:SF}{st lo tk:List Typ}{ys:List Typ}(hs:st.length≤1000)(hy:ys.length≤1000):Ct Tryz.prog 181 [.ptr 0 0 0,.lst false 3 (ys.map eT)] [some (20,[oFl F st lo tk])] (.int .i64 0) [some (20,[oFl F (st++ys) (lo) tk])]:=by
 have w1:(st.length+ys.length)*32≤140737488355328:=by omega
 have w2:st.length+ys.length≤1099511627776:=by omega
 refine jbS Tryz.func181 16 fun X hX=> ?_
 refine Q0 [0,1] (jh hX Z47) ?_
 refine Q15 (Le.expose 0 0 17 Z1g) ?_
 refine Q0 [] (jh hX Z47) ?_
 refine Q15 (Le.absorb 0 0 17 Z7) ?_
 refine Q0 [4] (jh hX Z47) ?_
 refine Q5 (Qp Z47 Z15 (.of_eq ?_) ?_)
 all_goals clear hX
 ·rfl
 ·skip
  simp
  exact List.take_of_length_le Z3
theorem Q3e:Q6 Tryz.prog 253:=jcb Tryz.func253
theorem Qb8{F:SF}{x y z:V}:Ct Tryz.prog 253 [pFl F x y z] [] (.bool (decide (F.m.name=[60,105,110,105,116,62]))) []:=by
 refine jbS Tryz.func253 9 fun X hX=> ?_
 refine jq [0] ?_
 refine jq [2] ?_
 refine Q5 (je0 ?_)
 simp
theorem Qkd:Q6 Tryz.prog 179:=jcb Tryz.func179
theorem Qk0{F:SF}{st lo tk:List Typ}(hs:st.length≤1000)(hs2:lo.length≤1000)(ht:tk.length≤1000)(hl:F.l.length≤1048576)(hia:F.i.op=3∨F.i.op=4→0≤F.i.a)(k4:F.i.op=4→0<tk.length)(k6:F.i.op=6→0<tk.length)(k7:F.i.op=7→1<tk.length)(k30:F.i.op=30→1<tk.length):Ct Tryz.prog 179 [.ptr 0 0 0,eI F.i] [some (20,[oFl F st lo tk])] (.int .i64 (Q2p F st lo tk).k) [some (20,[oFl F ((Q2p F st lo tk).st) ((Q2p F st lo tk).lo) tk])]:=by
 refine jbS Tryz.func179 130 fun X hX=> ?_
 refine jq [0,3] ?_
 refine jq [0,3,5] ?_
 refine Q4 (jq [0,3,5,11] ?_)
 refine Q7 (jq [0,3,5,11,12] ?_)
 refine jd (fun h3=> ?_) (fun h3=> ?_)
 ·try simp at h3
  refine Q0 [4] (jt 1 (k:=(jc [] (c:=Z36) (a:=Q38) (k:=(jFz (k:=(jc [0] (c:=Z33) (a:=Q1k) (k:=jr)))))))) ?_
  refine Q5 (Qp Z7 Z15 (.of_eq ?_) ?_)
  all_goals clear hX
  ·skip
   first
   |(simp_all[Q2p,Qn];done)
   |(have hA:F.i.a<(lo.length:Int):=by omega
     have e:Q2p F st lo tk=⟨0,st,lo.set F.i.a.toNat (atL tk 0)⟩:=by rw[Q2p,if_neg h3,if_neg h5,if_neg h7,if_pos h11,if_pos hA,if_neg Z34]
     rw[e])
  ·skip
   first
   |(simp_all[Q2p,Qn];done)
   |(have hA:F.i.a<(lo.length:Int):=by omega
     have e:Q2p F st lo tk=⟨0,st,lo.set F.i.a.toNat (atL tk 0)⟩:=by rw[Q2p,if_neg h3,if_neg h5,if_neg h7,if_pos h11,if_pos hA,if_neg Z34]
     rw[e]
     simp[k])
 ·try simp at h3
  refine jq [0,3,5,11,18] ?_
  refine jd (fun h5=> ?_) (fun h5=> ?_)
  ·try simp at h5
   refine Q0 [4] (jt 1 (k:=(jc [] (c:=Z36) (a:=Q38) (k:=(jFz (k:=(jc [0] (c:=(by apply Q21 (ys:=[⟨2,[],0⟩])<;>exact Z0)) (a:=Q1k) (k:=jr)))))))) ?_
   refine Q5 (Qp Z7 Z15 (.of_eq ?_) ?_)
   all_goals clear hX
   ·skip
    first
    |(simp_all[Q2p,Qn];done)
    |(have hA:F.i.a<(lo.length:Int):=by omega
      have e:Q2p F st lo tk=⟨0,st,lo.set F.i.a.toNat (atL tk 0)⟩:=by rw[Q2p,if_neg h3,if_neg h5,if_neg h7,if_pos h11,if_pos hA,if_neg Z34]
      rw[e])
   ·skip
    first
    |(simp_all[Q2p,Qn];done)
    |(have hA:F.i.a<(lo.length:Int):=by omega
      have e:Q2p F st lo tk=⟨0,st,lo.set F.i.a.toNat (atL tk 0)⟩:=by rw[Q2p,if_neg h3,if_neg h5,if_neg h7,if_pos h11,if_pos hA,if_neg Z34]
      rw[e]
      simp[k])
  ·try simp at h5
   refine jq [0,3,5,11,24] ?_
   refine jd (fun h7=> ?_) (fun h7=> ?_)
   ·try simp at h7
    refine Q15 (Le.expose 0 0 18 Z1g) ?_
    refine Q4 ?_
    have ha:=hia (.inl h7)
    by_cases hA:(lo.length:Int)≤F.i.a
    all_goals first|have hAt:F.i.a.toNat<lo.length:=by omega|have hAt:=trivial
    all_goals
     first|(refine jV 17 (.pur 0 (.pur 2 (.pur 3 (.pur 4 (.pur 5 (.two 1 6 (.one 6 (.one 7 (.pur 8 (.pur 9 (.pur 10 (.pur 11 (.pur 12 (.pur 13 (.pur 14 (.pur 15 (.pur 16 .tail))))))))))) (.two 1 7 (.one 7 (.pur 8 (.pur 9 (.pur 10 (.pur 11 (.pur 12 (.pur 13 (.pur 14 (.pur 15 (.pur 16 .tail)))))))))) (.one 1 (.pur 8 (.pur 9 (.pur 10 (.pur 11 (.pur 12 (.pur 13 (.pur 14 (.pur 15 (.pur 16 .tail))))))))))))))))) [0,3,47] hX (jVp Z1t (jVp Z1t (jVp Z1t (jVp Z1t (jVp Z1t (jVt (jVo (p:=fun X hX=>(jh hX Z1t)) (k:=(jVo (p:=fun X hX=>(jh hX Z1t)) (k:=(jVo (p:=fun X hX=>(jB (c:=Z1b) (a:=Qz) (k:=jf))) (k:=(jVp Z1t (jVp Z1t (jVp Z1t (jVp Z1t (jVp Z1t (jVp Z1t (jVp Z1t (jVp Z1t (jVp Z1t .tail))))))))))))))) (jVo (p:=fun X hX=>(jh hX Z13)) (k:=(jVt (jVo (p:=fun X hX=>(jh hX Z13)) (k:=(jVo (p:=fun X hX=>(jB (c:=Z1b) (a:=Qz) (k:=jf))) (k:=(jVp Z13 (jVp Z13 (jVp Z13 (jVp Z13 (jVp Z13 (jVp Z13 (jVp Z13 (jVp Z13 (jVp Z13 .tail))))))))))))) (jVo (p:=fun X hX=>(jB (c:=Z1b) (a:=Qz) (k:=jf))) (k:=(jVo (p:=fun X hX=>(jh hX Z13)) (k:=(jVp Z13 (jVp Z13 (jVp Z13 (jVp Z13 (jVp Z13 (jVp Z13 (jVp Z13 (jVp Z13 (jVp Z13 .tail)))))))))))))))))))))) (jh hX Z1t) ?_)|(refine jV 17 (.pur 0 (.pur 2 (.pur 3 (.pur 4 (.pur 5 (.two 1 6 (.one 6 (.one 7 (.pur 8 (.pur 9 (.pur 10 (.pur 11 (.pur 12 (.pur 13 (.pur 15 (.two 14 16 (.one 16 .tail) (.one 14 .tail))))))))))) (.two 1 7 (.one 7 (.pur 8 (.pur 9 (.pur 10 (.pur 11 (.pur 12 (.pur 13 (.pur 15 (.two 14 16 (.one 16 .tail) (.one 14 .tail)))))))))) (.one 1 (.pur 8 (.pur 9 (.pur 10 (.pur 11 (.pur 12 (.pur 13 (.pur 15 (.two 14 16 (.one 16 .tail) (.one 14 .tail))))))))))))))))) [0,3,47] hX (jVp Z1t (jVp Z1t (jVp Z1t (jVp Z1t (jVp Z1t (jVt (jVo (p:=fun X hX=>(jh hX Z1t)) (k:=(jVo (p:=fun X hX=>(jh hX Z1t)) (k:=(jVo (p:=fun X hX=>(jB (c:=Z1b) (a:=Qz) (k:=jf))) (k:=(jVp Z1t (jVp Z1t (jVp Z1t (jVp Z1t (jVp Z1t (jVp Z1t (jVp Z1t (jVt (jVo (p:=fun X hX=>(jh hX Z1t)) (k:=(jVo (p:=fun X hX=>(jh hX Z1t)) (k:=.tail)))) (jVo (p:=fun X hX=>(jh hX Z13)) (k:=(jVo (p:=fun X hX=>(jh hX Z13)) (k:=.tail)))))))))))))))))) (jVo (p:=fun X hX=>(jh hX Z13)) (k:=(jVt (jVo (p:=fun X hX=>(jh hX Z13)) (k:=(jVo (p:=fun X hX=>(jB (c:=Z1b) (a:=Qz) (k:=jf))) (k:=(jVp Z13 (jVp Z13 (jVp Z13 (jVp Z13 (jVp Z13 (jVp Z13 (jVp Z13 (jVt (jVo (p:=fun X hX=>(jh hX Z13)) (k:=(jVo (p:=fun X hX=>(jh hX Z13)) (k:=.tail)))) (jVo (p:=fun X hX=>(jh hX Z13)) (k:=(jVo (p:=fun X hX=>(jh hX Z13)) (k:=.tail)))))))))))))))) (jVo (p:=fun X hX=>(jB (c:=Z1b) (a:=Qz) (k:=jf))) (k:=(jVo (p:=fun X hX=>(jh hX Z13)) (k:=(jVp Z13 (jVp Z13 (jVp Z13 (jVp Z13 (jVp Z13 (jVp Z13 (jVp Z13 (jVt (jVo (p:=fun X hX=>(jh hX Z13)) (k:=(jVo (p:=fun X hX=>(jh hX Z13)) (k:=.tail)))) (jVo (p:=fun X hX=>(jh hX Z13)) (k:=(jVo (p:=fun X hX=>(jh hX Z13)) (k:=.tail))))))))))))))))))))))))) (jh hX Z1t) ?_)
     refine jd (fun h8=> ?_) (fun h8=> ?_)
     ·try simp at h8
      all_goals
       refine Q15 (Le.absorb 0 0 18 Z7) ?_
       refine Q0 [4] (jh hX Zab) ?_
       refine Q5 (Qp Zab Z15 (.of_eq ?_) ?_)
       all_goals clear hX
       ·skip
        have e:Q2p F st lo tk=⟨10,st,lo⟩:=by
         rw[Q2p,if_neg h3,if_neg h5,if_pos h7,if_neg (fun e=>by first|omega|(have e2:=e.2;rw[Qa hAt] at e2;simp_all))]
        rw[e]
       ·skip
        have e:Q2p F st lo tk=⟨10,st,lo⟩:=by
         rw[Q2p,if_neg h3,if_neg h5,if_pos h7,if_neg (fun e=>by first|omega|(have e2:=e.2;rw[Qa hAt] at e2;simp_all))]
        rw[e]
        simp
     ·try simp at h8
      all_goals
       refine Q3 (jP 11 (Q17 [0,1,2,3,4,5,6,7,8,9] (.alt 10 .tail .stop)) [4] [0,1,2] hX (jPp [0,1,2,3,4,5,6,7,8,9] _ (by simp[ha,hA,hAt,h8];try rfl) (jPa 10 3 (p:=fun X hX=>(jFz (k:=jf))) (k:=.tail) (kr:=.stop))) (Q8.weak (jc [0,2] (c:=(by apply Qit (ys:=[lo[F.i.a.toNat]'Zb])<;>exact Z0)) (a:=Q1k) (k:=(jh hX Zab))) (Le.absorb 0 0 18 Z7)) ?_)
       refine Q5 (Qp Zab Z15 (.of_eq ?_) ?_)
       all_goals clear hX
       ·skip
        first
        |(simp_all[Q2p,Qn];done)
        |(have hA:F.i.a<(lo.length:Int):=by omega
          have e:Q2p F st lo tk=⟨0,st,lo.set F.i.a.toNat (atL tk 0)⟩:=by rw[Q2p,if_neg h3,if_neg h5,if_neg h7,if_pos h11,if_pos hA,if_neg Z34]
          rw[e])
       ·skip
        first
        |(simp_all[Q2p,Qn];done)
        |(have hA:F.i.a<(lo.length:Int):=by omega
          have e:Q2p F st lo tk=⟨0,st,lo.set F.i.a.toNat (atL tk 0)⟩:=by rw[Q2p,if_neg h3,if_neg h5,if_neg h7,if_pos h11,if_pos hA,if_neg Z34]
          rw[e]
          simp[k])
   ·try simp at h7
    refine jq [0,3,5,11,60] ?_
    refine jd (fun h11=> ?_) (fun h11=> ?_)
    ·try simp at h11
     have ha:=hia (.inr h11)
     have k:=k4 h11
     refine Q15 (Le.expose 0 0 18 Z1g) ?_
     refine Q4 (Q7 (jL 8 [0,1,2,3,4,5,6] [7] [0,3,5,62] ([0,1]) hX (by simp[ha,k];rfl) (jH (p:=fun X hX=>(jB (c:=Z1b) (a:=Qz) (k:=jf))) (k:=.nil)) (jh hX (by simp[ha,k];rfl)) ?_))
     refine jd (fun h12=> ?_) (fun h12=> ?_)
     ·try simp at h12
      refine Q15 (Le.absorb 0 0 18 Z7) ?_
      refine Q0 [4] (jh hX (by simp[ha,k,h12];rfl)) ?_
      refine Q5 (Qp (by simp[ha,k,h12];rfl) Z15 (.of_eq ?_) ?_)
      all_goals clear hX
      ·skip
       have e:Q2p F st lo tk=⟨10,st,lo⟩:=by
        rw[Q2p,if_neg h3,if_neg h5,if_neg h7,if_pos h11,if_neg Zb]
       rw[e]
      ·skip
       have e:Q2p F st lo tk=⟨10,st,lo⟩:=by
        rw[Q2p,if_neg h3,if_neg h5,if_neg h7,if_pos h11,if_neg Zb]
       rw[e]
       simp
     ·try simp at h12
      have hA:F.i.a<(lo.length:Int):=by omega
      have hAt:F.i.a.toNat<lo.length:=by omega
      refine Q0 [0,3,5,72] (js hX 4 Z54 (jm 3 76 [0,3,5,79] (p:=by intro b;(try simp at b);exact (js hX 1 Z8j (Q8.callB rfl Z3 rfl Z1 Z3e Q3e Z3 Z1 (jh hX Z8j)))) (q:=by intro b;(try simp at b);exact (jh hX Z8j)) (k:=(jh hX Z54)))) ?_
      refine jd (fun h14=> ?_) (fun h14=> ?_)
      ·try simp at h14
       refine Q15 (Le.absorb 0 0 18 Z7) ?_
       refine Q0 [4] (jh hX Z54) ?_
       refine Q5 (Qp Z54 Z15 (.of_eq ?_) ?_)
       all_goals clear hX
       ·skip
        first
        |(simp_all[Q2p,Qn];done)
        |(have hA:F.i.a<(lo.length:Int):=by omega
          have e:Q2p F st lo tk=⟨0,st,lo.set F.i.a.toNat (atL tk 0)⟩:=by rw[Q2p,if_neg h3,if_neg h5,if_neg h7,if_pos h11,if_pos hA,if_neg Z34]
          rw[e])
       ·skip
        first
        |(simp_all[Q2p,Qn];done)
        |(have hA:F.i.a<(lo.length:Int):=by omega
          have e:Q2p F st lo tk=⟨0,st,lo.set F.i.a.toNat (atL tk 0)⟩:=by rw[Q2p,if_neg h3,if_neg h5,if_neg h7,if_pos h11,if_pos hA,if_neg Z34]
          rw[e]
          simp[k])
      ·try simp at h14
       refine Q3 (Q1x (n:=10) (A:=[0,1,2,3,4,5,6,7,8,9]) (B:=[]) (L:=[0,1]) hmo Z24 tok hX Z54 .nil (jh hX Z54) ?_)
       refine Q15 (Le.absorb 0 0 18 Z7) ?_
       refine Q0 [4] (jh hX Z54) ?_
       refine Q5 (Qp Z54 Z15 (.of_eq ?_) ?_)
       all_goals clear hX
       ·skip
        first
        |(simp_all[Q2p,Qn];done)
        |(have hA:F.i.a<(lo.length:Int):=by omega
          have e:Q2p F st lo tk=⟨0,st,lo.set F.i.a.toNat (atL tk 0)⟩:=by rw[Q2p,if_neg h3,if_neg h5,if_neg h7,if_pos h11,if_pos hA,if_neg Z34]
          rw[e])
       ·skip
        first
        |(simp_all[Q2p,Qn];done)
        |(have hA:F.i.a<(lo.length:Int):=by omega
          have e:Q2p F st lo tk=⟨0,st,lo.set F.i.a.toNat (atL tk 0)⟩:=by rw[Q2p,if_neg h3,if_neg h5,if_neg h7,if_pos h11,if_pos hA,if_neg Z34]
          rw[e]
          simp[k])
    ·try simp at h11
     refine jq [0,5,11,91] ?_
     refine jd (fun h17=> ?_) (fun h17=> ?_)
     ·try simp at h17
      have k:=k6 h17
      refine jP 8 (Q17 [0,1,2,3,4,5,6] (.alt 7 .tail .stop)) [4] [0,1] hX (jPp [0,1,2,3,4,5,6] _ (by simp[k];try rfl) (jPa 7 2 (p:=fun X hX=>(jFz (k:=jf))) (k:=.tail) (kr:=.stop))) (jc [0] (c:=(by apply Q21 (ys:=[tk[0]'Zb,tk[0]'Zb])<;>exact Z0)) (a:=Q1k) (k:=(jh hX Z5e))) ?_
      refine Q5 (Qp Z5e Z15 (.of_eq ?_) ?_)
      all_goals clear hX
      ·skip
       first
       |(simp_all[Q2p,Qn];done)
       |(have hA:F.i.a<(lo.length:Int):=by omega
         have e:Q2p F st lo tk=⟨0,st,lo.set F.i.a.toNat (atL tk 0)⟩:=by rw[Q2p,if_neg h3,if_neg h5,if_neg h7,if_pos h11,if_pos hA,if_neg Z34]
         rw[e])
      ·skip
       first
       |(simp_all[Q2p,Qn];done)
       |(have hA:F.i.a<(lo.length:Int):=by omega
         have e:Q2p F st lo tk=⟨0,st,lo.set F.i.a.toNat (atL tk 0)⟩:=by rw[Q2p,if_neg h3,if_neg h5,if_neg h7,if_pos h11,if_pos hA,if_neg Z34]
         rw[e]
         simp[k])
     ·try simp at h17
      refine jq [0,5,11,102] ?_
      refine jd (fun h19=> ?_) (fun h19=> ?_)
      ·try simp at h19
       have k:=k7 h19
       have k0:0<tk.length:=by omega
       refine jP 8 (Q17 [0,1,2,3,4,5,6] (.alt 7 .tail .stop)) [4] [0,1] hX (jPp [0,1,2,3,4,5,6] _ (by simp[k,k0];try rfl) (jPa 7 2 (p:=fun X hX=>(jFz (k:=jf))) (k:=.tail) (kr:=.stop))) (jc [0] (c:=(by apply Q21 (ys:=[tk[1]'Zb,tk[0]'Zb])<;>exact Z0)) (a:=Q1k) (k:=(jh hX Zc4))) ?_
       refine Q5 (Qp Zc4 Z15 (.of_eq ?_) ?_)
       all_goals clear hX
       ·skip
        first
        |(simp_all[Q2p,Qn];done)
        |(have hA:F.i.a<(lo.length:Int):=by omega
          have e:Q2p F st lo tk=⟨0,st,lo.set F.i.a.toNat (atL tk 0)⟩:=by rw[Q2p,if_neg h3,if_neg h5,if_neg h7,if_pos h11,if_pos hA,if_neg Z34]
          rw[e])
       ·skip
        first
        |(simp_all[Q2p,Qn];done)
        |(have hA:F.i.a<(lo.length:Int):=by omega
          have e:Q2p F st lo tk=⟨0,st,lo.set F.i.a.toNat (atL tk 0)⟩:=by rw[Q2p,if_neg h3,if_neg h5,if_neg h7,if_pos h11,if_pos hA,if_neg Z34]
          rw[e]
          simp[k])
      ·try simp at h19
       refine jq [0,5,113] ?_
       refine jd (fun h21=> ?_) (fun h21=> ?_)
       ·try simp at h21
        have k:=k30 h21
        have k0:0<tk.length:=by omega
        refine jP 14 (Q17 [0,1,2,3,4,5,6,7,8,9,10,11,12] (.alt 13 .tail .stop)) [4] [0,1] hX (jPp [0,1,2,3,4,5,6,7,8,9,10,11,12] _ (by simp[k,k0];try rfl) (jPa 13 2 (p:=fun X hX=>(jFz (k:=jf))) (k:=.tail) (kr:=.stop))) (jc [0] (c:=(by apply Q21 (ys:=[tk[0]'Zb,tk[1]'Zb,tk[0]'Zb,tk[1]'Zb])<;>exact Z0)) (a:=Q1k) (k:=(jh hX Zc4))) ?_
        refine Q5 (Qp Zc4 Z15 (.of_eq ?_) ?_)
        all_goals clear hX
        ·skip
         first
         |(simp_all[Q2p,Qn];done)
         |(have hA:F.i.a<(lo.length:Int):=by omega
           have e:Q2p F st lo tk=⟨0,st,lo.set F.i.a.toNat (atL tk 0)⟩:=by rw[Q2p,if_neg h3,if_neg h5,if_neg h7,if_pos h11,if_pos hA,if_neg Z34]
           rw[e])
        ·skip
         first
         |(simp_all[Q2p,Qn];done)
         |(have hA:F.i.a<(lo.length:Int):=by omega
           have e:Q2p F st lo tk=⟨0,st,lo.set F.i.a.toNat (atL tk 0)⟩:=by rw[Q2p,if_neg h3,if_neg h5,if_neg h7,if_pos h11,if_pos hA,if_neg Z34]
           rw[e]
           simp[k])
       ·try simp at h21
        refine Q3 (jq [4] ?_)
        refine Q5 (Qp Z7 Z15 (.of_eq ?_) ?_)
        all_goals clear hX
        ·skip
         first
         |(simp_all[Q2p,Qn];done)
         |(have hA:F.i.a<(lo.length:Int):=by omega
           have e:Q2p F st lo tk=⟨0,st,lo.set F.i.a.toNat (atL tk 0)⟩:=by rw[Q2p,if_neg h3,if_neg h5,if_neg h7,if_pos h11,if_pos hA,if_neg Z34]
           rw[e])
        ·skip
         first
         |(simp_all[Q2p,Qn];done)
         |(have hA:F.i.a<(lo.length:Int):=by omega
           have e:Q2p F st lo tk=⟨0,st,lo.set F.i.a.toNat (atL tk 0)⟩:=by rw[Q2p,if_neg h3,if_neg h5,if_neg h7,if_pos h11,if_pos hA,if_neg Z34]
           rw[e]
           simp[k])
theorem Q3r:Q6 Tryz.prog 221:=jcb Tryz.func221
theorem Q3d:Q6 Tryz.prog 152:=jcb Tryz.func152
theorem Qmh:Q6 Tryz.prog 254:=jcb Tryz.func254
theorem Qlw{t:Typ}:Ct Tryz.prog 254 [eT t] [] (.bool (!decide (t.k=1))) []:=by
 refine jbS Tryz.func254 6 fun X hX=> ?_
 refine jq [1] ?_
 refine jq [2] ?_
 refine Q5 (je0 ?_)
 simp
theorem Q5l{l:List Typ}(hl:l.length≤1099511627776):Ct Tryz.prog 221 [.lst false 3 (l.map eT),.clo (.func 254) [] []] [] (.int .i64 (fix (fun t=> !decide (t.k=1)) l)) []:=by
 refine jbS Tryz.func221 19 fun X hX=> ?_
 refine jq [0,1] ?_
 refine Q4 (jq [0,1,7,8] ?_)
 refine Q7 (Qh (α:=Nat) [0,1,7,8] (fun i=>[(8,.int .i64 i)]) (fun i=>[]) (fun i=>i≤l.length∧ ∀x∈l.take i,(fun t=> !decide (t.k=1)) x=false) (fun i=>l.length-i) (0) (fun i=>by simp;rfl) Z3 ?_ ?_)
 ·simp
 rintro i ⟨hi,hI⟩
 refine jq [0,1,7,8,9] ?_
 refine Q4 (jd (fun h2=> ?_) (fun h2=> ?_))
 ·try simp at h2
  refine Q3 (Q4 (Q7 (jq [0,1,5,7,8] ?_)))
  refine Q0 [0,1,5,7,8,16] (js hX 5 Zw (jc [] (c:=(by apply Qlw<;>exact Z4b)) (a:=Qmh) (k:=jf))) ?_
  refine jd (fun h4=> ?_) (fun h4=> ?_)
  ·try simp at h4
   refine jq [4] ?_
   refine Q5 (je Zw ?_)
   rw[Q5y h2 hI Z4j]
  ·try simp at h4
   refine Q3 (Qb (jh hX Z9) ?_)
   refine Qo (i+1) [0,1,7,8] Z1x ?_ ?_
   ·exact ⟨by omega,Q7d h2 hI Z4j⟩
   ·omega
 ·try simp at h2
  refine Ql (jq [4] ?_)
  refine Q5 (je Zw ?_)
  rw[Q5h (p:=fun t=> !decide (t.k=1)) (fun x hx=>hI x Z41)]
theorem Q4s{l:List Typ}(hl:l.length≤1099511627776):Ct Tryz.prog 152 [.lst false 3 (l.map eT),.clo (.func 254) [] []] [] (.bool (l.any (fun t=> !decide (t.k=1)))) []:=by
 refine jbS Tryz.func152 9 fun X hX=> ?_
 refine jq [0,1] ?_
 refine Q0 [4] (jt 2 (k:=(jc [] (c:=(by apply Q5l<;>exact Z6)) (a:=Q3r) (k:=jr)))) ?_
 refine Q5 (je0 ?_)
 rw[←Qn1]
theorem Q4o:Q6 Tryz.prog 180:=jcb Tryz.func180
theorem Q64{l:List Typ}(hl:l.length≤1099511627776):Ct Tryz.prog 180 [.lst false 3 (l.map eT)] [] (.bool (Q2v l)) []:=by
 refine jbS Tryz.func180 6 fun X hX=> ?_
 refine jq [0] ?_
 refine Q0 [2] (jt 1 (k:=(jc [] (c:=(by apply Q4s<;>exact Z6)) (a:=Q3d) (k:=jr)))) ?_
 refine Q5 (je0 ?_)
 simp only[Q2v,Qp0,Bool.not_not]
theorem Q3m:Q6 Tryz.prog 159:=jcb Tryz.func159
theorem Q93{t:Typ}:Ct Tryz.prog 159 [eT t] [] (.bool (Q48 t)) []:=by
 refine jbS Tryz.func159 6 fun X hX=> ?_
 refine jq [1] ?_
 refine Q0 [2] (jt 2 (k:=(jc [] (c:=Z1s) (a:=Q2h) (k:=jr)))) ?_
 refine Q5 (je0 ?_)
 simp[Q48]
theorem Qhp:Q6 Tryz.prog 255:=jcb Tryz.func255
theorem Qhb{t:Typ}:Ct Tryz.prog 255 [eT t] [] (.bool (!Q48 t)) []:=by
 refine jbS Tryz.func255 6 fun X hX=> ?_
 refine jq [1] ?_
 refine Q0 [2] (jt 1 (k:=(jc [] (c:=Z3k) (a:=Q3m) (k:=jr)))) ?_
 refine Q5 (je0 ?_)
 simp
theorem Q5k{l:List Typ}(hl:l.length≤1099511627776):Ct Tryz.prog 221 [.lst false 3 (l.map eT),.clo (.func 255) [] []] [] (.int .i64 (fix (fun t=> !Q48 t) l)) []:=by
 refine jbS Tryz.func221 19 fun X hX=> ?_
 refine jq [0,1] ?_
 refine Q4 (jq [0,1,7,8] ?_)
 refine Q7 (Qh (α:=Nat) [0,1,7,8] (fun i=>[(8,.int .i64 i)]) (fun i=>[]) (fun i=>i≤l.length∧ ∀x∈l.take i,(fun t=> !Q48 t) x=false) (fun i=>l.length-i) (0) (fun i=>by simp;rfl) Z3 ?_ ?_)
 ·simp
 rintro i ⟨hi,hI⟩
 refine jq [0,1,7,8,9] ?_
 refine Q4 (jd (fun h2=> ?_) (fun h2=> ?_))
 ·try simp at h2
  refine Q3 (Q4 (Q7 (jq [0,1,5,7,8] ?_)))
  refine Q0 [0,1,5,7,8,16] (js hX 5 Zw (jc [] (c:=(by apply Qhb<;>exact Z4b)) (a:=Qhp) (k:=jf))) ?_
  refine jd (fun h4=> ?_) (fun h4=> ?_)
  ·try simp at h4
   refine jq [4] ?_
   refine Q5 (je Zw ?_)
   rw[Q5y h2 hI Z4j]
  ·try simp at h4
   refine Q3 (Qb (jh hX Z9) ?_)
   refine Qo (i+1) [0,1,7,8] Z1x ?_ ?_
   ·exact ⟨by omega,Q7d h2 hI Z4j⟩
   ·omega
 ·try simp at h2
  refine Ql (jq [4] ?_)
  refine Q5 (je Zw ?_)
  rw[Q5h (p:=fun t=> !Q48 t) (fun x hx=>hI x Z41)]
theorem Q4r{l:List Typ}(hl:l.length≤1099511627776):Ct Tryz.prog 152 [.lst false 3 (l.map eT),.clo (.func 255) [] []] [] (.bool (l.any (fun t=> !Q48 t))) []:=by
 refine jbS Tryz.func152 9 fun X hX=> ?_
 refine jq [0,1] ?_
 refine Q0 [4] (jt 2 (k:=(jc [] (c:=(by apply Q5k<;>exact Z6)) (a:=Q3r) (k:=jr)))) ?_
 refine Q5 (je0 ?_)
 rw[←Qn1]
theorem Qbg:Q6 Tryz.prog 182:=jcb Tryz.func182
theorem Qb9{l:List Typ}(hl:l.length≤1099511627776):Ct Tryz.prog 182 [.lst false 3 (l.map eT)] [] (.bool (Qee l)) []:=by
 refine jbS Tryz.func182 6 fun X hX=> ?_
 refine jq [0] ?_
 refine Q0 [2] (jt 1 (k:=(jc [] (c:=(by apply Q4r<;>exact Z6)) (a:=Q3d) (k:=jr)))) ?_
 refine Q5 (je0 ?_)
 simp only[Qee,Qp0,Bool.not_not]
theorem Q3y:Q6 Tryz.prog 149:=jcb Tryz.func149
theorem Qh5{c:Str}:Ct Tryz.prog 149 [.str c] [] (eT ⟨3,c,0⟩) []:=by
 refine jbS Tryz.func149 5 fun X hX=> ?_
 refine jq [0,2] ?_
 refine jq [2] ?_
 refine Q5 (je0 ?_)
 simp
theorem Q7a:Q6 Tryz.prog 160:=jcb Tryz.func160
theorem Qad{l:List Cls}{a b:Str}(hl:l.length≤1048576):Ct Tryz.prog 160 [wv l,.str a,.str b] [] (.bool (isKnown l b&&out (Qq l a) b)) []:=by
 have hcl:=Q6z l a
 refine jbS Tryz.func160 17 fun X hX=> ?_
 refine jq [0,1,2] ?_
 refine Q0 [6] (jt 2 (k:=(jc [] (c:=Z3n) (a:=Q1z) (k:=(jt 1 (k:=(jm 6 10 [16] (p:=by intro b;(try simp at b);exact (js hX 2 Z1 (Q8.callF rfl Z3 rfl Z1 Z7a Q2n Z8w (js hX 1 Z1 (Q8.callB rfl Z3 rfl Z1 Z6p Q29 Z3 Z1 (jh hX Z1)))))) (q:=Zcb) (k:=jr)))))))) ?_
 refine Q5 (je0 ?_)
 simp[out]
theorem Q9w:Q6 Tryz.prog 95:=jcb Tryz.func95
theorem Q9s{l:List Cls}(hl:l.length≤1048576){a b:Typ}:Ct Tryz.prog 95 [wv l,eT a,eT b] [] (.bool (leI l a b)) []:=by
 refine jbS Tryz.func95 60 fun X hX=> ?_
 refine jq [0,4,5] ?_
 refine Q4 (Q7 (Q0 [0,4,5,7] (jt 4 (k:=(jm 4 11 [0,4,5,15] (p:=Zcb) (q:=Zcb) (k:=jr)))) ?_))
 refine jd (fun h1=> ?_) (fun h1=> ?_)
 ·try simp at h1
  refine jq [6] ?_
  refine Q5 (je0 ?_)
  cases a;cases b;simp only[leI,Q48,Q7z,Qt] at*
  (try simp_all)<;>grind
 ·try simp at h1
  refine jq [0,4,5,16] ?_
  refine jd (fun h3=> ?_) (fun h3=> ?_)
  ·try simp at h3
   refine Q0 [6] (jt 1 (k:=(jc [] (c:=Z3k) (a:=Q3m) (k:=jr)))) ?_
   refine Q5 (je0 ?_)
   cases a;cases b;simp only[leI,Q48,Q7z,Qt] at*
   (try simp_all)<;>grind
  ·try simp at h3
   refine Q0 [0,4,5,22] (jt 4 (k:=(jm 4 26 [0,4,5,30] (p:=Zcb) (q:=Zcb) (k:=(jt 1 (k:=(jm 9 31 [0,4,5,40] (p:=Zcb) (q:=by intro b;(try simp at b);exact (js hX 4 Z1 (jm 4 35 [0,4,5,31,39] (p:=Zcb) (q:=Zcb) (k:=(jh hX Z1))))) (k:=jr)))))))) ?_
   refine jd (fun h5=> ?_) (fun h5=> ?_)
   ·try simp at h5
    refine Q0 [6] (jt 5 (k:=(jc [] (c:=Z7b) (a:=Q7a) (k:=jr)))) ?_
    refine Q5 (je0 ?_)
    cases a;cases b;simp only[leI,Q48,Q7z,Qt] at*
    (try simp_all)<;>grind
   ·try simp at h5
    refine Q3 (jD [6] (jS 4 Z7 (jM 4 50 [5,54] (p:=Zcj) (q:=Zcj) (k:=(jS 1 Z7 (jM 4 55 [59] (p:=by intro b;(try simp at b);exact (jS 1 Z1 (jC (c:=Z45) (a:=Q3y) (k:=(jQ Z1))))) (q:=Zcj) (k:=(jQ Z7))))))) ?_)
    refine Q5 (je0 ?_)
    cases a;cases b;simp only[leI,Q48,Q7z,Qt] at*
    (try simp_all)<;>grind
theorem Qw:Q6 Tryz.prog 256:=jcb Tryz.func256
theorem Qha{F:SF}{x y z:V}(hl:F.l.length≤1048576){t:Typ}{c:Str}:Ct Tryz.prog 256 [pFl F x y z,eT t,.str c] [] (.bool (leI F.l t (Q11 c))) []:=by
 refine jbS Tryz.func256 15 fun X hX=> ?_
 refine jq [0,2,4] ?_
 refine jD [6] (jS 6 Z7 (jC (c:=Z2u) (a:=Q3y) (k:=(jC (c:=by apply (Q9s (b:=⟨3,c,0⟩))<;>exact Z0) (a:=Q9w) (k:=(jQ Z7)))))) ?_
 refine Q5 (je0 ?_)
 simp[Q11]
theorem Q85:Q6 Tryz.prog 295:=jcb Tryz.func295
theorem Q82{s p:Str}:Ct Tryz.prog 295 [.str s,.str p] [] (.bool (decide (p.length≤s.length)&&decide (s.take p.length=p))) []:=by
 refine jbS Tryz.func295 18 fun X hX=> ?_
 refine jq [0,1] ?_
 refine Q0 [4] (jt 6 (k:=(jm 7 10 [17] (p:=fun b1_6=>by (try simp at b1_6);exact (jh hX (by simp[-Qr,-Qa,b1_6];rfl))) (q:=fun b1_6=>by (try simp at b1_6);exact (jh hX (by simp[-Qr,-Qa,b1_6];rfl))) (k:=jr)))) ?_
 refine Q5 (je0 ?_)
 simp
theorem Qhi:Q6 Tryz.prog 232:=jcb Tryz.func232
theorem Qgx{s p:Str}:Ct Tryz.prog 232 [.str s,.str p] [] (.bool (decide (p.length≤s.length)&&decide (s.take p.length=p))) []:=by
 refine jbS Tryz.func232 8 fun X hX=> ?_
 refine jq [0,1] ?_
 refine Q0 [4] (jt 2 (k:=(jc [] (c:=(by apply Q82<;>exact Z6)) (a:=Q85) (k:=jr)))) ?_
 refine Q5 (je0 ?_)
 simp
theorem Q4g:Q6 Tryz.prog 163:=jcb Tryz.func163
theorem Qdl{t:Str}(ht:t.length≤1099511627776):Ct Tryz.prog 163 [.str t] [] (eT (Q1o t)) []:=by
 refine jbS Tryz.func163 25 fun X hX=> ?_
 refine jq [0,2] ?_
 refine Q4 (Q7 (Q0 [0,2,3] (jt 1 (k:=(jc [] (c:=Z3r) (a:=Q4v) (k:=jr)))) ?_))
 refine jd (fun h1=> ?_) (fun h1=> ?_)
 ·try simp at h1
  refine jq [2] ?_
  refine Q5 (je0 ?_)
  simp[Q1o,h1,zT]
 ·try simp at h1
  refine jq [0,2,8] ?_
  refine jd (fun h3=> ?_) (fun h3=> ?_)
  ·try simp at h3
   refine Q0 [2] (jc [] (c:=Z5i) (a:=Q38) (k:=jr)) ?_
   refine Q5 (je0 ?_)
   rw[h3];simp[Q1o,Qz4]
  ·try simp at h3
   refine jq [0,2,12] ?_
   refine jd (fun h5=> ?_) (fun h5=> ?_)
   ·try simp at h5
    refine Q0 [2] (jc [] (c:=Z5i) (a:=Q38) (k:=jr)) ?_
    refine Q5 (je0 ?_)
    rw[h5];simp[Q1o,Qz5]
   ·try simp at h5
    refine Q0 [0,2,16] (jt 1 (k:=(jc [] (c:=(by apply Qgx<;>exact Z6)) (a:=Qhi) (k:=jr)))) ?_
    refine jd (fun h7=> ?_) (fun h7=> ?_)
    ·try simp at h7
     refine Q0 [2] (jt 1 (k:=(jc [] (c:=Z52) (a:=Q6c) (k:=jr)))) ?_
     refine Q5 (je0 ?_)
     rw[Q1o,if_pos h1,if_neg h3,if_neg h5,if_pos (Q15m.1 h7)];rfl
    ·try simp at h7
     refine Q3 (Q0 [2] (jt 1 (k:=(jc [] (c:=Z52) (a:=Q6c) (k:=(jc [] (c:=Z45) (a:=Q3y) (k:=jr)))))) ?_)
     refine Q5 (je0 ?_)
     rw[Q1o,if_pos h1,if_neg h3,if_neg h5,if_neg (fun e=>absurd (Q15m.2 e) (fun e2=>h7 e2.1 e2.2))];rfl
theorem Q8s:Q6 Tryz.prog 257:=jcb Tryz.func257
theorem Qlr{F:SF}{x y z:V}(hl:F.l.length≤1048576){t:Typ}{of:Str}(ho:of.length≤1099511627776):Ct Tryz.prog 257 [pFl F x y z,eT t,.str of] [] (.bool (leI F.l t (Q1o of))) []:=by
 refine jbS Tryz.func257 15 fun X hX=> ?_
 refine jq [0,2,4] ?_
 refine jD [6] (jS 6 Z7 (jC (c:=Z5a) (a:=Q4g) (k:=(jC (c:=by apply Q9s<;>exact Z0) (a:=Q9w) (k:=(jQ Z7)))))) ?_
 refine Q5 (je0 ?_)
 simp
theorem Qoc:Q6 Tryz.prog 183:=jcb Tryz.func183
theorem Qnq{F:SF}{x:V}{st lo tk:List Typ}(hl:F.l.length≤1048576)(ht:tk.length≤1000)(hs2:lo.length≤1000)(hd:F.m.desc.length≤1099511627776)(k1: ¬F.i.op=26→0<tk.length):Ct Tryz.prog 183 [pFl F x (.lst false 3 (lo.map eT)) (.lst false 3 (tk.map eT)),eI F.i] [] (.int .i64 (Qfb F lo tk)) []:=by
 have hdl:=Nat.le_trans (Q6l F.m.desc).1 hd
 refine jbS Tryz.func183 86 fun X hX=> ?_
 refine jq [0,3] ?_
 refine Q0 [0,3,5] (jt 5 (k:=(jF (c:=Z27) (a:=Q1v) (k:=jr)))) ?_
 refine Q4 (jq [0,5,15] ?_)
 refine Q7 (jq [0,5,15,16] ?_)
 refine jd (fun h3=> ?_) (fun h3=> ?_)
 ·try simp at h3
  have k:=k1 Zb
  refine Q0 [4] (js hX 7 Z5e (jB (c:=Zt) (a:=Qw) (k:=(jc [] (c:=Z1k) (a:=Q1d) (k:=(jh hX Z5e)))))) ?_
  refine Q5 (je Z5e ?_)
  first|(simp_all[Qfb,cu,Qn,Q11,Q16];done)|(simp_all[Qfb,cu,Qn,Q11,Q16]<;>exact Z9i)
 ·try simp at h3
  refine jq [0,5,15,27] ?_
  refine jd (fun h5=> ?_) (fun h5=> ?_)
  ·try simp at h5
   refine Q4 (jq [0,30] ?_)
   refine jd (fun h6=> ?_) (fun h6=> ?_)
   ·try simp at h6
    refine jq [4] ?_
    refine Q5 (je0 ?_)
    first|(simp_all[Qfb,cu,Qn,Q11,Q16];done)|(simp_all[Qfb,cu,Qn,Q11,Q16]<;>exact Z9i)
   ·try simp at h6
    refine Q3 ?_
    by_cases hn:F.m.name=[60,105,110,105,116,62]
    all_goals by_cases h0:0<lo.length
    all_goals first|have en:(F.m.name=[60,105,110,105,116,62])=(true=true):=by simp[hn]|have en:(F.m.name=[60,105,110,105,116,62])=(false=true):=by simp[hn]
    all_goals clear hn
    all_goals
     first|(refine jD [4] (jS 1 Z67 (jC (c:=Z3e) (a:=Q3e) (k:=(jS 26 Z67 (jC (c:=Z1k) (a:=Q1d) (k:=(jQ Z67))))))) ?_)|(refine jD [4] (jS 1 Z67 (jC (c:=Z3e) (a:=Q3e) (k:=(jS 22 Z67 (jC (c:=Z2u) (a:=Q3y) (k:=(jS 3 Z67 (jC (c:=Z1k) (a:=Q1d) (k:=(jQ Z67)))))))))) ?_)|(refine jD [4] (jS 1 Z67 (jC (c:=Z3e) (a:=Q3e) (k:=(jS 26 Z67 (jC (c:=Z1k) (a:=Q1d) (k:=(jQ Z67))))))) ?_)
     refine Q5 (je Z67 ?_)
     first|(simp_all[Qfb,cu,Qn,Q11,Q16];done)|(simp_all[Qfb,cu,Qn,Q11,Q16]<;>exact Z9i)
  ·try simp at h5
   refine jq [0,5,60] ?_
   refine jd (fun h9=> ?_) (fun h9=> ?_)
   ·try simp at h9
    have k:=k1 Zb
    refine Q4 (Q0 [0,63] (jh hX Z5e) ?_)
    refine jd (fun h10=> ?_) (fun h10=> ?_)
    ·try simp at h10
     refine Q0 [4] (jh hX Z5e) ?_
     refine Q5 (je Z5e ?_)
     first|(simp_all[Qfb,cu,Qn,Q11,Q16];done)|(simp_all[Qfb,cu,Qn,Q11,Q16]<;>exact Z9i)
    ·try simp at h10
     refine Q3 (Q0 [4] (js hX 4 Z5e (jc [] (c:=(by apply Q64<;>exact Z0)) (a:=Q4o) (k:=(jc [] (c:=Z1k) (a:=Q1d) (k:=(jh hX Z5e)))))) ?_)
     refine Q5 (je Z5e ?_)
     first|(simp_all[Qfb,cu,Qn,Q11,Q16];done)|(simp_all[Qfb,cu,Qn,Q11,Q16]<;>exact Z9i)
   ·try simp at h9
    have k:=k1 Zb
    refine Q3 (Q4 (Q0 [0,5,75] (js hX 3 Z5e (jm 3 72 [0,5,75] (p:=Z8k) (q:=Z8k) (k:=jf))) ?_))
    refine jd (fun h13=> ?_) (fun h13=> ?_)
    ·try simp at h13
     refine Q0 [4] (jh hX Z5e) ?_
     refine Q5 (je Z5e ?_)
     first|(simp_all[Qfb,cu,Qn,Q11,Q16];done)|(simp_all[Qfb,cu,Qn,Q11,Q16]<;>exact Z9i)
    ·try simp at h13
     refine Q3 (Q0 [4] (js hX 8 Z5e (jB (c:=Z57) (a:=Q8s) (k:=(jc [] (c:=Z1k) (a:=Q1d) (k:=(jh hX Z5e)))))) ?_)
     refine Q5 (je Z5e ?_)
     first|(simp_all[Qfb,cu,Qn,Q11,Q16];done)|(simp_all[Qfb,cu,Qn,Q11,Q16]<;>exact Z9i)
theorem Q7k:Q6 Tryz.prog 302:=jcb Tryz.func302
theorem Q7i{l:List Typ}{t:Typ}(hl:l.length≤1099511627776):Ct Tryz.prog 302 [.lst false 3 (l.map eT),eT t] [] (.int .i64 (fix (fun x=>decide (t=x)) l)) []:=by
 refine jbS Tryz.func302 19 fun X hX=> ?_
 refine jq [0,3] ?_
 refine Q4 (jq [0,3,7,8] ?_)
 refine Q7 (Qh (α:=Nat) [0,3,7,8] (fun i=>[(8,.int .i64 i)]) (fun i=>[]) (fun i=>i≤l.length∧ ∀x∈l.take i,(fun x=>decide (t=x)) x=false) (fun i=>l.length-i) (0) (fun i=>by simp;rfl) Z3 ?_ ?_)
 ·simp
 rintro i ⟨hi,hI⟩
 refine jq [0,3,7,8,9] ?_
 refine Q4 (jd (fun h2=> ?_) (fun h2=> ?_))
 ·try simp at h2
  refine Q3 (Q4 (Q7 (jq [0,3,5,7,8] ?_)))
  refine jL 5 [0,1,2,3,4] [] [0,3,5,7,8,16] ([0]) hX Zw .nil jr ?_
  refine jd (fun h4=> ?_) (fun h4=> ?_)
  ·try simp at h4
   refine jq [4] ?_
   refine Q5 (je Zw ?_)
   rw[Q5y h2 hI (decide_eq_true (Q87.2 (by simp_all)))]
  ·try simp at h4
   refine Q3 (Qb (jh hX Z9) ?_)
   refine Qo (i+1) [0,3,7,8] Z1x ?_ ?_
   ·exact ⟨by omega,Q7d h2 hI (decide_eq_false (fun e=>by have:=Q87.1 e;simp_all))⟩
   ·omega
 ·try simp at h2
  refine Ql (jq [4] ?_)
  refine Q5 (je Zw ?_)
  rw[Q5h (p:=fun x=>decide (t=x)) (fun x hx=>hI x Z41)]
theorem Q6n:Q6 Tryz.prog 259:=jcb Tryz.func259
theorem Q6m{l:List Typ}{t:Typ}(hl:l.length≤1099511627776):Ct Tryz.prog 259 [.lst false 3 (l.map eT),eT t] [] (.bool (l.any (fun x=>decide (t=x)))) []:=by
 refine jbS Tryz.func259 9 fun X hX=> ?_
 refine jq [0,3] ?_
 refine Q0 [4] (jt 2 (k:=(jc [] (c:=(by apply Q7i<;>exact Z6)) (a:=Q7k) (k:=jr)))) ?_
 refine Q5 (je0 ?_)
 rw[←Qn1]
theorem Q8r:Q6 Tryz.prog 260:=jcb Tryz.func260
theorem Q8j{F:SF}{st lo tk:List Typ}{a b:Typ}(hs:st.length≤1000)(hs2:lo.length≤1000):Ct Tryz.prog 260 [.ptr 0 0 0,eT a,eT b] [some (20,[oFl F st lo tk])] (.tup []) [some (20,[oFl F (st.map (swT a b)) (lo.map (swT a b)) tk])]:=by
 refine jbS Tryz.func260 42 fun X hX=> ?_
 refine jq [0,4,5] ?_
 refine Q15 (Le.expose 0 0 17 Z1g) ?_
 refine Q15 (Le.expose 0 0 18 Z1g) ?_
 refine jZ (Q17 [0,1,2,3,4,5,6,7,8,9,12] (.alt 10 (Q17 [11] .tail) .stop)) [4,5,20,21,22] [0] hX (jPp [0,1,2,3,4,5,6,7,8,9,12] _ Zax (jPa 10 5 (p:=fun X hX=>jr) (k:=(jPp [11] _ Zax .tail)) (kr:=.stop))) ?_
 refine Q7 (Qh (α:=Nat) [4,5,20,21,22] (fun i=>[(22,.int .i64 (i:Nat))]) (fun i=>[(3,some (3,(if 0<i then st.map (swT a b) else st).map eT)),(4,some (3,(if 1<i then lo.map (swT a b) else lo).map eT))]) (fun i=>i≤2) (fun i=>2-i) (0) (fun i=>by simp;rfl) Z3 ?_ ?_)
 ·simp
 rintro i hi
 have hi3:(i=0∧ ∃xs,xs=st)∨(i=1∧ ∃xs,xs=lo)∨(i=2∧ ∃xs:List Typ,xs=[]):=by
  rcases (by omega:i=0∨i=1∨i=2) with h|h|h
  ·exact .inl ⟨h,_,rfl⟩
  ·exact .inr (.inl ⟨h,_,rfl⟩)
  ·exact .inr (.inr ⟨h,_,rfl⟩)
 rcases hi3 with ⟨rfl,xs,hxs⟩|⟨rfl,xs,hxs⟩|⟨rfl,xs,hxs⟩
 all_goals have hxl:xs.length≤1000:=by rw[hxs];first|assumption|simp
 all_goals first|have hxe:xs.length=st.length:=by rw[hxs]|have hxe:xs.length=lo.length:=by rw[hxs]|have hxe:=trivial
 all_goals first|have hxg: ∀(i:Nat) (h:i<xs.length) (h2:i<st.length),xs[i]=st[i]:=by subst hxs;exact fun _ _ _=>rfl|have hxg: ∀(i:Nat) (h:i<xs.length) (h2:i<lo.length),xs[i]=lo[i]:=by subst hxs;exact fun _ _ _=>rfl|have hxg:=trivial
 all_goals obtain ⟨ws,hws⟩: ∃ws,ws=xs.map (swT a b):=⟨_,rfl⟩
 all_goals have wsl:ws.length=xs.length:=by rw[hws];simp
 all_goals have wsg: ∀i (h:i<xs.length) (h2:i<ws.length),ws[i]=swT a b xs[i]:=by subst hws;simp
 all_goals
  refine jq [4,5,20,21,22,23] ?_
  refine Q4 (jd (fun h2=> ?_) (fun h2=> ?_))
  ·try simp at h2
   all_goals
    refine Q3 (Q4 (Q7 (Q0 [4,5,7,20,21,22] (jh hX Zw) ?_)))
    refine Q0 [4,5,7,20,21,22,26,27,28] (jh hX Zw) ?_
    refine Q7 ?_
    first
    |refine Qh (α:=Nat) [4,5,7,20,21,22,26,27,28] (fun j=>[(28,.int .i64 (j:Nat))]) (fun j=>[(3,some (3,(ws.map eT).take j++(xs.map eT).drop j))]) (fun j=>j≤xs.length) (fun j=>xs.length-j) (0) (fun j=>by simp;rfl) (by first|(simp[hxs];done)|fail) ?_ ?_
    |refine Qh (α:=Nat) [4,5,7,20,21,22,26,27,28] (fun j=>[(28,.int .i64 (j:Nat))]) (fun j=>[(4,some (3,(ws.map eT).take j++(xs.map eT).drop j))]) (fun j=>j≤xs.length) (fun j=>xs.length-j) (0) (fun j=>by simp;rfl) (by first|(simp[hxs];done)|fail) ?_ ?_
    ·simp
    rintro j hj
    refine Q0 [4,5,7,20,21,22,26,27,28,29] (jh hX Zw) ?_
    refine Q4 (jd (fun h5=> ?_) (fun h5=> ?_))
    ·try simp at h5
     have h5x:j<xs.length:=by omega
     rw[List.drop_eq_getElem_cons (show j<(xs.map eT).length by simpa using h5x),List.getElem_map]
     obtain ⟨Z,hZ⟩: ∃Z,Z=(xs.map eT).drop (j+1):=⟨_,rfl⟩
     rw[←hZ]
     obtain ⟨Y,hY⟩: ∃Y,Y=(ws.map eT).take j:=⟨_,rfl⟩
     rw[←hY]
     have h5w:j<ws.length:=by omega
     have hYl:Y.length=j:=by rw[hY,List.length_take,List.length_map];omega
     have hYZ: ∀x,j<(Y++x::Z).length:=fun x=>by simp[hYl]
     have m1:=fun x=>midG hYl x Z
     have m2:=fun x y=>midS hYl x y Z
     have m3:=fun p x=>Qy7 (p:=p) (x:=x) (Y:=Y) (Z:=Z) (by rw[hY,←List.map_take];exact jkL_eT p _) (by rw[hZ,←List.map_drop];exact jkL_eT p _)
     have hnext:(ws.map eT).take (j+1)++(xs.map eT).drop (j+1)=Y++eT ws[j]::Z:=by
      rw[List.take_succ_eq_append_getElem (by simpa using h5w),List.getElem_map,←hZ,←hY]
      simp
     refine Q3 (Q4 (Q7 (Q0 [4,5,7,8,9,20,21,22,26,27,28] (jh hX (by simp[h2,h5,m1,m2,hYl,hYZ,h5x];rfl)) ?_)))
     refine Q0 [4,5,7,8,20,21,22,26,27,28,35] (jh hX (by simp[h2,h5,m1,m2,hYl,hYZ,h5x];rfl)) ?_
     refine jd (fun h7=> ?_) (fun h7=> ?_)
     ·try simp at h7
      have hv:ws[j]=b:=by
       rw[wsg j h5x h5w]
       have e:xs[j]=a:=by
        exact Q87.2 h7
       rw[e,swT,if_pos rfl]
      refine Qb (jh hX (by simp[h2,h5,m1,m2,hYl,hYZ,h5x,hv];rfl)) ?_
      refine Qb (jh hX Z4l) ?_
      refine Qm (j+1) [4,5,7,20,21,22,26,27,28] 6 Z1r Z3 Z8m ?_ ?_
      ·omega
      ·omega
     ·try simp at h7
      have hv:ws[j]=xs[j]:=by
       rw[wsg j h5x h5w]
       have e: ¬xs[j]=a:=fun e=>by have:=Q87.1 e;exact absurd this.2.2 (h7 this.1 this.2.1)
       rw[swT,if_neg e]
      refine Q3 (Qb (jh hX Z4l) ?_)
      refine Qm (j+1) [4,5,7,20,21,22,26,27,28] 6 Z1r Z3 Z8m ?_ ?_
      ·omega
      ·omega
    ·try simp at h5
     obtain rfl:j=xs.length:=by omega
     rw[List.take_of_length_le (show (ws.map eT).length≤xs.length by rw[List.length_map];omega),List.drop_eq_nil_of_le Z3,List.append_nil]
     refine Ql (Qb (jh hX Z7e) ?_)
     first
     |(refine Qm (1) [4,5,20,21,22] 6 Z1r Z3 Z7s ?_ ?_<;>omega)
     |(refine Qm (2) [4,5,20,21,22] 6 Z1r Z3 Z7s ?_ ?_<;>omega)
  ·try simp at h2
   all_goals
    refine Q15 (Le.absorb 0 0 17 Z7) ?_
    refine Q15 (Le.absorb 0 0 18 Z7) ?_
    refine Ql (Qk Zw Z15 (.of_eq ?_) ?_)
    all_goals clear hX
    ·rfl
    ·simp
theorem Qke:Q6 Tryz.prog 184:=jcb Tryz.func184
theorem Qk1{F:SF}{st lo tk:List Typ}(hs:st.length≤1000)(hs2:lo.length≤1000)(ht:tk.length≤1000)(hl:F.l.length≤1048576)(hc:F.i.cls.length≤1099511627776):Ct Tryz.prog 184 [.ptr 0 0 0,eI F.i] [some (20,[oFl F st lo tk])] (.int .i64 (Qik F st lo).k) [some (20,[oFl F ((Qik F st lo).st) ((Qik F st lo).lo) tk])]:=by
 refine jbS Tryz.func184 53 fun X hX=> ?_
 refine jq [0,3] ?_
 refine jT 12 (Q17 [0,1,2,3,4,5] (.alt 6 (Q17 [7,8,9] (.alt 10 (.alt 11 .tail .stop) .stop)) (.alt 10 (.alt 6 (Q17 [7,8,9] (.alt 11 .tail .stop)) .stop) .stop))) [0,3,5] [0,1] hX (jTp [0,1,2,3,4,5] _ Zax (jTa 6 (p:=fun X hX=>(jF (c:=Z7c) (a:=Q26) (k:=jf))) (k:=(jTp [7,8,9] _ Zax (jTa 10 (p:=fun X hX=>jr) (k:=(jTa 11 (p:=fun X hX=>jr) (k:=.tail) (kr:=.stop))) (kr:=.stop)))) (kr:=(jTa 10 (p:=fun X hX=>jr) (k:=(jTa 6 (p:=fun X hX=>(jF (c:=Z7c) (a:=Q26) (k:=jf))) (k:=(jTp [7,8,9] _ Zax (jTa 11 (p:=fun X hX=>jr) (k:=.tail) (kr:=.stop)))) (kr:=.stop))) (kr:=.stop))))) jr ?_
 refine jL 8 [0,1,2,3,4,5,6] [7] [0,3,5,7] ([0,1]) hX Z7 (jH (p:=fun X hX=>jr) (k:=.nil)) jr ?_
 refine Q4 (Q7 (jL 6 [0,1,2,3,4,5] [] [0,5,7,25] ([0,1]) hX Z7 .nil (jc [] (c:=Z2e) (a:=Q1z) (k:=jr)) ?_))
 refine jd (fun h3=> ?_) (fun h3=> ?_)
 ·try simp at h3
  refine jq [4] ?_
  refine Q5 (Qp Z7 Z15 (.of_eq ?_) ?_)
  all_goals clear hX
  ·simp_all[Qik,Q9o]
  ·simp_all[Qik,Q9o]
 ·try simp at h3
  refine jq [0,7,34] ?_
  refine jd (fun h5=> ?_) (fun h5=> ?_)
  ·try simp at h5
   refine jq [4] ?_
   refine Q5 (Qp Z7 Z15 (.of_eq ?_) ?_)
   all_goals clear hX
   ·simp_all[Qik,Q9o]
   ·simp_all[Qik,Q9o]
  ·try simp at h5
   refine Q15 (Le.expose 0 0 17 Z1g) ?_
   refine jL 6 [0,1,2,3,4,5] [] [0,7,37] ([0,1,2,3]) hX Z7 .nil (jB (c:=(by apply (Q6m (t:=Q9o F))<;>exact Z0)) (a:=Q6n) (k:=jr)) ?_
   refine jd (fun h7=> ?_) (fun h7=> ?_)
   ·try simp at h7
    refine Q15 (Le.absorb 0 0 17 Z7) ?_
    refine jq [4] ?_
    refine Q5 (Qp Z7 Z15 (.of_eq ?_) ?_)
    all_goals clear hX
    ·rw[Qik,if_pos h3,if_neg (by simp[h5]),if_pos (List.any_eq_true.2 ⟨_,h7,decide_eq_true rfl⟩)]
    ·skip
     rw[Qik,if_pos h3,if_neg (by simp[h5]),if_pos (List.any_eq_true.2 ⟨_,h7,decide_eq_true rfl⟩)]
     simp
   ·try simp at h7
    refine Q15 (Le.absorb 0 0 17 Z7) ?_
    refine Q3 (Q0 [0,7] (jt 3 (k:=(jc [0] (c:=(by apply (Q8j (a:=Q9o F) (b:=zT))<;>exact Z0)) (a:=Q8r) (k:=jf)))) ?_)
    refine Q0 [4] (jt 2 (k:=(jFz (k:=(jc [0] (c:=(by simp only[←List.map_map];apply Q21 (ys:=[Q9o F])<;>exact Z0)) (a:=Q1k) (k:=jr)))))) ?_
    refine Q5 (Qp Z7 Z15 (.of_eq ?_) ?_)
    all_goals clear hX
    ·rw[Qik,if_pos h3,if_neg (by simp[h5]),if_neg (fun e=>by obtain ⟨x,hx,e2⟩:=List.any_eq_true.1 e;exact h7 x hx (of_decide_eq_true e2))]
    ·skip
     rw[Qik,if_pos h3,if_neg (by simp[h5]),if_neg (fun e=>by obtain ⟨x,hx,e2⟩:=List.any_eq_true.1 e;exact h7 x hx (of_decide_eq_true e2))]
     simp[Q9o]
theorem Qjf:Q6 Tryz.prog 321:=jcb Tryz.func321
theorem Qt7{b:Bool}:Ct Tryz.prog 321 [.lst false 1 [.bool b]] [] (.int .i64 (b.toNat:Int)) []:=by
 refine jbS Tryz.func321 20 fun X hX=> ?_
 refine jq [0] ?_
 refine jq [0,3] ?_
 refine Q4 (jq [3,6,7,8] ?_)
 refine Q7 (Qh (α:=Nat) [3,6,7,8] (fun i=>[(3,.int .i64 (if i=0 then 0 else (b.toNat:Int))),(8,.int .i64 i)]) (fun i=>[]) (fun i=>i≤1) (fun i=>1-i) (0) (fun i=>by simp;rfl) Z3 ?_ ?_)
 ·simp
 rintro i hI
 refine jq [3,6,7,8,9] ?_
 refine Q4 (jd (fun h3=> ?_) (fun h3=> ?_))
 ·try simp at h3
  obtain rfl:i=0:=by omega
  refine Q3 (Q4 (Q7 (Q0 [3,4,5,6,7,8] (jh hX Z3i) ?_)))
  refine Q0 [3,4,6,7,8,13] (jh hX Z3i) ?_
  refine jd (fun h5=> ?_) (fun h5=> ?_)
  ·try simp at h5
   refine Qb (jh hX Z3i) ?_
   refine Qb (jh hX Z8c) ?_
   refine Qo (1) [3,6,7,8] (by simp[h5];try rfl) ?_ ?_
   ·exact Nat.le_refl _
   ·omega
  ·try simp at h5
   refine Q3 (Qb (jh hX Z8c) ?_)
   refine Qo (1) [3,6,7,8] (by simp[h5];try rfl) ?_ ?_
   ·exact Nat.le_refl _
   ·omega
 ·try simp at h3
  obtain rfl:i=1:=by omega
  refine Ql (Q0 [2] (jh hX Z3i) ?_)
  refine Q5 (je Z3i ?_)
  simp_all
theorem Qdw:Q6 Tryz.prog 322:=jcb Tryz.func322
theorem Qdm{l:List Fld}:Ct Tryz.prog 322 [.lst false 3 (l.map eF)] [] (.int .i64 l.length) []:=by
 refine jbS Tryz.func322 5 fun X hX=> ?_
 refine jq [0] ?_
 refine jq [2] ?_
 refine Q5 (je0 ?_)
 simp
theorem Qev:Q6 Tryz.prog 323:=jcb Tryz.func323
theorem Qeo{l:List Cls}(hl:l.length≤1000)(hs:Q1w l≤1048576){n:Str}:Ct Tryz.prog 323 [wv l,.str n] [] (.lst true 3 ((Q8d l n).map eF)) []:=by
 have hcl:=Q6z l n
 refine Q11l tok Tryz.func323 rfl 41 Z24 Z24 fun X hX=> ?_
 refine Qxo [1,2,18] jr ?_
 refine Qxo [1,2,5,18] jr ?_
 refine Q13v (q:=7) (xs:=Qq l n) (fo:=fun k=>[some (1,[wv l]),none,some (1,[.arr 3 0 (Qf9 l (Qq l n) k).length]),some (3,(Qf9 l (Qq l n) k).map eF)]) 3 tok (jt 2 (k:=(jF (c:=Za9) (a:=Q2n) (k:=(jF (c:=(by apply Q8g<;>exact Z1i)) (a:=Q8q) (k:=jf)))))) (Le.trans (Le.keep [2,5,16,18] _) (Le.trans (Le.absorb 2 0 0 Z7) (Le.trans (Le.expose 2 0 0 Z1g) (Le.of_eq (by simp[Qf9];rfl))))) (enters_of Tryz.func334 Z24 rfl) Q151 (by first|(simp;done)|(simp;rfl)|rfl) Zb ?ha Z15 (by intro k;first|(simp;done)|exact Nat.le_of_ble_eq_true rfl) Z1r ?body Z7 ?done
 case ha=>
  intro r W a0 K hK
  exact Q11e hK Z15 Z15 Z15
 case body=>
  intro r k hk X hX
  refine Q13u (Le.trans (Le.of_eq (by simp[tmR];rfl)) .refl) ?_
  obtain ⟨c,hcd⟩: ∃c,c=Q1q l ((Qq l n)[(Qq l n).length-1-k]):=⟨_,rfl⟩
  have hfl:=Qrs (l:=l) (ch:=Qq l n) k
  have hkl:k*Q1w l≤1008*1048576:=Nat.mul_le_mul Zb hs
  have hcs:Q1r c≤Q1w l:=by rw[hcd];exact Qeq
  have hcf:c.fields.length≤1048576:=by simp only[Q1r] at hcs;omega
  refine Qsn (Qhv [5,8] (jt 2 (k:=(jF (c:=Zac) (a:=Q26) (k:=jr)))) ?_)
  rw[←hcd]
  refine Qhv [5,26,27,28] jr ?_
  refine Qsn (Q13s (α:=List Fld×Nat) [5,26,27,28] (fun p=>[(28,.int .i64 p.2)]) (fun p=>[(2,some (1,[.arr 3 0 p.1.length])),(3,some (3,p.1.map eF))]) (fun p=>p.2≤c.fields.length∧p.1=Qf9 l (Qq l n) k++(c.fields.take p.2).filter (fun f=> !f.static)) (fun p=>c.fields.length-p.2) ((Qf9 l (Qq l n) k,0)) (fun p=>by simp;rfl) Z3 ?_ ?_)
  ·simp
  rintro ⟨o,i⟩ ⟨hi,hI⟩
  simp only at hi hI
  have ho:o.length≤1100000000:=by
   rw[hI,List.length_append]
   have h1:=List.length_filter_le (fun f:Fld=> !f.static) (c.fields.take i)
   rw[List.length_take] at h1
   omega
  have w1:(o.length+1)*40≤140737488355328:=by omega
  have w2:o.length≤1099511627775:=by omega
  refine Qhv [5,26,27,28,29] (jh hX Z47) ?_
  refine Qyt (Qxn (fun h6=> ?_) (fun h6=> ?_))
  ·try simp at h6
   refine Q104 (Qyt (Qsn (Qhv [5,11,26,27,28] (jh hX (by simp[w1,w2,h6];rfl)) ?_)))
   refine Qhv [5,11,26,27,28,34] (jh hX (by simp[w1,w2,h6];rfl)) ?_
   refine Qxn (fun h8=> ?_) (fun h8=> ?_)
   ·try simp at h8
    refine Qw1 (jh hX (by simp[w1,w2,h6];rfl)) ?_
    refine Qw1 (jh hX Z6z) ?_
    refine Qm (if c.fields[i].static=true then (o,i+1) else (o++[c.fields[i]],i+1)) [5,26,27,28] 5 Z1r Z3 Z5t ?_ ?_
    ·(simp only[h8,Bool.false_eq_true,if_false,if_true];refine ⟨by omega,?_⟩;rw[Qde h6,h8,hI];simp)
    ·(simp only[h8,Bool.false_eq_true,if_false,if_true];omega)
   ·try simp at h8
    refine Q104 (Qw1 (jh hX Z6z) ?_)
    refine Qm (if c.fields[i].static=true then (o,i+1) else (o++[c.fields[i]],i+1)) [5,26,27,28] 5 Z1r Z3 Z5t ?_ ?_
    ·(simp only[h8,Bool.false_eq_true,if_false,if_true];refine ⟨by omega,?_⟩;rw[Qde h6,h8,hI];simp)
    ·(simp only[h8,Bool.false_eq_true,if_false,if_true];omega)
  ·try simp at h6
   refine Q15g ?_
   simp only[Qg9,Qsi,if_true]
   have hil:i=c.fields.length:=by omega
   subst hil
   rw[List.take_of_length_le (Nat.le_refl _)] at hI
   have hg:(Qq l n).getD ((Qq l n).length-1-k) []=(Qq l n)[(Qq l n).length-1-k]:=by rw[List.getD_eq_getElem?_getD,List.getElem?_eq_getElem Zb];rfl
   have hfk:Qf9 l (Qq l n) (k+1)=o:=by rw[Qf9,hg,←hcd,hI];rfl
   refine ⟨trivial,_,Le.trim 4 Z1r _ Z3,?_⟩
   simp[hfk]
 case done=>
  refine je Z7 ?_
  simp[Q8d]
theorem Qfw:Q6 Tryz.prog 303:=jcb Tryz.func303
theorem Qfk{l:List Cls}(hl:l.length≤1000)(hs:Q1w l≤1048576)(hw:Qs l=true){k i:Nat}(hk:k<l.length)(hi:i<l[k].fields.length):Ct Tryz.prog 303 [wv l,.str l[k].name,eF l[k].fields[i]] [] (.int .i64 (fpl l k i)) []:=by
 have hsz: ∀{k:Nat} (h:k<l.length),l[k].fields.length≤1048576:=fun h=>by
  have:=Nat.le_trans (Q46 h) hs
  simp only[Q1r] at this;omega
 have hik:=hsz hk
 have hcl:=Qdq (Q1g hw) hk
 rw[Q27 hk] at hcl
 have hfl:=Qrr (n:=l[k].super) hw
 refine jbS Tryz.func303 82 fun X hX=> ?_
 refine Q0 [0,1,5] (jh hX Z4p) ?_
 refine Q0 [0,1,5,7] (jh hX Z4p) ?_
 refine Q4 (Q0 [0,1,5,7,17] (jh hX Z4p) ?_)
 refine jd (fun h2=> ?_) (fun h2=> ?_)
 ·try simp at h2
  refine Q0 [0,1,5,7,21,22,23] (jh hX Z4p) ?_
  refine Q7 (Qh (α:=Nat×Nat) [0,1,5,7,21,22,23] (fun p=>[(7,.int .i64 p.1),(23,.int .i64 p.2)]) (fun p=>[]) (fun p=>p.2≤k∧p.1=Q72 (l.take p.2)) (fun p=>l.length-p.2) ((0,0)) (fun p=>by simp;rfl) Z3 ?_ ?_)
  ·simp[Q72]
  rintro ⟨q,c⟩ ⟨hc,hI⟩
  simp only at hc hI
  refine Q0 [0,1,5,7,21,22,23,24] (jh hX Z4p) ?_
  refine Q4 (jd (fun h4=> ?_) (fun h4=> ?_))
  ·try simp at h4
   refine Q3 (Q4 (Q7 (Q0 [0,1,5,7,9,21,22,23] (jh hX Zbu) ?_)))
   refine Q0 [0,1,5,7,9,21,22,23,28,29,30] (jh hX Zbu) ?_
   refine Q7 (Qh (α:=Nat×Nat) [0,1,5,7,9,21,22,23,28,29,30] (fun p=>[(7,.int .i64 p.1),(30,.int .i64 p.2)]) (fun p=>[]) (fun p=>p.2≤l[c].fields.length∧(c=k→p.2≤i)∧p.1=Q72 (l.take c)+Q71 (l[c].fields.take p.2)) (fun p=>l[c].fields.length-p.2) ((q,0)) (fun p=>by simp;rfl) Z3 ?_ ?_)
   ·exact ⟨by simp,by simp,by simp[Q71,hI]⟩
   rintro ⟨q2,j⟩ ⟨hj,hjk,hJ⟩
   simp only at hj hjk hJ
   have hB1:=Qj8 l c
   have hB2:=Qwb l
   have hB3:=Qcg l[c].fields j
   have hB4:=Qqo l[c].fields
   have hcf:=hsz h4
   refine Q0 [0,1,5,7,9,21,22,23,28,29,30,31] (jh hX Zbu) ?_
   refine Q4 (jd (fun h7=> ?_) (fun h7=> ?_))
   ·try simp at h7
    refine Q3 (Q4 (Q7 (Q0 [0,1,5,7,9,11,21,22,23,28,29,30] (jh hX Z87) ?_)))
    refine Q4 (Q0 [0,1,5,7,9,11,21,22,23,28,29,30,42] (js hX 5 Z87 (jm 4 38 [0,1,5,7,9,11,21,22,23,28,29,30,42] (p:=by intro b;(try simp at b);exact (jh hX Zb4)) (q:=by intro b;(try simp at b);exact (jh hX Zb4)) (k:=jf))) ?_)
    refine jd (fun h9=> ?_) (fun h9=> ?_)
    ·try simp at h9
     refine Q0 [6] (jh hX Z87) ?_
     refine Q5 (je Z87 ?_)
     obtain ⟨e1,e2,e3,e4⟩:l[c].name=l[k].name∧l[c].fields[j].name=l[k].fields[i].name∧l[c].fields[j].type=l[k].fields[i].type∧l[c].fields[j].static=l[k].fields[i].static:=by simpa using h9
     obtain rfl:=Qg7 hw h4 hk e1
     obtain rfl:=Qyw hw hk h7 hi e2
     rw[Qx3 hk hi h2,hJ]
    ·try simp at h9
     have hne:c=k→j≠i:=fun e e2=>by subst e;subst e2;simp at h9
     refine Q3 (Qb (js hX 4 Z87 (Q8.callB rfl Z3 rfl Z95 Zb2 Qjf Z3 Z95 (jh hX Z3x))) ?_)
     refine Qb (jh hX Z3x) ?_
     refine Qm ((q2+l[c].fields[j].static.toNat,j+1)) [0,1,5,7,9,21,22,23,28,29,30] 2 Z1r Z3 (by simp[h7];try (simp (disch:=omega) only[Q15j,Qc])) ?_ ?_
     ·exact ⟨by simp only;omega,fun e=>by have:=hjk e;have:=hne e;simp only;omega,by simp only;rw[Qga h7,hJ];omega⟩
     ·simp only;omega
   ·try simp at h7
    have hil:j=l[c].fields.length:=by omega
    subst hil
    rw[List.take_of_length_le (Nat.le_refl _)] at hJ
    have hck:c≠k:=fun e=>by subst e;have:=hjk rfl;omega
    refine Ql (Qb (jh hX Z3x) ?_)
    refine Qm ((q2,c+1)) [0,1,5,7,21,22,23] 1 Z1r Z3 (by simp[hk,hi,h4,h7];try (simp (disch:=omega) only[Qc])) ?_ ?_
    ·exact ⟨by simp only;omega,by simp only;rw[hJ,Qqp h4]⟩
    ·simp only;omega
  ·try simp at h4
   exfalso;omega
 ·try simp at h2
  refine Q3 (Q0 [0,5,12] (js hX 2 Z4p (Q8.callF rfl Z3 rfl Z95 Zac Q26 (by (try simp[hcl]);rfl) (jh hX Z4p))) ?_)
  refine Q0 [5,7,12] (js hX 3 Z4p (Q8.callF rfl Z3 rfl Z95 (by apply Qeo<;>exact Z1i) Qev (by (try simp[hcl]);rfl) (Q8.call [] rfl Z3 rfl Z95 Z7 (by apply Qdm<;>exact Z1i) Qdw Z3 Z3 Z95 (jh hX Z4p)))) ?_
  refine Q4 (Q0 [5,7,64,65,66] (jh hX Z4p) ?_)
  refine Q7 (Qh (α:=Nat×Nat) [5,7,64,65,66] (fun p=>[(7,.int .i64 p.1),(66,.int .i64 p.2)]) (fun p=>[]) (fun p=>p.2≤i∧p.1=(Q8d l l[k].super).length+Qsw (l[k].fields.take p.2)) (fun p=>i-p.2) (((Q8d l l[k].super).length,0)) (fun p=>by simp;rfl) Z3 ?_ ?_)
  ·exact ⟨by simp,by simp[Qsw]⟩
  rintro ⟨q,j⟩ ⟨hj,hJ⟩
  simp only at hj hJ
  have hB1:=Qzc (l[k].fields.take j)
  rw[List.length_take] at hB1
  refine Q0 [5,7,64,65,66,67] (jh hX Z4p) ?_
  refine Q4 (jd (fun h17=> ?_) (fun h17=> ?_))
  ·try simp at h17
   refine Q3 (Q4 (Q7 (Q0 [5,7,15,64,65,66] (jh hX Z8n) ?_)))
   refine Q4 (Q0 [5,7,15,64,65,66,72] (jh hX Z8n) ?_)
   refine jd (fun h19=> ?_) (fun h19=> ?_)
   ·try simp at h19
    obtain ⟨e2,e3,e4⟩:l[k].fields[j].name=l[k].fields[i].name∧l[k].fields[j].type=l[k].fields[i].type∧l[k].fields[j].static=l[k].fields[i].static:=by simpa using h19
    obtain rfl:=Qyw hw hk h17 hi e2
    refine Ql (Q0 [6] (jh hX Z8n) ?_)
    refine Q5 (je Z8n ?_)
    rw[Qzl hk hi (by simp[h2]),hJ]
   ·try simp at h19
    have hne:j≠i:=fun e2=>by subst e2;simp at h19
    refine Q3 (Qb (js hX 5 Z8n (Q8.callB rfl Z3 rfl Z95 Zb2 Qjf Z3 Z95 (jh hX Z6d))) ?_)
    refine Qb (jh hX Z6d) ?_
    refine Qm ((q+(!l[k].fields[j].static).toNat,j+1)) [5,7,64,65,66] 2 Z1r Z3 (by simp[h17];try (simp (disch:=omega) only[Q15j,Qc])) ?_ ?_
    ·exact ⟨by simp only;omega,by simp only;rw[Qmu h17,hJ];omega⟩
    ·simp only;omega
  ·try simp at h17
   exfalso;omega
theorem Q35:Q6 Tryz.prog 261:=jcb Tryz.func261
theorem Qdk{l:List Cls}(hl:l.length≤1000)(hs:Q1w l≤1048576)(hw:Qs l=true){c n t:Str}:Ct Tryz.prog 261 [wv l,.str c,.str n,.str t] [] (.tup [eFd (ffL l n t (Qq l c)).1,eF (ffL l n t (Qq l c)).2]) []:=by
 have hcl:=Q6z l c
 have hsz: ∀x,(Q1q l x).fields.length≤1048576:=fun x=>by
  have:=Nat.le_trans (Qeq (l:=l) (n:=x)) hs
  simp only[Q1r] at this;omega
 refine jbS Tryz.func261 62 fun X hX=> ?_
 refine jq [0,1,2,3,8,9] ?_
 refine Q4 (Q0 [0,2,3,8,9,17,18,19] (jt 2 (k:=(jF (c:=(by apply Q59<;>exact Zd4)) (a:=Q2n) (k:=jr)))) ?_)
 refine Q7 (Qh (α:=Nat) [0,2,3,8,9,17,18,19] (fun i=>[(19,.int .i64 i)]) (fun i=>[]) (fun i=>i≤(Qq l c).length∧ffL l n t ((Qq l c).drop i)=ffL l n t (Qq l c)) (fun i=>(Qq l c).length-i) (0) (fun i=>by simp;rfl) Z3 ?_ ?_)
 ·simp
 rintro i ⟨hi,hI⟩
 refine jq [0,2,3,8,9,17,18,19,20] ?_
 refine Q4 (jd (fun h2=> ?_) (fun h2=> ?_))
 ·try simp at h2
  rw[List.drop_eq_getElem_cons h2] at hI
  simp only[ffL] at hI
  refine Q3 (Q4 (Q7 (Q0 [0,2,3,8,9,11,17,18,19] (jh hX Zw) ?_)))
  refine Q0 [0,2,3,8,9,11,12,17,18,19] (jt 2 (k:=(jF (c:=(by apply Q49<;>exact Zd4)) (a:=Q26) (k:=(jh hX Zw))))) ?_
  refine Q0 [0,2,3,8,9,11,12,14,17,18,19] (js hX 2 Zw (jc [] (c:=(by apply Q94<;>exact Zd4)) (a:=Q97) (k:=jr))) ?_
  refine Q0 [0,2,3,8,9,11,12,14,17,18,19,43] (jt 3 (k:=(jm 9 34 [0,2,3,8,9,11,12,14,17,18,19,43] (p:=fun b6_3=>by (try simp at b6_3);(have hlt:=(Qgn (p:=fun f:Fld=>decide (f.name=n)) (l:=(Q1q l (Qq l c)[i]).fields)).2);exact (jh hX (by simp[-Qr,-Qa,h2,b6_3,hlt];rfl))) (q:=fun b6_3=>by (try simp at b6_3);exact (jh hX Z1)) (k:=jf)))) ?_
  refine jd (fun h6=> ?_) (fun h6=> ?_)
  ·try simp at h6
   have hx:=(Qzo (Qxr hw (Qq l c)[i]) n t).1 (by simpa using h6)
   rw[if_pos hx] at hI
   obtain ⟨k,hk,j,hj,e1,e2,e3,e4,e5⟩:=Qyn hw hx
   rw[e5,e4,e2] at hI
   simp only[Int.toNat_natCast,Qa hj] at hI
   rw[e3,e2,←e1]
   refine jL 16 [0,1,2,3,4,5,6,7,10,11,12,13,14] [8,9,15] [8,9] ([2]) hX Zak (jH (p:=fun X hX=>(jc [] (c:=(by apply Qfk<;>exact Zd4)) (a:=Qfw) (k:=jf))) (k:=(jH (p:=fun X hX=>jr) (k:=(jH (p:=fun X hX=>(jh hX Zak)) (k:=.nil)))))) (jh hX Zak) ?_
   refine Q5 (je Zak ?_)
   rw[←hI,←e1];rfl
  ·try simp at h6
   have hx: ¬0≤fix (ndt n t) (Q1q l (Qq l c)[i]).fields:=fun hx=>by
    obtain ⟨y1,y2⟩:=(Qzo (Qxr hw (Qq l c)[i]) n t).2 hx
    exact h6 y1 y2
   rw[if_neg hx] at hI
   refine Q3 (Qb (jh hX Z9) ?_)
   refine Qm (i+1) [0,2,3,8,9,17,18,19] 2 Z1r Z3 Z79 ?_ ?_
   ·exact ⟨by omega,hI⟩
   ·omega
 ·try simp at h2
  rw[List.drop_eq_nil_of_le h2] at hI
  simp only[ffL] at hI
  rw[←hI]
  refine Ql (Q0 [8,9] (jh hX Zw) ?_)
  refine Q5 (je Zw ?_)
  rfl
theorem Qkg:Q6 Tryz.prog 185:=jcb Tryz.func185
theorem Qk3{F:SF}{st lo tk:List Typ}(hs:st.length≤1000)(hs2:lo.length≤1000)(ht:tk.length≤1000)(hl:F.l.length≤1048576)(h9:Qs F.l=true)(hz:Q1w F.l≤1048576)(hd:F.i.desc.length≤1099511627776)(k1:F.i.op=32∨F.i.op=33∨F.i.op=35→0<tk.length)(hop:32≤F.i.op∧F.i.op≤35):Ct Tryz.prog 185 [.ptr 0 0 0,eI F.i] [some (20,[oFl F st lo tk])] (.int .i64 (Qdd F st lo tk).k) [some (20,[oFl F ((Qdd F st lo tk).st) ((Qdd F st lo tk).lo) tk])]:=by
 have hl4:=Q66 h9
 rcases (by omega:F.i.op=32∨F.i.op=33∨F.i.op=34∨F.i.op=35) with h|h|h|h
 all_goals first|have e32:(F.i.op=32)=(true=true):=by simp[h]|have e32:(F.i.op=32)=(false=true):=by simp[h]
 all_goals first|have e34:(F.i.op=34)=(true=true):=by simp[h]|have e34:(F.i.op=34)=(false=true):=by simp[h]
 all_goals first|have e35:(F.i.op=35)=(true=true):=by simp[h]|have e35:(F.i.op=35)=(false=true):=by simp[h]
 all_goals first|have hk:0<tk.length:=k1 Zb|have hk:=trivial
 all_goals first|(have w1:IntKind.i64.wrap ((tk.length:Int)-1)=(tk.length:Int)-1:=Qc Zb Zb;have w2:0≤(tk.length:Int)-1:=Zb;have w3:((tk.length:Int)-1).toNat=tk.length-1:=Zb;have w4:tk.length-1<tk.length:=Zb;have w5:1≤tk.length:=Zb)|(have w1:=trivial;have w2:=trivial;have w3:=trivial;have w4:=trivial;have w5:=trivial)
 all_goals clear h
 all_goals
  refine jbS Tryz.func185 97 fun X hX=> ?_
  refine Q0 [0,3] (jh hX Zc) ?_
  first|(refine Q0 [0,3,5] (jh hX Zc) ?_)|(refine Q0 [0,3,5] (jh hX Zc) ?_)|(refine Q0 [0,3,5] (js hX 4 Zc (jm 4 11 [0,3,15] (p:=Zd6) (q:=Zd6) (k:=(jh hX Zc)))) ?_)
  refine Q4 (jL 6 [0,1,2,3,4,5] [] [0,3,5,23] ([0,1]) hX Zc .nil (Q8.call [] rfl Z3 rfl Zc Z7 Z2e Q1z Z3 Z3 Zc (jh hX Zc)) ?_)
  refine jd (fun h2=> ?_) (fun h2=> ?_)
  ·try simp at h2
   refine Q0 [4] (jh hX Zc) ?_
   refine Q5 (Qp Zc Z15 (.of_eq ?_) ?_)
   all_goals clear hX
   ·simp_all[Qdd,Qb4,Qdb,cu]
   ·simp_all[Qdd,Qb4,Qdb,cu]
  ·try simp at h2
   refine Q3 (jT 17 (Q17 [0,1,2,3,4,5,6,7,8,9] (.alt 10 (Q17 [11,12,13] (.alt 14 (.alt 15 (.alt 16 .tail .stop) .stop) (.alt 15 (.alt 14 (.alt 16 .tail .stop) .stop) .stop))) (.alt 14 (.alt 10 (Q17 [11,12,13] (.alt 15 (.alt 16 .tail .stop) .stop)) (.alt 15 (.alt 10 (Q17 [11,12,13] (.alt 16 .tail .stop)) .stop) .stop)) (.alt 15 (.alt 10 (Q17 [11,12,13] (.alt 14 (.alt 16 .tail .stop) .stop)) (.alt 14 (.alt 10 (Q17 [11,12,13] (.alt 16 .tail .stop)) .stop) .stop)) .stop)))) [0,3,5,6,7] [0,1] hX (jTp [0,1,2,3,4,5,6,7,8,9] _ Z1u (jTa 10 (p:=fun X hX=>(Q8.callF rfl Z3 rfl Zc Z2v Q35 Z4k jf)) (k:=(jTp [11,12,13] _ Z1u (jTa 14 (p:=fun X hX=>(jh hX Zc)) (k:=(jTa 15 (p:=fun X hX=>(jh hX Zc)) (k:=(jTa 16 (p:=fun X hX=>(jh hX Zc)) (k:=.tail) (kr:=.stop))) (kr:=.stop))) (kr:=(jTa 15 (p:=fun X hX=>(jh hX Zc)) (k:=(jTa 14 (p:=fun X hX=>(jh hX Zc)) (k:=(jTa 16 (p:=fun X hX=>(jh hX Zc)) (k:=(jTw 2 3 Z5y .tail)) (kr:=.stop))) (kr:=.stop))) (kr:=.stop)))))) (kr:=(jTa 14 (p:=fun X hX=>(jh hX Zc)) (k:=(jTa 10 (p:=fun X hX=>(Q8.callF rfl Z3 rfl Zc Z2v Q35 Z4k jf)) (k:=(jTp [11,12,13] _ Z1u (jTa 15 (p:=fun X hX=>(jh hX Zc)) (k:=(jTa 16 (p:=fun X hX=>(jh hX Zc)) (k:=.tail) (kr:=.stop))) (kr:=.stop)))) (kr:=(jTa 15 (p:=fun X hX=>(jh hX Zc)) (k:=(jTa 10 (p:=fun X hX=>(Q8.callF rfl Z3 rfl Zc Z2v Q35 Z4k jf)) (k:=(jTp [11,12,13] _ Z1u (jTa 16 (p:=fun X hX=>(jh hX Zc)) (k:=.tail) (kr:=.stop)))) (kr:=.stop))) (kr:=.stop))))) (kr:=(jTa 15 (p:=fun X hX=>(jh hX Zc)) (k:=(jTa 10 (p:=fun X hX=>(Q8.callF rfl Z3 rfl Zc Z2v Q35 Z4k jf)) (k:=(jTp [11,12,13] _ Z1u (jTa 14 (p:=fun X hX=>(jh hX Zc)) (k:=(jTa 16 (p:=fun X hX=>(jh hX Zc)) (k:=(jTw 2 3 Z5y .tail)) (kr:=.stop))) (kr:=.stop)))) (kr:=(jTa 14 (p:=fun X hX=>(jh hX Zc)) (k:=(jTa 10 (p:=fun X hX=>(Q8.callF rfl Z3 rfl Zc Z2v Q35 Z4k jf)) (k:=(jTp [11,12,13] _ Z1u (jTa 16 (p:=fun X hX=>(jh hX Zc)) (k:=(jTw 2 3 Z5y .tail)) (kr:=.stop)))) (kr:=.stop))) (kr:=.stop))))) (kr:=.stop))))))) (jh hX Zc) ?_)
   refine Q4 (Q7 (Q0 [0,3,5,6,7,38] (jh hX Zc) ?_))
   refine jd (fun h5=> ?_) (fun h5=> ?_)
   ·try simp at h5
    refine Q0 [4] (jh hX Zc) ?_
    refine Q5 (Qp Zc Z15 (.of_eq ?_) ?_)
    all_goals clear hX
    ·simp_all[Qdd,Qb4,Qdb,cu]
    ·simp_all[Qdd,Qb4,Qdb,cu]
   ·try simp at h5
    refine Q0 [0,3,5,44] (jh hX Zc) ?_
    refine jd (fun h7=> ?_) (fun h7=> ?_)
    ·try simp at h7
     refine Q0 [4] (jh hX Zc) ?_
     refine Q5 (Qp Zc Z15 (.of_eq ?_) ?_)
     all_goals clear hX
     ·simp_all[Qdd,Qb4,Qdb,cu]
     ·simp_all[Qdd,Qb4,Qdb,cu]
    ·try simp at h7
     first|(refine jD [0,3,49] (jS 12 Zc (jC (c:=Zt) (a:=Qw) (k:=(jQ Zc)))) ?_)|(refine jD [0,3,49] (jQ Zc) ?_)|(refine jD [0,3,49] (jS 3 Zc (jM 12 52 [0,3,64] (p:=by intro b;(try simp at b);exact (jS 9 Z2t (jC (c:=Zt) (a:=Qw) (k:=(jQ Z2t))))) (q:=by intro b;(try simp at b);exact (jQ Z2t)) (k:=(jQ Zc)))) ?_)
     refine jd (fun h9=> ?_) (fun h9=> ?_)
     ·try simp at h9
      all_goals
       refine Q0 [4] (jh hX Zc) ?_
       refine Q5 (Qp Zc Z15 (.of_eq ?_) ?_)
       all_goals clear hX
       ·simp_all[Qdd,Qb4,Qdb,cu]
       ·simp_all[Qdd,Qb4,Qdb,cu]
     ·try simp at h9
      all_goals
       first|(refine Q0 [0,3,65] (jh hX Zc) ?_)|(refine Q0 [0,3,65] (jh hX Zc) ?_)|(refine Q0 [0,3,65] (js hX 4 Zc (jm 4 69 [0,3,73] (p:=Zd6) (q:=Zd6) (k:=(jh hX Zc)))) ?_)
       refine jd (fun h11=> ?_) (fun h11=> ?_)
       ·try simp at h11
        all_goals
         refine Q0 [4] (js hX 3 Zc (Q8.call [] rfl Z3 rfl Zc Z7 Z5a Q4g Z3 Z3 Zc (jFz (k:=(Q8.call [0] rfl Z3 rfl Zc Z7 (by apply Q21 (ys:=[Q1o F.i.desc])<;>exact Z0) Q1k Z3 Z3 Zc (jh hX Zc)))))) ?_
         refine Q5 (Qp Zc Z15 (.of_eq ?_) ?_)
         all_goals clear hX
         ·simp_all[Qdd,Qb4,Qdb,cu]
         ·simp_all[Qdd,Qb4,Qdb,cu]
       ·try simp at h11
        all_goals
         refine Q3 (jT 15 (Q17 [0,1,2,3,5,6,7,13] (.alt 4 (.alt 8 (Q17 [9,10,11] (.alt 12 (.alt 14 .tail .stop) (.alt 14 (.alt 12 .tail .stop) .stop))) (.alt 14 (.alt 8 (Q17 [9,10,11] (.alt 12 .tail .stop)) .stop) .stop)) (.alt 8 (Q17 [9,10] (.alt 4 (Q17 [11] (.alt 12 (.alt 14 .tail .stop) (.alt 14 (.alt 12 .tail .stop) .stop))) (.alt 14 (.alt 4 (Q17 [11] (.alt 12 .tail .stop)) .stop) .stop))) (.alt 14 (.alt 4 (.alt 8 (Q17 [9,10,11] (.alt 12 .tail .stop)) .stop) (.alt 8 (Q17 [9,10] (.alt 4 (Q17 [11] (.alt 12 .tail .stop)) .stop)) .stop)) .stop)))) [4] [] hX (jTp [0,1,2,3,5,6,7,13] _ Z1u (jTa 4 (p:=fun X hX=>(jh hX Zc)) (k:=(jTa 8 (p:=fun X hX=>(jh hX Zc)) (k:=(jTp [9,10,11] _ Z1u (jTa 12 (p:=fun X hX=>(jh hX Zc)) (k:=(jTa 14 (p:=fun X hX=>(jh hX Zc)) (k:=.tail) (kr:=.stop))) (kr:=(jTa 14 (p:=fun X hX=>(jh hX Zc)) (k:=(jTa 12 (p:=fun X hX=>(jh hX Zc)) (k:=.tail) (kr:=.stop))) (kr:=.stop)))))) (kr:=(jTa 14 (p:=fun X hX=>(jh hX Zc)) (k:=(jTa 8 (p:=fun X hX=>(jh hX Zc)) (k:=(jTp [9,10,11] _ Z1u (jTa 12 (p:=fun X hX=>(jh hX Zc)) (k:=.tail) (kr:=.stop)))) (kr:=.stop))) (kr:=.stop))))) (kr:=(jTa 8 (p:=fun X hX=>(jh hX Zc)) (k:=(jTp [9,10] _ Z1u (jTa 4 (p:=fun X hX=>(jh hX Zc)) (k:=(jTp [11] _ Z1u (jTa 12 (p:=fun X hX=>(jh hX Zc)) (k:=(jTa 14 (p:=fun X hX=>(jh hX Zc)) (k:=.tail) (kr:=.stop))) (kr:=(jTa 14 (p:=fun X hX=>(jh hX Zc)) (k:=(jTa 12 (p:=fun X hX=>(jh hX Zc)) (k:=.tail) (kr:=.stop))) (kr:=.stop)))))) (kr:=(jTa 14 (p:=fun X hX=>(jh hX Zc)) (k:=(jTa 4 (p:=fun X hX=>(jh hX Zc)) (k:=(jTp [11] _ Z1u (jTa 12 (p:=fun X hX=>(jh hX Zc)) (k:=.tail) (kr:=.stop)))) (kr:=.stop))) (kr:=.stop)))))) (kr:=(jTa 14 (p:=fun X hX=>(jh hX Zc)) (k:=(jTa 4 (p:=fun X hX=>(jh hX Zc)) (k:=(jTa 8 (p:=fun X hX=>(jh hX Zc)) (k:=(jTp [9,10,11] _ Z1u (jTa 12 (p:=fun X hX=>(jh hX Zc)) (k:=.tail) (kr:=.stop)))) (kr:=.stop))) (kr:=(jTa 8 (p:=fun X hX=>(jh hX Zc)) (k:=(jTp [9,10] _ Z1u (jTa 4 (p:=fun X hX=>(jh hX Zc)) (k:=(jTp [11] _ Z1u (jTa 12 (p:=fun X hX=>(jh hX Zc)) (k:=.tail) (kr:=.stop)))) (kr:=.stop)))) (kr:=.stop))))) (kr:=.stop))))))) (Q8.callB rfl Z3 rfl Zc Z57 Q8s Z3 Zc (Q8.call [] rfl Z3 rfl Zc Z7 Z1k Q1d Z3 Z3 Zc (jh hX Zc))) ?_)
         refine Q5 (Qp Zc Z15 (.of_eq ?_) ?_)
         all_goals clear hX
         ·simp_all[Qdd,Qb4,Qdb,cu]
         ·simp_all[Qdd,Qb4,Qdb,cu]
theorem Q1p:Q6 Tryz.prog 262:=jcb Tryz.func262
theorem Qcl{l:List Cls}(hl:l.length≤1048576)(hs:Q1w l≤1099511627776){c n d:Str}:Ct Tryz.prog 262 [wv l,.str c,.str n,.str d] [] (.tup [eFd (fmL l n d (Qq l c)).1,eM (fmL l n d (Qq l c)).2]) []:=by
 have hcl:=Q6z l c
 refine jbS Tryz.func262 58 fun X hX=> ?_
 refine Q0 [0,1,2,3,8,9] (jh hX Z2h) ?_
 refine Q4 (Q0 [0,2,3,8,9,17,18,19] (js hX 2 Z2h (Q8.callF rfl Z3 rfl Z2h Z5n Q2n Zap (jh hX Z2h))) ?_)
 refine Q7 (Qh (α:=Nat) [0,2,3,8,9,17,18,19] (fun i=>[(19,.int .i64 i)]) (fun i=>[]) (fun i=>i≤(Qq l c).length∧fmL l n d ((Qq l c).drop i)=fmL l n d (Qq l c)) (fun i=>(Qq l c).length-i) (0) (fun i=>by simp;rfl) Z3 ?_ ?_)
 ·simp
 rintro i ⟨hi,hI⟩
 refine Q0 [0,2,3,8,9,17,18,19,20] (jh hX Z2h) ?_
 refine Q4 (jd (fun h2=> ?_) (fun h2=> ?_))
 ·try simp at h2
  rw[List.drop_eq_getElem_cons h2] at hI
  simp only[fmL] at hI
  refine Q3 (Q4 (Q7 (Q0 [0,2,3,8,9,11,17,18,19] (jh hX Z5k) ?_)))
  refine Q0 [0,2,3,8,9,11,12,17,18,19] (js hX 2 Z2h (Q8.callF rfl Z3 rfl Z2h Z5o Q26 Zap (jh hX Z5k))) ?_
  refine Q4 (Q0 [0,2,3,8,9,11,12,14,17,18,19] (js hX 3 Z5k (Q8.call [] rfl Z3 rfl Z2h Z7 Z5h Q4b Z3 Z3 Z2h (jh hX Z2h))) ?_)
  refine Q0 [0,2,3,8,9,11,12,14,17,18,19,34] (jh hX Z2h) ?_
  refine jd (fun h6=> ?_) (fun h6=> ?_)
  ·try simp at h6
   rw[if_pos h6] at hI
   rw[←hI]
   obtain ⟨j,hj,hjm⟩:=Qos h6
   refine jL 9 [0,1,2,3,4,5,6,7] [8] [8,9] ([2]) hX Z64 (jH (p:=fun X hX=>(jh hX Z64)) (k:=.nil)) (jh hX Z64) ?_
   refine Q5 (Q1b Z64 ?_ rfl)
   simp only[hjm]
   simp[hj]
   exact Wk.refl _
  ·try simp at h6
   rw[if_neg Zb] at hI
   refine Q3 (Q0 [0,2,3,8,9,11,17,18,19,44] (jh hX Z2h) ?_)
   refine jd (fun h8=> ?_) (fun h8=> ?_)
   ·try simp at h8
    rw[if_pos (by simpa[Qn] using h8)] at hI
    refine Q4 (Q0 [3,8,9,11,50] (js hX 1 Z2h (Q8.call [] rfl Z3 rfl Z2h Z7 (by apply Qca<;>exact Z30) Q6d Z3 Z3 Z2h (js hX 1 Z2h (jm 3 47 [3,8,9,11,50] (p:=Z88) (q:=Z88) (k:=jf))))) ?_)
    refine jd (fun h9=> ?_) (fun h9=> ?_)
    ·try simp at h9
     rw[if_pos (by simpa[Qdf] using h9)] at hI
     rw[←hI]
     refine Q0 [8,9] (jh hX Zad) ?_
     refine Q5 (Q1b Zad ?_ rfl)
     exact Wk.tup (.cons (Wk.refl _) (.cons (Qw3 _ _) .nil))
    ·try simp at h9
     rw[if_neg (by simpa[Qdf] using h9)] at hI
     rw[←hI]
     refine Q3 (Ql (Q0 [8,9] (jh hX Zad) ?_))
     refine Q5 (Q1b Zad ?_ rfl)
     exact Wk.tup (.cons (Wk.refl _) (.cons Q11n .nil))
   ·try simp at h8
    rw[if_neg (by simpa[Qn] using h8)] at hI
    refine Q3 (Qb (jh hX Z78) ?_)
    refine Qm (i+1) [0,2,3,8,9,17,18,19] 2 Z1r Z3 Z79 ?_ ?_
    ·exact ⟨by omega,hI⟩
    ·omega
 ·try simp at h2
  rw[List.drop_eq_nil_of_le h2] at hI
  simp only[fmL] at hI
  rw[←hI]
  refine Ql (Q0 [8,9] (jh hX Z5k) ?_)
  refine Q5 (Q1b Z5k ?_ rfl)
  exact Wk.tup (.cons (Wk.refl _) (.cons Q11n .nil))
theorem Q2k:Q6 Tryz.prog 263:=jcb Tryz.func263
theorem Q3b{F:SF}{x y z:V}(hl:F.l.length≤1048576){a:List Typ}{ps:List Str}{r:Str}(ha:ps.length≤a.length)(hp:ps.length≤1000)(ht: ∀p∈ps,p.length≤1099511627776):Ct Tryz.prog 263 [pFl F x y z,.lst false 3 (a.map eT),.agg [.lst false 1 (ps.map .str),.str r]] [] (.bool (Qgf F.l a ps ps.length)) []:=by
 refine jbS Tryz.func263 26 fun X hX=> ?_
 refine jq [0,1,5] ?_
 refine Q4 (jq [0,1,10,11,12] ?_)
 refine Q7 (Qh (α:=Nat) [0,1,10,11,12] (fun j=>[(12,.int .i64 (j:Nat))]) (fun j=>[]) (fun j=>j≤ps.length∧Qgf F.l a ps j=true) (fun j=>ps.length-j) (0) (fun j=>by simp;rfl) Z3 ?_ ?_)
 ·simp[Qgf]
 rintro j ⟨hj,hJ⟩
 refine jq [0,1,10,11,12,13] ?_
 refine Q4 (jd (fun h2=> ?_) (fun h2=> ?_))
 ·try simp at h2
  have hja:j<a.length:=by omega
  have htj:=ht _ (List.getElem_mem h2)
  refine Q3 (Q4 (Q7 (Q0 [0,1,7,8,10,11,12] (jh hX Zay) ?_)))
  refine Q0 [0,1,10,11,12,24] (js hX 6 Zay (jB (c:=Z57) (a:=Q8s) (k:=(jh hX Zay)))) ?_
  refine jd (fun h4=> ?_) (fun h4=> ?_)
  ·try simp at h4
   refine Q0 [6] (jh hX Zay) ?_
   refine Q5 (je Zay ?_)
   rw[Q14b h2 hja h4]
  ·try simp at h4
   refine Q3 (Qb (jh hX (by simp[h2,hja];(try (simp (disch:=omega) only[Qc];(try simp[h2,hja])));rfl)) ?_)
   refine Qo (j+1) [0,1,10,11,12] (by simp[h2,hja];try (simp (disch:=omega) only[Qc])) ?_ ?_
   ·exact ⟨by omega,by simp only[Qgf];rw[hJ,Qa hja,Qa h2,h4];rfl⟩
   ·omega
 ·try simp at h2
  refine Ql (Q0 [6] (jh hX Zw) ?_)
  refine Q5 (je Zw ?_)
  obtain rfl:j=ps.length:=by omega
  rw[hJ]
theorem Q7b:Q6 Tryz.prog 264:=jcb Tryz.func264
theorem Qis{F:SF}{st lo tk:List Typ}(hs:st.length≤1000){ps:List V}{r:Str}(hr:r.length≤1099511627776):Ct Tryz.prog 264 [.ptr 0 0 0,.agg [.lst false 1 ps,.str r]] [some (20,[oFl F st lo tk])] (.int .i64 0) [some (20,[oFl F (Qst r st) (lo) tk])]:=by
 refine jbS Tryz.func264 14 fun X hX=> ?_
 refine jq [0,3] ?_
 refine Q4 (jq [0,3,7] ?_)
 refine jd (fun h1=> ?_) (fun h1=> ?_)
 ·try simp at h1
  refine jq [4] ?_
  refine Q5 (Qp Z7 Z15 (.of_eq ?_) ?_)
  all_goals clear hX
  ·rfl
  ·simp_all[Qst]
 ·try simp at h1
  refine Q3 (Q0 [4] (jt 3 (k:=(jc [] (c:=Z5a) (a:=Q4g) (k:=(jFz (k:=(jc [0] (c:=(by apply Q21 (ys:=[Q1o r])<;>exact Z0)) (a:=Q1k) (k:=jr)))))))) ?_)
  refine Q5 (Qp Z7 Z15 (.of_eq ?_) ?_)
  all_goals clear hX
  ·rfl
  ·simp_all[Qst]
theorem Qho:Q6 Tryz.prog 186:=jcb Tryz.func186
theorem Qh9{F:SF}{st lo tk:List Typ}(hs:st.length≤1000)(hs2:lo.length≤1000)(ht:tk.length≤1000)(hl:F.l.length≤1048576)(h9:Qs F.l=true)(hz:Q1w F.l≤1048576)(hd:F.i.desc.length≤1099511627776)(hop:F.i.op=38)(kl:tk.length=(Qy F.i.desc).params.length+1):Ct Tryz.prog 186 [.ptr 0 0 0,eI F.i] [some (20,[oFl F st lo tk])] (.int .i64 (spI F st lo tk).k) [some (20,[oFl F ((spI F st lo tk).st) ((spI F st lo tk).lo) tk])]:=by
 have hl4:=Q66 h9
 have hdr:=Nat.le_trans (Q6l F.i.desc).1 hd
 have hdl:=Ql9 F.i.desc
 have hdp: ∀p∈(Qy F.i.desc).params,p.length≤1099511627776:=fun p hp=>Nat.le_trans ((Q6l F.i.desc).2 p hp) hd
 have hk:0<tk.length:=by omega
 have hk1:1≤tk.length:=by omega
 have d2:List.take tk.length (tk.map eT)=tk.map eT:=List.take_of_length_le Z3
 all_goals by_cases hn:F.i.name=[60,105,110,105,116,62]
 all_goals first|have en:(F.i.name=[60,105,110,105,116,62])=(true=true):=by simp[hn]|have en:(F.i.name=[60,105,110,105,116,62])=(false=true):=by simp[hn]
 all_goals clear hn
 all_goals
  refine jbS Tryz.func186 171 fun X hX=> ?_
  refine Q0 [0,3] (jh hX Zk) ?_
  refine jT 13 (Q17 [0,1,4,5,6,7,8,9] (.alt 2 (Q17 [3] (.alt 10 (.alt 11 (.alt 12 .tail .stop) .stop) (.alt 11 (.alt 10 (.alt 12 .tail .stop) .stop) .stop))) (.alt 10 (.alt 2 (Q17 [3] (.alt 11 (.alt 12 .tail .stop) .stop)) (.alt 11 (.alt 2 (Q17 [3] (.alt 12 .tail .stop)) .stop) .stop)) (.alt 11 (.alt 2 (Q17 [3] (.alt 10 (.alt 12 .tail .stop) .stop)) (.alt 10 (.alt 2 (Q17 [3] (.alt 12 .tail .stop)) .stop) .stop)) .stop)))) [0,3,5,6] [0,1] hX (jTp [0,1,4,5,6,7,8,9] _ Z39 (jTa 2 (p:=fun X hX=>(Q8.callF rfl Z3 rfl Zk Z27 Q1v Z3t jf)) (k:=(jTp [3] _ Z39 (jTa 10 (p:=fun X hX=>(jh hX Zk)) (k:=(jTa 11 (p:=fun X hX=>(jh hX Zk)) (k:=(jTa 12 (p:=fun X hX=>(jh hX Zk)) (k:=.tail) (kr:=.stop))) (kr:=.stop))) (kr:=(jTa 11 (p:=fun X hX=>(jh hX Zk)) (k:=(jTa 10 (p:=fun X hX=>(jh hX Zk)) (k:=(jTa 12 (p:=fun X hX=>(jh hX Zk)) (k:=(jTw 2 3 Z5y .tail)) (kr:=.stop))) (kr:=.stop))) (kr:=.stop)))))) (kr:=(jTa 10 (p:=fun X hX=>(jh hX Zk)) (k:=(jTa 2 (p:=fun X hX=>(Q8.callF rfl Z3 rfl Zk Z27 Q1v Z3t jf)) (k:=(jTp [3] _ Z39 (jTa 11 (p:=fun X hX=>(jh hX Zk)) (k:=(jTa 12 (p:=fun X hX=>(jh hX Zk)) (k:=.tail) (kr:=.stop))) (kr:=.stop)))) (kr:=(jTa 11 (p:=fun X hX=>(jh hX Zk)) (k:=(jTa 2 (p:=fun X hX=>(Q8.callF rfl Z3 rfl Zk Z27 Q1v Z3t jf)) (k:=(jTp [3] _ Z39 (jTa 12 (p:=fun X hX=>(jh hX Zk)) (k:=.tail) (kr:=.stop)))) (kr:=.stop))) (kr:=.stop))))) (kr:=(jTa 11 (p:=fun X hX=>(jh hX Zk)) (k:=(jTa 2 (p:=fun X hX=>(Q8.callF rfl Z3 rfl Zk Z27 Q1v Z3t jf)) (k:=(jTp [3] _ Z39 (jTa 10 (p:=fun X hX=>(jh hX Zk)) (k:=(jTa 12 (p:=fun X hX=>(jh hX Zk)) (k:=(jTw 2 3 Z5y .tail)) (kr:=.stop))) (kr:=.stop)))) (kr:=(jTa 10 (p:=fun X hX=>(jh hX Zk)) (k:=(jTa 2 (p:=fun X hX=>(Q8.callF rfl Z3 rfl Zk Z27 Q1v Z3t jf)) (k:=(jTp [3] _ Z39 (jTa 12 (p:=fun X hX=>(jh hX Zk)) (k:=(jTw 2 3 Z5y .tail)) (kr:=.stop)))) (kr:=.stop))) (kr:=.stop))))) (kr:=.stop))))))) (jh hX Zk) ?_
  refine jT 17 (Q17 [0,1,2,3,4,5,6,7,8,9] (.alt 10 (Q17 [11,12,13] (.alt 14 (.alt 15 (.alt 16 .tail .stop) .stop) (.alt 15 (.alt 14 (.alt 16 .tail .stop) .stop) .stop))) (.alt 14 (.alt 10 (Q17 [11,12,13] (.alt 15 (.alt 16 .tail .stop) .stop)) (.alt 15 (.alt 10 (Q17 [11,12,13] (.alt 16 .tail .stop)) .stop) .stop)) (.alt 15 (.alt 10 (Q17 [11,12,13] (.alt 14 (.alt 16 .tail .stop) .stop)) (.alt 14 (.alt 10 (Q17 [11,12,13] (.alt 16 .tail .stop)) .stop) .stop)) .stop)))) [0,3,5,6,7,8] [0,1] hX (jTp [0,1,2,3,4,5,6,7,8,9] _ Z39 (jTa 10 (p:=fun X hX=>(Q8.callF rfl Z3 rfl Zk Z1m Q1p Z3t jf)) (k:=(jTp [11,12,13] _ Z39 (jTa 14 (p:=fun X hX=>(jh hX Zk)) (k:=(jTa 15 (p:=fun X hX=>(jh hX Zk)) (k:=(jTa 16 (p:=fun X hX=>(jh hX Zk)) (k:=.tail) (kr:=.stop))) (kr:=.stop))) (kr:=(jTa 15 (p:=fun X hX=>(jh hX Zk)) (k:=(jTa 14 (p:=fun X hX=>(jh hX Zk)) (k:=(jTa 16 (p:=fun X hX=>(jh hX Zk)) (k:=(jTw 4 5 Z5y .tail)) (kr:=.stop))) (kr:=.stop))) (kr:=.stop)))))) (kr:=(jTa 14 (p:=fun X hX=>(jh hX Zk)) (k:=(jTa 10 (p:=fun X hX=>(Q8.callF rfl Z3 rfl Zk Z1m Q1p Z3t jf)) (k:=(jTp [11,12,13] _ Z39 (jTa 15 (p:=fun X hX=>(jh hX Zk)) (k:=(jTa 16 (p:=fun X hX=>(jh hX Zk)) (k:=.tail) (kr:=.stop))) (kr:=.stop)))) (kr:=(jTa 15 (p:=fun X hX=>(jh hX Zk)) (k:=(jTa 10 (p:=fun X hX=>(Q8.callF rfl Z3 rfl Zk Z1m Q1p Z3t jf)) (k:=(jTp [11,12,13] _ Z39 (jTa 16 (p:=fun X hX=>(jh hX Zk)) (k:=.tail) (kr:=.stop)))) (kr:=.stop))) (kr:=.stop))))) (kr:=(jTa 15 (p:=fun X hX=>(jh hX Zk)) (k:=(jTa 10 (p:=fun X hX=>(Q8.callF rfl Z3 rfl Zk Z1m Q1p Z3t jf)) (k:=(jTp [11,12,13] _ Z39 (jTa 14 (p:=fun X hX=>(jh hX Zk)) (k:=(jTa 16 (p:=fun X hX=>(jh hX Zk)) (k:=(jTw 4 5 Z5y .tail)) (kr:=.stop))) (kr:=.stop)))) (kr:=(jTa 14 (p:=fun X hX=>(jh hX Zk)) (k:=(jTa 10 (p:=fun X hX=>(Q8.callF rfl Z3 rfl Zk Z1m Q1p Z3t jf)) (k:=(jTp [11,12,13] _ Z39 (jTa 16 (p:=fun X hX=>(jh hX Zk)) (k:=(jTw 4 5 Z5y .tail)) (kr:=.stop)))) (kr:=.stop))) (kr:=.stop))))) (kr:=.stop))))))) (jh hX Zk) ?_
  refine Q4 (Q0 [0,3,5,6,7,8,36] (jh hX Zk) ?_)
  refine jd (fun h3=> ?_) (fun h3=> ?_)
  ·try simp at h3
   all_goals
    rcases spC tk[0] F.i.cls F.c.name F.c.super with ⟨e7,e6,ec,es,ew⟩|⟨e7,e6,ec,es,ew⟩|⟨e7,e6,ec,es,ew⟩|⟨e7,e6,ec,es,ew⟩|⟨e7,e6,ec,es,ew⟩|⟨e7,e6,ec,es,ew⟩
    all_goals
     first|(refine jL 20 [0,1,2,3,4,5,6,7,8,9,10,11,12,13,14,15,16,17,18,19] [] [0,3,5,6,7,9] ([0,1,3]) hX Zj .nil (jm 2 49 [0,3,5,6,7,40,58] (p:=by intro b;(try simp at b);exact (jh hX Z97)) (q:=by intro b;(try simp at b);exact (jh hX Z97)) (k:=(jh hX Zj))) ?_)|(refine jL 20 [0,1,2,3,4,5,6,7,8,9,10,11,12,13,14,15,16,17,18,19] [] [0,3,5,6,7,9] ([0,1,3]) hX Zj .nil (jh hX Zj) ?_)|(refine jL 20 [0,1,2,3,4,5,6,7,8,9,10,11,12,13,14,15,16,17,18,19] [] [0,3,5,6,7,9] ([0,1,3]) hX Zj .nil (jh hX Zj) ?_)
     refine Q4 (Q7 (jL 6 [0,1,2,3,4,5] [] [0,3,5,6,7,9,60] ([0,1]) hX Zj .nil (Q8.call [] rfl Z3 rfl Zk Z7 Z2e Q1z Z3 Z3 Zk (jh hX Zj)) ?_))
     refine jd (fun h5=> ?_) (fun h5=> ?_)
     ·try simp at h5
      refine Q0 [4] (jh hX Zj) ?_
      refine Q5 (Qp Zj Z15 (.of_eq ?_) ?_)
      all_goals clear hX
      ·simp_all[spI,Qay,Qn,Q5v,Q54]
      ·simp_all[spI,Qay,Qn,Q5v,Q54]
     ·try simp at h5
      refine Q0 [0,3,5,6,7,9,69] (jh hX Zj) ?_
      refine jd (fun h7=> ?_) (fun h7=> ?_)
      ·try simp at h7
       refine Q0 [4] (jh hX Zj) ?_
       refine Q5 (Qp Zj Z15 (.of_eq ?_) ?_)
       all_goals clear hX
       ·simp_all[spI,Qay,Qn,Q5v,Q54]
       ·simp_all[spI,Qay,Qn,Q5v,Q54]
      ·try simp at h7
       first|(refine jT 23 (Q17 [0] (.alt 1 (Q17 [2,3,4,6] (.alt 5 (.alt 7 (Q17 [8,9,10,11,12,13,14,15,16,17,18,19] (.alt 20 (Q17 [21] (.alt 22 .tail .stop)) (.alt 22 (.alt 20 (Q17 [21] .tail) .stop) .stop))) .stop) (.alt 7 (.alt 5 (Q17 [8,9,10,11,12,13,14,15,16,17,18,19] (.alt 20 (Q17 [21] (.alt 22 .tail .stop)) (.alt 22 (.alt 20 (Q17 [21] .tail) .stop) .stop))) .stop) .stop))) .stop)) [0,6,9,75] [] hX (jTp [0] _ Z1l (jTa 1 (p:=fun X hX=>(jh hX Zj)) (k:=(jTp [2,3,4,6] _ Z1l (jTa 5 (p:=fun X hX=>(jh hX Zj)) (k:=(jTa 7 (p:=fun X hX=>(jh hX Zj)) (k:=(jTp [8,9,10,11,12,13,14,15,16,17,18,19] _ Z1l (jTa 20 (p:=fun X hX=>(jh hX Zj)) (k:=(jTp [21] _ Z1l (jTa 22 (p:=fun X hX=>(jh hX Zj)) (k:=.tail) (kr:=.stop)))) (kr:=(jTa 22 (p:=fun X hX=>(jh hX Zj)) (k:=(jTa 20 (p:=fun X hX=>(jh hX Zj)) (k:=(jTp [21] _ Z1l .tail)) (kr:=.stop))) (kr:=.stop)))))) (kr:=.stop))) (kr:=(jTa 7 (p:=fun X hX=>(jh hX Zj)) (k:=(jTa 5 (p:=fun X hX=>(jh hX Zj)) (k:=(jTp [8,9,10,11,12,13,14,15,16,17,18,19] _ Z1l (jTa 20 (p:=fun X hX=>(jh hX Zj)) (k:=(jTp [21] _ Z1l (jTa 22 (p:=fun X hX=>(jh hX Zj)) (k:=.tail) (kr:=.stop)))) (kr:=(jTa 22 (p:=fun X hX=>(jh hX Zj)) (k:=(jTa 20 (p:=fun X hX=>(jh hX Zj)) (k:=(jTp [21] _ Z1l .tail)) (kr:=.stop))) (kr:=.stop)))))) (kr:=.stop))) (kr:=.stop)))))) (kr:=.stop))) (Q8.callB rfl Z3 rfl Zk Zd Q2k Z3 Zk (jh hX Zj)) ?_)|(refine jT 23 (Q17 [0] (.alt 1 (Q17 [2,3,4,6] (.alt 5 (.alt 7 (Q17 [8,9,10,11,12,13,14,15,16,17,18,19,20,21,22] .tail) .stop) (.alt 7 (.alt 5 (Q17 [8,9,10,11,12,13,14,15,16,17,18,19,20,21,22] .tail) .stop) .stop))) .stop)) [0,6,9,75] [] hX (jTp [0] _ Z1l (jTa 1 (p:=fun X hX=>(jh hX Zj)) (k:=(jTp [2,3,4,6] _ Z1l (jTa 5 (p:=fun X hX=>(jh hX Zj)) (k:=(jTa 7 (p:=fun X hX=>(jh hX Zj)) (k:=(jTp [8,9,10,11,12,13,14,15,16,17,18,19,20,21,22] _ Z1l .tail)) (kr:=.stop))) (kr:=(jTa 7 (p:=fun X hX=>(jh hX Zj)) (k:=(jTa 5 (p:=fun X hX=>(jh hX Zj)) (k:=(jTp [8,9,10,11,12,13,14,15,16,17,18,19,20,21,22] _ Z1l .tail)) (kr:=.stop))) (kr:=.stop)))))) (kr:=.stop))) (jh hX Zj) ?_)|(refine jT 23 (Q17 [0] (.alt 1 (Q17 [2,3,4,5,6,7,8,9,10,11,12,13,14,15,16,17,18,19] (.alt 20 (Q17 [21] (.alt 22 .tail .stop)) (.alt 22 (.alt 20 (Q17 [21] .tail) .stop) .stop))) .stop)) [0,6,9,75] [] hX (jTp [0] _ Z1l (jTa 1 (p:=fun X hX=>(jh hX Zj)) (k:=(jTp [2,3,4,5,6,7,8,9,10,11,12,13,14,15,16,17,18,19] _ Z1l (jTa 20 (p:=fun X hX=>(jh hX Zj)) (k:=(jTp [21] _ Z1l (jTa 22 (p:=fun X hX=>(jh hX Zj)) (k:=.tail) (kr:=.stop)))) (kr:=(jTa 22 (p:=fun X hX=>(jh hX Zj)) (k:=(jTa 20 (p:=fun X hX=>(jh hX Zj)) (k:=(jTp [21] _ Z1l .tail)) (kr:=.stop))) (kr:=.stop)))))) (kr:=.stop))) (Q8.callB rfl Z3 rfl Zk Zd Q2k Z3 Zk (jh hX Zj)) ?_)|(refine jT 23 (Q17 [0] (.alt 1 (Q17 [2,3,4,5,6,7,8,9,10,11,12,13,14,15,16,17,18,19,20,21,22] .tail) .stop)) [0,6,9,75] [] hX (jTp [0] _ Z1l (jTa 1 (p:=fun X hX=>(jh hX Zj)) (k:=(jTp [2,3,4,5,6,7,8,9,10,11,12,13,14,15,16,17,18,19,20,21,22] _ Z1l .tail)) (kr:=.stop))) (jh hX Zj) ?_)
       refine jd (fun h9=> ?_) (fun h9=> ?_)
       ·try simp at h9
        all_goals
         refine Q0 [4] (jh hX Zj) ?_
         refine Q5 (Qp Zj Z15 (.of_eq ?_) ?_)
         all_goals clear hX
         ·simp_all[spI,Qay,Qn,Q5v,Q54]
         ·simp_all[spI,Qay,Qn,Q5v,Q54]
       ·try simp at h9
        all_goals
         refine Q3 (Q4 (Q0 [0,6,102] (jh hX Zj) ?_))
         refine jd (fun h11=> ?_) (fun h11=> ?_)
         ·try simp at h11
          all_goals
           refine Q1x (n:=8) (A:=[0,1,2,3,4,5,6]) (B:=[7]) (L:=[0,3]) hmo Z24 tok hX Zj (jH (p:=fun X hX=>(Q8.call [] rfl Z3 rfl Zk Z7 Z2u Q3y Z3 Z3 Zk jf)) (k:=.nil)) (Q8.call [0] rfl Z3 rfl Zk Z7 (by apply (Q8j (a:=tk[0]) (b:=Q11 F.c.name))<;>exact Z0) Q8r Z3 Z3 Zk jf) ?_
           refine Q0 [4] (jh hX Zj) ?_
           refine Q5 (Qp Zj Z15 (.of_eq ?_) ?_)
           all_goals clear hX
           ·simp_all[spI,Qay,Qn,Q5v,Q54]
           ·simp_all[spI,Qay,Qn,Q5v,Q54]
         ·try simp at h11
          all_goals
           refine Q1x (n:=5) (A:=[0,1,2,3]) (B:=[4]) (L:=[3]) hmo Z24 tok hX Zj (jH (p:=fun X hX=>(Q8.call [] rfl Z3 rfl Zk Z7 Z2u Q3y Z3 Z3 Zk jf)) (k:=.nil)) (Q8.call [0] rfl Z3 rfl Zk Z7 (by apply (Q8j (a:=tk[0]) (b:=Q11 tk[0].c))<;>exact Z0) Q8r Z3 Z3 Zk jf) ?_
           refine Q0 [4] (jh hX Zj) ?_
           refine Q5 (Qp Zj Z15 (.of_eq ?_) ?_)
           all_goals clear hX
           ·simp_all[spI,Qay,Qn,Q5v,Q54]
           ·simp_all[spI,Qay,Qn,Q5v,Q54]
  ·try simp at h3
   all_goals
    refine Q3 (Q4 (Q7 (jL 7 [0,1,2,3,4,5,6] [] [0,5,6,7,8,118] ([0,1]) hX Zk .nil (jh hX Zk) ?_)))
    refine jd (fun h15=> ?_) (fun h15=> ?_)
    ·try simp at h15
     refine Q0 [4] (jh hX Zk) ?_
     refine Q5 (Qp Zk Z15 (.of_eq ?_) ?_)
     all_goals clear hX
     ·simp_all[spI,Qay,Qn,Q5v,Q54]
     ·simp_all[spI,Qay,Qn,Q5v,Q54]
    ·try simp at h15
     refine Q0 [0,5,6,7,8,127] (jh hX Zk) ?_
     refine jd (fun h17=> ?_) (fun h17=> ?_)
     ·try simp at h17
      refine Q0 [4] (jh hX Zk) ?_
      refine Q5 (Qp Zk Z15 (.of_eq ?_) ?_)
      all_goals clear hX
      ·simp_all[spI,Qay,Qn,Q5v,Q54]
      ·simp_all[spI,Qay,Qn,Q5v,Q54]
     ·try simp at h17
      refine Q0 [0,5,6,133] (js hX 3 Zk (jm 3 136 [0,5,6,139] (p:=Zd7) (q:=Zd7) (k:=(js hX 1 Zk (jm 6 140 [0,5,6,146] (p:=Zd7) (q:=Zd7) (k:=(jh hX Zk))))))) ?_
      refine jd (fun h19=> ?_) (fun h19=> ?_)
      ·try simp at h19
       refine Q0 [4] (jh hX Zk) ?_
       refine Q5 (Qp Zk Z15 (.of_eq ?_) ?_)
       all_goals clear hX
       ·simp_all[spI,Qay,Qn,Q5v,Q54]
       ·simp_all[spI,Qay,Qn,Q5v,Q54]
      ·try simp at h19
       obtain ⟨bL,hL⟩: ∃b,leI F.l (tk[0]'hk) (Q11 F.c.name)=b:=⟨_,rfl⟩
       cases bL
       all_goals
        first|(refine jT 17 (Q17 [0,2,3,4,5] (.alt 1 (.alt 6 (.alt 7 (Q17 [8,9,10,11,12,13,14,15,16] .tail) .stop) .stop) (.alt 6 (.alt 1 (.alt 7 (Q17 [8,9,10,11,12,13,14,15,16] .tail) .stop) .stop) .stop))) [0,5,147] [] hX (jTp [0,2,3,4,5] _ Z3h (jTa 1 (p:=fun X hX=>(jh hX Z20)) (k:=(jTa 6 (p:=fun X hX=>(jh hX Z20)) (k:=(jTa 7 (p:=fun X hX=>(Q8.callB rfl Z3 rfl Zk Zt Qw Z3 Zk jf)) (k:=(jTp [8,9,10,11,12,13,14,15,16] _ Z3h .tail)) (kr:=.stop))) (kr:=.stop))) (kr:=(jTa 6 (p:=fun X hX=>(jh hX Z20)) (k:=(jTa 1 (p:=fun X hX=>(jh hX Z20)) (k:=(jTa 7 (p:=fun X hX=>(Q8.callB rfl Z3 rfl Zk Zt Qw Z3 Zk jf)) (k:=(jTp [8,9,10,11,12,13,14,15,16] _ Z3h .tail)) (kr:=.stop))) (kr:=.stop))) (kr:=.stop))))) (jh hX Z20) ?_)|(refine jT 17 (Q17 [0,2,3,4,5] (.alt 1 (.alt 6 (.alt 7 (Q17 [8,9,10,11,12,13] (.alt 14 (Q17 [15] (.alt 16 .tail .stop)) (.alt 16 (.alt 14 (Q17 [15] .tail) .stop) .stop))) .stop) .stop) (.alt 6 (.alt 1 (.alt 7 (Q17 [8,9,10,11,12,13] (.alt 14 (Q17 [15] (.alt 16 .tail .stop)) (.alt 16 (.alt 14 (Q17 [15] .tail) .stop) .stop))) .stop) .stop) .stop))) [0,5,147] [] hX (jTp [0,2,3,4,5] _ Z3h (jTa 1 (p:=fun X hX=>(jh hX Z20)) (k:=(jTa 6 (p:=fun X hX=>(jh hX Z20)) (k:=(jTa 7 (p:=fun X hX=>(Q8.callB rfl Z3 rfl Zk Zt Qw Z3 Zk jf)) (k:=(jTp [8,9,10,11,12,13] _ Z3h (jTa 14 (p:=fun X hX=>(jh hX Z20)) (k:=(jTp [15] _ Z3h (jTa 16 (p:=fun X hX=>(jh hX Z20)) (k:=.tail) (kr:=.stop)))) (kr:=(jTa 16 (p:=fun X hX=>(jh hX Z20)) (k:=(jTa 14 (p:=fun X hX=>(jh hX Z20)) (k:=(jTp [15] _ Z3h .tail)) (kr:=.stop))) (kr:=.stop)))))) (kr:=.stop))) (kr:=.stop))) (kr:=(jTa 6 (p:=fun X hX=>(jh hX Z20)) (k:=(jTa 1 (p:=fun X hX=>(jh hX Z20)) (k:=(jTa 7 (p:=fun X hX=>(Q8.callB rfl Z3 rfl Zk Zt Qw Z3 Zk jf)) (k:=(jTp [8,9,10,11,12,13] _ Z3h (jTa 14 (p:=fun X hX=>(jh hX Z20)) (k:=(jTp [15] _ Z3h (jTa 16 (p:=fun X hX=>(jh hX Z20)) (k:=.tail) (kr:=.stop)))) (kr:=(jTa 16 (p:=fun X hX=>(jh hX Z20)) (k:=(jTa 14 (p:=fun X hX=>(jh hX Z20)) (k:=(jTp [15] _ Z3h .tail)) (kr:=.stop))) (kr:=.stop)))))) (kr:=.stop))) (kr:=.stop))) (kr:=.stop))))) (Q8.callB rfl Z3 rfl Zk Zd Q2k Z3 Zk (jh hX Z20)) ?_)
        refine jd (fun h21=> ?_) (fun h21=> ?_)
        ·try simp at h21
         all_goals
          refine Q0 [4] (jh hX Z20) ?_
          refine Q5 (Qp Z20 Z15 (.of_eq ?_) ?_)
          all_goals clear hX
          ·simp_all[spI,Qay,Qn,Q5v,Q54]
          ·simp_all[spI,Qay,Qn,Q5v,Q54]
        ·try simp at h21
         all_goals
          refine Q3 (Q0 [4] (js hX 2 Z20 (Q8.call [0] rfl Z3 rfl Zk Z7 Z4w Q7b Z3 Z3 Zk (jh hX Z20))) ?_)
          refine Q5 (Qp Z20 Z15 (.of_eq ?_) ?_)
          all_goals clear hX
          ·simp_all[spI,Qay,Qn,Q5v,Q54]
          ·simp_all[spI,Qay,Qn,Q5v,Q54]
theorem Qmf:Q6 Tryz.prog 187:=jcb Tryz.func187
theorem Qlt{F:SF}{st lo tk:List Typ}(hs:st.length≤1000)(hs2:lo.length≤1000)(ht:tk.length≤1000)(hl:F.l.length≤1048576)(h9:Qs F.l=true)(hz:Q1w F.l≤1048576)(hd:F.i.desc.length≤1099511627776)(hop:F.i.op=36∨F.i.op=37)(kl:tk.length=(Qy F.i.desc).params.length+(if F.i.op=37 then 0 else 1)):Ct Tryz.prog 187 [.ptr 0 0 0,eI F.i] [some (20,[oFl F st lo tk])] (.int .i64 (clI F st lo tk).k) [some (20,[oFl F ((clI F st lo tk).st) ((clI F st lo tk).lo) tk])]:=by
 have hdr:=Nat.le_trans (Q6l F.i.desc).1 hd
 have hdl:=Ql9 F.i.desc
 have hdp: ∀p∈(Qy F.i.desc).params,p.length≤1099511627776:=fun p hp=>Nat.le_trans ((Q6l F.i.desc).2 p hp) hd
 rcases (by omega:F.i.op=36∨F.i.op=37) with h|h
 all_goals first|have e36:(F.i.op=36)=(true=true):=by simp[h]|have e36:(F.i.op=36)=(false=true):=by simp[h]
 all_goals first|have e37:(F.i.op=37)=(true=true):=by simp[h]|have e37:(F.i.op=37)=(false=true):=by simp[h]
 all_goals first|have hk:0<tk.length:=by (simp[h] at kl;omega)|have hk:=trivial
 all_goals simp[h] at kl
 all_goals clear h
 all_goals first|have hk1:1≤tk.length:=by omega|have hk1:=trivial
 all_goals have d2:List.take tk.length (tk.map eT)=tk.map eT:=List.take_of_length_le Z3
 all_goals by_cases hn:F.i.name=[60,105,110,105,116,62]
 all_goals first|have en:(F.i.name=[60,105,110,105,116,62])=(true=true):=by simp[hn]|have en:(F.i.name=[60,105,110,105,116,62])=(false=true):=by simp[hn]
 all_goals clear hn
 all_goals
  refine jbS Tryz.func187 92 fun X hX=> ?_
  refine Q0 [0,3] (jh hX Zh) ?_
  refine jT 9 (Q17 [0,1,4,5,6] (.alt 2 (Q17 [3] (.alt 7 (.alt 8 .tail .stop) .stop)) (.alt 7 (.alt 2 (Q17 [3] (.alt 8 .tail .stop)) .stop) .stop))) [0,3,5,6] [0,1] hX (jTp [0,1,4,5,6] _ Z1e (jTa 2 (p:=fun X hX=>(Q8.callF rfl Z3 rfl Zh Z27 Q1v Z4a jf)) (k:=(jTp [3] _ Z1e (jTa 7 (p:=fun X hX=>(jh hX Zh)) (k:=(jTa 8 (p:=fun X hX=>(jh hX Zh)) (k:=.tail) (kr:=.stop))) (kr:=.stop)))) (kr:=(jTa 7 (p:=fun X hX=>(jh hX Zh)) (k:=(jTa 2 (p:=fun X hX=>(Q8.callF rfl Z3 rfl Zh Z27 Q1v Z4a jf)) (k:=(jTp [3] _ Z1e (jTa 8 (p:=fun X hX=>(jh hX Zh)) (k:=.tail) (kr:=.stop)))) (kr:=.stop))) (kr:=.stop))))) (jh hX Zh) ?_
  refine Q4 (Q7 (Q0 [0,3,5,6,17] (jh hX Zh) ?_))
  refine jd (fun h2=> ?_) (fun h2=> ?_)
  ·try simp at h2
   all_goals
    refine Q0 [4] (jh hX Zh) ?_
    refine Q5 (Qp Zh Z15 (.of_eq ?_) ?_)
    all_goals clear hX
    ·simp_all[clI,Qbb,Qn]
    ·simp_all[clI,Qbb,Qn]
  ·try simp at h2
   all_goals
    refine jL 6 [0,1,2,3,4,5] [] [0,3,5,6,21] ([0,1]) hX Zh .nil (Q8.call [] rfl Z3 rfl Zh Z7 Z2e Q1z Z3 Z3 Zh (jh hX Zh)) ?_
    refine jd (fun h4=> ?_) (fun h4=> ?_)
    ·try simp at h4
     refine Q0 [4] (jh hX Zh) ?_
     refine Q5 (Qp Zh Z15 (.of_eq ?_) ?_)
     all_goals clear hX
     ·simp_all[clI,Qbb,Qn]
     ·simp_all[clI,Qbb,Qn]
    ·try simp at h4
     refine Q3 (jT 17 (Q17 [0,1,2,3,4,5,6,7,8,9] (.alt 10 (Q17 [11,12,13] (.alt 14 (.alt 15 (.alt 16 .tail .stop) .stop) (.alt 15 (.alt 14 (.alt 16 .tail .stop) .stop) .stop))) (.alt 14 (.alt 10 (Q17 [11,12,13] (.alt 15 (.alt 16 .tail .stop) .stop)) (.alt 15 (.alt 10 (Q17 [11,12,13] (.alt 16 .tail .stop)) .stop) .stop)) (.alt 15 (.alt 10 (Q17 [11,12,13] (.alt 14 (.alt 16 .tail .stop) .stop)) (.alt 14 (.alt 10 (Q17 [11,12,13] (.alt 16 .tail .stop)) .stop) .stop)) .stop)))) [0,3,5,6,7,8] [0,1] hX (jTp [0,1,2,3,4,5,6,7,8,9] _ Z1e (jTa 10 (p:=fun X hX=>(Q8.callF rfl Z3 rfl Zh Z1m Q1p Z4a jf)) (k:=(jTp [11,12,13] _ Z1e (jTa 14 (p:=fun X hX=>(jh hX Zh)) (k:=(jTa 15 (p:=fun X hX=>(jh hX Zh)) (k:=(jTa 16 (p:=fun X hX=>(jh hX Zh)) (k:=.tail) (kr:=.stop))) (kr:=.stop))) (kr:=(jTa 15 (p:=fun X hX=>(jh hX Zh)) (k:=(jTa 14 (p:=fun X hX=>(jh hX Zh)) (k:=(jTa 16 (p:=fun X hX=>(jh hX Zh)) (k:=(jTw 3 4 Z5y .tail)) (kr:=.stop))) (kr:=.stop))) (kr:=.stop)))))) (kr:=(jTa 14 (p:=fun X hX=>(jh hX Zh)) (k:=(jTa 10 (p:=fun X hX=>(Q8.callF rfl Z3 rfl Zh Z1m Q1p Z4a jf)) (k:=(jTp [11,12,13] _ Z1e (jTa 15 (p:=fun X hX=>(jh hX Zh)) (k:=(jTa 16 (p:=fun X hX=>(jh hX Zh)) (k:=.tail) (kr:=.stop))) (kr:=.stop)))) (kr:=(jTa 15 (p:=fun X hX=>(jh hX Zh)) (k:=(jTa 10 (p:=fun X hX=>(Q8.callF rfl Z3 rfl Zh Z1m Q1p Z4a jf)) (k:=(jTp [11,12,13] _ Z1e (jTa 16 (p:=fun X hX=>(jh hX Zh)) (k:=.tail) (kr:=.stop)))) (kr:=.stop))) (kr:=.stop))))) (kr:=(jTa 15 (p:=fun X hX=>(jh hX Zh)) (k:=(jTa 10 (p:=fun X hX=>(Q8.callF rfl Z3 rfl Zh Z1m Q1p Z4a jf)) (k:=(jTp [11,12,13] _ Z1e (jTa 14 (p:=fun X hX=>(jh hX Zh)) (k:=(jTa 16 (p:=fun X hX=>(jh hX Zh)) (k:=(jTw 3 4 Z5y .tail)) (kr:=.stop))) (kr:=.stop)))) (kr:=(jTa 14 (p:=fun X hX=>(jh hX Zh)) (k:=(jTa 10 (p:=fun X hX=>(Q8.callF rfl Z3 rfl Zh Z1m Q1p Z4a jf)) (k:=(jTp [11,12,13] _ Z1e (jTa 16 (p:=fun X hX=>(jh hX Zh)) (k:=(jTw 3 4 Z5y .tail)) (kr:=.stop)))) (kr:=.stop))) (kr:=.stop))))) (kr:=.stop))))))) (jh hX Zh) ?_)
     refine Q0 [0,3,5,6,7,8,9] (jh hX Zh) ?_
     refine Q4 (Q0 [0,3,5,6,7,8,9,49] (jh hX Zh) ?_)
     refine jd (fun h8=> ?_) (fun h8=> ?_)
     ·try simp at h8
      all_goals
       refine Qb (jh hX Zh) ?_
       refine Q4 (Q7 (Q0 [0,3,5,6,7,8,9,55] (jh hX Zh) ?_))
       refine jd (fun h10=> ?_) (fun h10=> ?_)
       ·try simp at h10
        refine Q0 [4] (jh hX Zh) ?_
        refine Q5 (Qp Zh Z15 (.of_eq ?_) ?_)
        all_goals clear hX
        ·simp_all[clI,Qbb,Qn]
        ·simp_all[clI,Qbb,Qn]
       ·try simp at h10
        refine Q0 [0,3,5,6,9,61] (jh hX Zh) ?_
        refine jd (fun h12=> ?_) (fun h12=> ?_)
        ·try simp at h12
         refine Q0 [4] (jh hX Zh) ?_
         refine Q5 (Qp Zh Z15 (.of_eq ?_) ?_)
         all_goals clear hX
         ·simp_all[clI,Qbb,Qn]
         ·simp_all[clI,Qbb,Qn]
        ·try simp at h12
         first|(have hq:0<tk.length:=hk;obtain ⟨bL,hL⟩: ∃b,leI F.l (tk[0]'hq) (Q11 F.i.cls)=b:=⟨_,rfl⟩)|obtain ⟨bL,hL⟩: ∃b:Bool,True:=⟨true,trivial⟩
         cases bL
         all_goals
          first|(refine jV 19 (.pur 0 (.pur 1 (.pur 2 (.pur 3 (.pur 4 (.pur 5 (.pur 6 (.pur 10 (.two 7 11 (.pur 8 (.two 9 11 (.one 11 (.one 12 (.pur 13 (.pur 14 (.pur 15 (.pur 16 (.pur 17 (.one 18 .tail)))))))) (.one 9 (.one 12 (.pur 13 (.pur 14 (.pur 15 (.pur 16 (.pur 17 (.one 18 .tail)))))))))) (.one 7 (.pur 8 (.one 9 (.one 12 (.pur 13 (.pur 14 (.pur 15 (.pur 16 (.pur 17 (.one 18 .tail))))))))))))))))))) [0,5,66] hX (jVp Za (jVp Za (jVp Za (jVp Za (jVp Za (jVp Za (jVp Za (jVp Za (jVt (jVo (p:=fun X hX=>(jh hX Za)) (k:=(jVp Za (jVt (jVo (p:=fun X hX=>(jh hX Za)) (k:=(jVo (p:=fun X hX=>(jh hX Za)) (k:=(jVo (p:=fun X hX=>(Q8.callB rfl Z3 rfl Zh Zt Qw Z3 Zh jf)) (k:=(jVp Za (jVp Za (jVp Za (jVp Za (jVp Za (jVo (p:=fun X hX=>(jh hX Za)) (k:=.tail))))))))))))) (jVo (p:=fun X hX=>(jh hX Zg)) (k:=(jVo (p:=fun X hX=>(jh hX Zg)) (k:=(jVo (p:=fun X hX=>(Q8.callB rfl Z3 rfl Z1e Zt Qw Z3 Z1e jf)) (k:=(jVp Zg (jVp Zg (jVp Zg (jVp Zg (jVp Zg (jVo (p:=fun X hX=>(jh hX Zg)) (k:=.tail))))))))))))))))) (jVo (p:=fun X hX=>(jh hX Zg)) (k:=(jVo (p:=fun X hX=>(jh hX Zg)) (k:=(jVp Zg (jVo (p:=fun X hX=>(jh hX Zg)) (k:=(jVo (p:=fun X hX=>(Q8.callB rfl Z3 rfl Z1e Zt Qw Z3 Z1e jf)) (k:=(jVp Zg (jVp Zg (jVp Zg (jVp Zg (jVp Zg (jVo (p:=fun X hX=>(jh hX Zg)) (k:=.tail))))))))))))))))))))))))) (Q8.callB rfl Z3 rfl Zh Zd Q2k Z3 Zh (jh hX Za)) ?_)|(refine jV 19 (.pur 0 (.pur 1 (.pur 2 (.pur 3 (.pur 4 (.pur 5 (.pur 6 (.pur 10 (.two 7 11 (.pur 8 (.two 9 11 (.one 11 (.one 12 (.pur 13 (.pur 14 (.pur 15 (.pur 16 (.pur 17 (.pur 18 .tail)))))))) (.one 9 (.one 12 (.pur 13 (.pur 14 (.pur 15 (.pur 16 (.pur 17 (.pur 18 .tail)))))))))) (.one 7 (.pur 8 (.one 9 (.one 12 (.pur 13 (.pur 14 (.pur 15 (.pur 16 (.pur 17 (.pur 18 .tail))))))))))))))))))) [0,5,66] hX (jVp Za (jVp Za (jVp Za (jVp Za (jVp Za (jVp Za (jVp Za (jVp Za (jVt (jVo (p:=fun X hX=>(jh hX Za)) (k:=(jVp Za (jVt (jVo (p:=fun X hX=>(jh hX Za)) (k:=(jVo (p:=fun X hX=>(jh hX Za)) (k:=(jVo (p:=fun X hX=>(Q8.callB rfl Z3 rfl Zh Zt Qw Z3 Zh jf)) (k:=(jVp Za (jVp Za (jVp Za (jVp Za (jVp Za (jVp Za .tail)))))))))))) (jVo (p:=fun X hX=>(jh hX Zg)) (k:=(jVo (p:=fun X hX=>(jh hX Zg)) (k:=(jVo (p:=fun X hX=>(Q8.callB rfl Z3 rfl Z1e Zt Qw Z3 Z1e jf)) (k:=(jVp Zg (jVp Zg (jVp Zg (jVp Zg (jVp Zg (jVp Zg .tail)))))))))))))))) (jVo (p:=fun X hX=>(jh hX Zg)) (k:=(jVo (p:=fun X hX=>(jh hX Zg)) (k:=(jVp Zg (jVo (p:=fun X hX=>(jh hX Zg)) (k:=(jVo (p:=fun X hX=>(Q8.callB rfl Z3 rfl Z1e Zt Qw Z3 Z1e jf)) (k:=(jVp Zg (jVp Zg (jVp Zg (jVp Zg (jVp Zg (jVp Zg .tail)))))))))))))))))))))))) (jh hX Za) ?_)|(refine jV 19 (.pur 0 (.pur 1 (.pur 2 (.pur 3 (.pur 4 (.pur 5 (.pur 6 (.pur 7 (.pur 8 (.pur 9 (.pur 10 (.pur 11 (.pur 12 (.pur 13 (.pur 14 (.pur 15 (.pur 16 (.pur 17 (.one 18 .tail))))))))))))))))))) [0,5,66] hX (jVp Za (jVp Za (jVp Za (jVp Za (jVp Za (jVp Za (jVp Za (jVp Za (jVp Za (jVp Za (jVp Za (jVp Za (jVp Za (jVp Za (jVp Za (jVp Za (jVp Za (jVp Za (jVo (p:=fun X hX=>(jh hX Za)) (k:=.tail)))))))))))))))))))) (Q8.callB rfl Z3 rfl Zh Zd Q2k Z3 Zh (jh hX Za)) ?_)
          refine jd (fun h14=> ?_) (fun h14=> ?_)
          ·try simp at h14
           all_goals
            refine Q0 [4] (jh hX Za) ?_
            refine Q5 (Qp Za Z15 (.of_eq ?_) ?_)
            all_goals clear hX
            ·simp_all[clI,Qbb,Qn]
            ·simp_all[clI,Qbb,Qn]
          ·try simp at h14
           all_goals
            refine Q3 (Q0 [4] (js hX 2 Za (Q8.call [0] rfl Z3 rfl Zh Z7 Z4w Q7b Z3 Z3 Zh (jh hX Za))) ?_)
            refine Q5 (Qp Za Z15 (.of_eq ?_) ?_)
            all_goals clear hX
            ·simp_all[clI,Qbb,Qn]
            ·simp_all[clI,Qbb,Qn]
     ·try simp at h8
      all_goals
       refine Q3 (Q4 (Q7 (Q0 [0,3,5,6,7,8,9,55] (jh hX Zh) ?_)))
       refine jd (fun h10=> ?_) (fun h10=> ?_)
       ·try simp at h10
        refine Q0 [4] (jh hX Zh) ?_
        refine Q5 (Qp Zh Z15 (.of_eq ?_) ?_)
        all_goals clear hX
        ·simp_all[clI,Qbb,Qn]
        ·simp_all[clI,Qbb,Qn]
       ·try simp at h10
        refine Q0 [0,3,5,6,9,61] (jh hX Zh) ?_
        refine jd (fun h12=> ?_) (fun h12=> ?_)
        ·try simp at h12
         refine Q0 [4] (jh hX Zh) ?_
         refine Q5 (Qp Zh Z15 (.of_eq ?_) ?_)
         all_goals clear hX
         ·simp_all[clI,Qbb,Qn]
         ·simp_all[clI,Qbb,Qn]
        ·try simp at h12
         first|(have hq:0<tk.length:=hk;obtain ⟨bL,hL⟩: ∃b,leI F.l (tk[0]'hq) (Q11 F.i.cls)=b:=⟨_,rfl⟩)|obtain ⟨bL,hL⟩: ∃b:Bool,True:=⟨true,trivial⟩
         cases bL
         all_goals
          first|(refine jV 19 (.pur 0 (.pur 1 (.pur 2 (.pur 3 (.pur 4 (.pur 5 (.pur 6 (.pur 10 (.two 7 11 (.pur 8 (.two 9 11 (.one 11 (.one 12 (.pur 13 (.pur 14 (.pur 15 (.pur 16 (.pur 17 (.one 18 .tail)))))))) (.one 9 (.one 12 (.pur 13 (.pur 14 (.pur 15 (.pur 16 (.pur 17 (.one 18 .tail)))))))))) (.one 7 (.pur 8 (.one 9 (.one 12 (.pur 13 (.pur 14 (.pur 15 (.pur 16 (.pur 17 (.one 18 .tail))))))))))))))))))) [0,5,66] hX (jVp Za (jVp Za (jVp Za (jVp Za (jVp Za (jVp Za (jVp Za (jVp Za (jVt (jVo (p:=fun X hX=>(jh hX Za)) (k:=(jVp Za (jVt (jVo (p:=fun X hX=>(jh hX Za)) (k:=(jVo (p:=fun X hX=>(jh hX Za)) (k:=(jVo (p:=fun X hX=>(Q8.callB rfl Z3 rfl Zh Zt Qw Z3 Zh jf)) (k:=(jVp Za (jVp Za (jVp Za (jVp Za (jVp Za (jVo (p:=fun X hX=>(jh hX Za)) (k:=.tail))))))))))))) (jVo (p:=fun X hX=>(jh hX Zg)) (k:=(jVo (p:=fun X hX=>(jh hX Zg)) (k:=(jVo (p:=fun X hX=>(Q8.callB rfl Z3 rfl Z1e Zt Qw Z3 Z1e jf)) (k:=(jVp Zg (jVp Zg (jVp Zg (jVp Zg (jVp Zg (jVo (p:=fun X hX=>(jh hX Zg)) (k:=.tail))))))))))))))))) (jVo (p:=fun X hX=>(jh hX Zg)) (k:=(jVo (p:=fun X hX=>(jh hX Zg)) (k:=(jVp Zg (jVo (p:=fun X hX=>(jh hX Zg)) (k:=(jVo (p:=fun X hX=>(Q8.callB rfl Z3 rfl Z1e Zt Qw Z3 Z1e jf)) (k:=(jVp Zg (jVp Zg (jVp Zg (jVp Zg (jVp Zg (jVo (p:=fun X hX=>(jh hX Zg)) (k:=.tail))))))))))))))))))))))))) (Q8.callB rfl Z3 rfl Zh Zd Q2k Z3 Zh (jh hX Za)) ?_)|(refine jV 19 (.pur 0 (.pur 1 (.pur 2 (.pur 3 (.pur 4 (.pur 5 (.pur 6 (.pur 10 (.two 7 11 (.pur 8 (.two 9 11 (.one 11 (.one 12 (.pur 13 (.pur 14 (.pur 15 (.pur 16 (.pur 17 (.pur 18 .tail)))))))) (.one 9 (.one 12 (.pur 13 (.pur 14 (.pur 15 (.pur 16 (.pur 17 (.pur 18 .tail)))))))))) (.one 7 (.pur 8 (.one 9 (.one 12 (.pur 13 (.pur 14 (.pur 15 (.pur 16 (.pur 17 (.pur 18 .tail))))))))))))))))))) [0,5,66] hX (jVp Za (jVp Za (jVp Za (jVp Za (jVp Za (jVp Za (jVp Za (jVp Za (jVt (jVo (p:=fun X hX=>(jh hX Za)) (k:=(jVp Za (jVt (jVo (p:=fun X hX=>(jh hX Za)) (k:=(jVo (p:=fun X hX=>(jh hX Za)) (k:=(jVo (p:=fun X hX=>(Q8.callB rfl Z3 rfl Zh Zt Qw Z3 Zh jf)) (k:=(jVp Za (jVp Za (jVp Za (jVp Za (jVp Za (jVp Za .tail)))))))))))) (jVo (p:=fun X hX=>(jh hX Zg)) (k:=(jVo (p:=fun X hX=>(jh hX Zg)) (k:=(jVo (p:=fun X hX=>(Q8.callB rfl Z3 rfl Z1e Zt Qw Z3 Z1e jf)) (k:=(jVp Zg (jVp Zg (jVp Zg (jVp Zg (jVp Zg (jVp Zg .tail)))))))))))))))) (jVo (p:=fun X hX=>(jh hX Zg)) (k:=(jVo (p:=fun X hX=>(jh hX Zg)) (k:=(jVp Zg (jVo (p:=fun X hX=>(jh hX Zg)) (k:=(jVo (p:=fun X hX=>(Q8.callB rfl Z3 rfl Z1e Zt Qw Z3 Z1e jf)) (k:=(jVp Zg (jVp Zg (jVp Zg (jVp Zg (jVp Zg (jVp Zg .tail)))))))))))))))))))))))) (jh hX Za) ?_)|(refine jV 19 (.pur 0 (.pur 1 (.pur 2 (.pur 3 (.pur 4 (.pur 5 (.pur 6 (.pur 7 (.pur 8 (.pur 9 (.pur 10 (.pur 11 (.pur 12 (.pur 13 (.pur 14 (.pur 15 (.pur 16 (.pur 17 (.one 18 .tail))))))))))))))))))) [0,5,66] hX (jVp Za (jVp Za (jVp Za (jVp Za (jVp Za (jVp Za (jVp Za (jVp Za (jVp Za (jVp Za (jVp Za (jVp Za (jVp Za (jVp Za (jVp Za (jVp Za (jVp Za (jVp Za (jVo (p:=fun X hX=>(jh hX Za)) (k:=.tail)))))))))))))))))))) (Q8.callB rfl Z3 rfl Zh Zd Q2k Z3 Zh (jh hX Za)) ?_)
          refine jd (fun h14=> ?_) (fun h14=> ?_)
          ·try simp at h14
           all_goals
            refine Q0 [4] (jh hX Za) ?_
            refine Q5 (Qp Za Z15 (.of_eq ?_) ?_)
            all_goals clear hX
            ·simp_all[clI,Qbb,Qn]
            ·simp_all[clI,Qbb,Qn]
          ·try simp at h14
           all_goals
            refine Q3 (Q0 [4] (js hX 2 Za (Q8.call [0] rfl Z3 rfl Zh Z7 Z4w Q7b Z3 Z3 Zh (jh hX Za))) ?_)
            refine Q5 (Qp Za Z15 (.of_eq ?_) ?_)
            all_goals clear hX
            ·simp_all[clI,Qbb,Qn]
            ·simp_all[clI,Qbb,Qn]
theorem Qme:Q6 Tryz.prog 188:=jcb Tryz.func188
theorem Qls{F:SF}{st lo tk:List Typ}(hs:st.length≤1000)(hs2:lo.length≤1000)(ht:tk.length≤1000)(hl:F.l.length≤1048576):Ct Tryz.prog 188 [.ptr 0 0 0,eI F.i] [some (20,[oFl F st lo tk])] (.int .i64 (csI F st lo tk).k) [some (20,[oFl F ((csI F st lo tk).st) ((csI F st lo tk).lo) tk])]:=by
 refine jbS Tryz.func188 35 fun X hX=> ?_
 refine jq [0,3] ?_
 refine Q4 (Q7 (jL 6 [0,1,2,3,4,5] [] [0,3,5] ([0,1]) hX Z7 .nil (jc [] (c:=Z2e) (a:=Q1z) (k:=jr)) ?_))
 refine jd (fun h1=> ?_) (fun h1=> ?_)
 ·try simp at h1
  refine jq [4] ?_
  refine Q5 (Qp Z7 Z15 (.of_eq ?_) ?_)
  all_goals clear hX
  ·simp_all[csI]
  ·simp_all[csI,Q11]
 ·try simp at h1
  refine Q0 [0,3,14] (jt 4 (k:=(jc [] (c:=(by apply Qb9<;>exact Z0)) (a:=Qbg) (k:=jr)))) ?_
  refine jd (fun h3=> ?_) (fun h3=> ?_)
  ·try simp at h3
   refine jq [4] ?_
   refine Q5 (Qp Z7 Z15 (.of_eq ?_) ?_)
   all_goals clear hX
   ·simp_all[csI]
   ·simp_all[csI,Q11]
  ·try simp at h3
   refine jq [0,3,21] ?_
   refine jd (fun h5=> ?_) (fun h5=> ?_)
   ·try simp at h5
    refine Q0 [4] (jt 3 (k:=(jc [] (c:=Z2u) (a:=Q3y) (k:=(jFz (k:=(jc [0] (c:=(by apply Q21 (ys:=[Q11 F.i.cls])<;>exact Z0)) (a:=Q1k) (k:=jr)))))))) ?_
    refine Q5 (Qp Z7 Z15 (.of_eq ?_) ?_)
    all_goals clear hX
    ·simp_all[csI]
    ·simp_all[csI,Q11]
   ·try simp at h5
    refine Q3 (Q0 [4] (jt 1 (k:=(jc [] (c:=Z36) (a:=Q38) (k:=(jFz (k:=(jc [0] (c:=Z33) (a:=Q1k) (k:=jr)))))))) ?_)
    refine Q5 (Qp Z7 Z15 (.of_eq ?_) ?_)
    all_goals clear hX
    ·simp_all[csI]
    ·simp_all[csI,Q11]
theorem Q7c:Q6 Tryz.prog 265:=jcb Tryz.func265
theorem Qiw{t:Typ}:Ct Tryz.prog 265 [eT t] [] (.bool (Q90 t)) []:=by
 refine jbS Tryz.func265 11 fun X hX=> ?_
 refine jq [1] ?_
 refine Q0 [2] (jt 4 (k:=(jm 4 6 [10] (p:=Zcb) (q:=Zcb) (k:=jr)))) ?_
 refine Q5 (je0 ?_)
 (try simp[Q90]);try grind
theorem Qhq:Q6 Tryz.prog 266:=jcb Tryz.func266
theorem Qhc{t:Typ}:Ct Tryz.prog 266 [eT t] [] (eT (elT t)) []:=by
 refine jbS Tryz.func266 10 fun X hX=> ?_
 refine jq [1,2] ?_
 refine Q4 (jq [1,2,5] ?_)
 refine jd (fun h1=> ?_) (fun h1=> ?_)
 ·try simp at h1
  refine Q0 [2] (jc [] (c:=Z5i) (a:=Q38) (k:=jr)) ?_
  refine Q5 (je0 ?_)
  simp_all[elT,Q11]
 ·try simp at h1
  refine Q3 (Q0 [2] (jt 2 (k:=(jc [] (c:=Z45) (a:=Q3y) (k:=jr)))) ?_)
  refine Q5 (je0 ?_)
  simp_all[elT,Q11]
theorem Qkf:Q6 Tryz.prog 189:=jcb Tryz.func189
theorem Qk2{F:SF}{st lo tk:List Typ}(hs:st.length≤1000)(hs2:lo.length≤1000)(ht:tk.length≤1000)(hl:F.l.length≤1048576)(hd:F.i.desc.length≤1099511627776)(hop:41≤F.i.op∧F.i.op≤44)(k0:0<tk.length)(k1:F.i.op=42∨F.i.op=43→1<tk.length)(k2:F.i.op=43→2<tk.length):Ct Tryz.prog 189 [.ptr 0 0 0,eI F.i] [some (20,[oFl F st lo tk])] (.int .i64 (lsI F st lo tk).k) [some (20,[oFl F ((lsI F st lo tk).st) ((lsI F st lo tk).lo) tk])]:=by
 rcases (by omega:F.i.op=41∨F.i.op=42∨F.i.op=43∨F.i.op=44) with h|h|h|h
 all_goals first|have e41:(F.i.op=41)=(true=true):=by simp[h]|have e41:(F.i.op=41)=(false=true):=by simp[h]
 all_goals first|have e42:(F.i.op=42)=(true=true):=by simp[h]|have e42:(F.i.op=42)=(false=true):=by simp[h]
 all_goals first|have e44:(F.i.op=44)=(true=true):=by simp[h]|have e44:(F.i.op=44)=(false=true):=by simp[h]
 all_goals first|have kk:1<tk.length:=k1 Zb|have kk:=trivial
 all_goals first|have kkk:2<tk.length:=k2 Zb|have kkk:=trivial
 all_goals clear h
 all_goals
  refine jbS Tryz.func189 106 fun X hX=> ?_
  refine Q0 [0,3] (jh hX Zu) ?_
  refine Q0 [0,3,5] (jh hX Zu) ?_
  refine Q4 (Q0 [0,3,5,15] (jh hX Zu) ?_)
  refine jd (fun h2=> ?_) (fun h2=> ?_)
  ·try simp at h2
   all_goals
    refine Q0 [0,5,6] (js hX 2 Zu (Q8.call [] rfl Z3 rfl Zu Z7 (by apply Qc9<;>exact Z0) Q6c Z3 Z3 Zu (jh hX Zu))) ?_
    refine Q4 (Q7 ?_)
    by_cases hc:Q1c F.i.desc=[]
    all_goals first|have ec:(Q1c F.i.desc=[])=(true=true):=by simp[hc]|have ec:(Q1c F.i.desc=[])=(false=true):=by simp[hc]
    all_goals clear hc
    all_goals
     first|(refine Q0 [0,5,6,19] (js hX 8 Z25 (Q8.call [] rfl Z3 rfl Zu Z7 Z2e Q1z Z3 Z3 Zu (jh hX Z25))) ?_)|(refine Q0 [0,5,6,19] (jh hX Z25) ?_)
     refine jd (fun h4=> ?_) (fun h4=> ?_)
     ·try simp at h4
      all_goals
       refine Q0 [4] (jh hX Z25) ?_
       refine Q5 (Qp Z25 Z15 (.of_eq ?_) ?_)
       all_goals clear hX
       ·simp_all[lsI,Q2v,cu]
       ·simp_all[lsI,Q2v,cu]
     ·try simp at h4
      all_goals
       refine Q0 [0,6,31] (js hX 1 Z25 (jFz (k:=(Q8.call [] rfl Z3 rfl Zu Z7 (by apply (Q64 (l:=[tk[0]]))<;>exact Z0) Q4o Z3 Z3 Zu (jh hX Z25))))) ?_
       refine jd (fun h6=> ?_) (fun h6=> ?_)
       ·try simp at h6
        refine Q0 [4] (jh hX Z25) ?_
        refine Q5 (Qp Z25 Z15 (.of_eq ?_) ?_)
        all_goals clear hX
        ·simp_all[lsI,Q2v,cu]
        ·simp_all[lsI,Q2v,cu]
       ·try simp at h6
        refine Q0 [0,6,36] (jh hX Z25) ?_
        refine jd (fun h8=> ?_) (fun h8=> ?_)
        ·try simp at h8
         all_goals
          refine Q0 [4] (js hX 1 Z25 (Q8.call [] rfl Z3 rfl Zu Z7 Z36 Q38 Z3 Z3 Zu (jFz (k:=(Q8.call [0] rfl Z3 rfl Zu Z7 (by apply Q21 (ys:=[⟨4,[],0⟩])<;>exact Z0) Q1k Z3 Z3 Zu (jh hX Z25)))))) ?_
          refine Q5 (Qp Z25 Z15 (.of_eq ?_) ?_)
          all_goals clear hX
          ·simp_all[lsI,Q2v,cu]
          ·simp_all[lsI,Q2v,cu]
        ·try simp at h8
         all_goals
          refine Q3 (Q0 [4] (js hX 3 Z25 (jFz (k:=(Q8.call [0] rfl Z3 rfl Zu Z7 (by apply Q21 (ys:=[⟨5,Q1c F.i.desc,0⟩])<;>exact Z0) Q1k Z3 Z3 Zu (jh hX Z25))))) ?_)
          refine Q5 (Qp Z25 Z15 (.of_eq ?_) ?_)
          all_goals clear hX
          ·simp_all[lsI,Q2v,cu]
          ·simp_all[lsI,Q2v,cu]
  ·try simp at h2
   all_goals
    refine Q3 (Q4 (Q7 ?_))
    obtain ⟨bL,hL⟩: ∃b,Q90 tk[0]=b:=⟨_,rfl⟩
    cases bL
    all_goals
     first|(refine Q0 [0,3,5,48] (js hX 1 Z1f (Q8.call [] rfl Z3 rfl Zu Z7 Z4x Q7c Z3 Z3 Zu (jh hX Z1f))) ?_)|(refine Q0 [0,3,5,48] (js hX 1 Z1f (Q8.call [] rfl Z3 rfl Zu Z7 Z4x Q7c Z3 Z3 Zu (js hX 12 Z1f (jFz (k:=(Q8.call [] rfl Z3 rfl Zu Z7 (by apply (Q64 (l:=[tk[1]]))<;>exact Z0) Q4o Z3 Z3 Zu (jh hX Z1f))))))) ?_)|(refine Q0 [0,3,5,48] (js hX 1 Z1f (Q8.call [] rfl Z3 rfl Zu Z7 Z4x Q7c Z3 Z3 Zu (jh hX Z1f))) ?_)
     refine jd (fun h11=> ?_) (fun h11=> ?_)
     ·try simp at h11
      all_goals
       refine Q0 [4] (jh hX Z1f) ?_
       refine Q5 (Qp Z1f Z15 (.of_eq ?_) ?_)
       all_goals clear hX
       ·simp_all[lsI,Q2v,cu]
       ·simp_all[lsI,Q2v,cu]
     ·try simp at h11
      all_goals
       refine Q0 [0,3,5,68] (jh hX Z1f) ?_
       refine jd (fun h13=> ?_) (fun h13=> ?_)
       ·try simp at h13
        all_goals
         refine Q0 [4] (js hX 1 Z1f (Q8.call [] rfl Z3 rfl Zu Z7 Z36 Q38 Z3 Z3 Zu (jFz (k:=(Q8.call [0] rfl Z3 rfl Zu Z7 Z33 Q1k Z3 Z3 Zu (jh hX Z1f)))))) ?_
         refine Q5 (Qp Z1f Z15 (.of_eq ?_) ?_)
         all_goals clear hX
         ·simp_all[lsI,Q2v,cu]
         ·simp_all[lsI,Q2v,cu]
       ·try simp at h13
        all_goals
         refine Q0 [0,5,76] (jh hX Z1f) ?_
         refine jd (fun h15=> ?_) (fun h15=> ?_)
         ·try simp at h15
          all_goals
           refine Q0 [4] (js hX 2 Z1f (Q8.call [] rfl Z3 rfl Zu Z7 (by apply Qhc<;>exact Z0) Qhq Z3 Z3 Zu (jFz (k:=(Q8.call [0] rfl Z3 rfl Zu Z7 (by apply Q21 (ys:=[elT tk[0]])<;>exact Z0) Q1k Z3 Z3 Zu (jh hX Z1f)))))) ?_
           refine Q5 (Qp Z1f Z15 (.of_eq ?_) ?_)
           all_goals clear hX
           ·simp_all[lsI,Q2v,cu]
           ·simp_all[lsI,Q2v,cu]
         ·try simp at h15
          all_goals
           refine Q0 [0,85] (jh hX Z1f) ?_
           refine jd (fun h17=> ?_) (fun h17=> ?_)
           ·try simp at h17
            refine Q0 [4] (js hX 6 Z1f (jFz (k:=(Q8.call [] rfl Z3 rfl Zu Z7 (by apply (Q64 (l:=[tk[2]]))<;>exact Z0) Q4o Z3 Z3 Zu (Q8.call [] rfl Z3 rfl Zu Z7 Z1k Q1d Z3 Z3 Zu (jh hX Z1f)))))) ?_
            refine Q5 (Qp Z1f Z15 (.of_eq ?_) ?_)
            all_goals clear hX
            ·simp_all[lsI,Q2v,cu]
            ·simp_all[lsI,Q2v,cu]
           ·try simp at h17
            refine Q3 (Q0 [4] (js hX 6 Z1f (Q8.call [] rfl Z3 rfl Zu Z7 (by apply Q93<;>exact Z0) Q3m Z3 Z3 Zu (Q8.call [] rfl Z3 rfl Zu Z7 Z1k Q1d Z3 Z3 Zu (jh hX Z1f)))) ?_)
            refine Q5 (Qp Z1f Z15 (.of_eq ?_) ?_)
            all_goals clear hX
            ·simp_all[lsI,Q2v,cu]
            ·simp_all[lsI,Q2v,cu]
end Go.Proofs
