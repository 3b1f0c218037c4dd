/- Part 10 of what the proofs lean on: what the functions of the program and of the reference compute. Conditions: none. -/
import Derived.Test.YtkjgmpccmpmmiaaGreatK08
set_option linter.all false
set_option linter.unusedVariables false
set_option linter.unusedSimpArgs false
set_option maxHeartbeats 2000000
set_option maxRecDepth 100000
namespace Go.Proofs
open Go Go.Ev
theorem Qf5:Q6 Tryz.prog 81:=jcb Tryz.func81
theorem Qp8{l:List Cls}{c:Cls}{m:Mth}{a:Nat}{f:Frm}(hs:Q1w l≤1048576)(hw:Qs l=true)(ha:a<m.code.length)(hst:f.stack.length≤100)(hlo:f.locals.length≤100)(hia:m.code[a].op=3∨m.code[a].op=4→0≤m.code[a].a)(hd:m.code[a].desc.length≤1099511627776)(hmd:m.desc.length≤1099511627776)(hi:m.name=Qn→0<f.locals.length)(hcl:m.code.length≤1048576)(hhl:m.hdls.length≤1048576):Ct Tryz.prog 81 [.lst false 6 (l.map eC),eC c,eM m,.int .i64 (a:Nat),eFr f] [] (mFl (Q7h (⟨l,c,m,m.code[a],a⟩:SF) f)) []:=by
 have hll:=Q66 hw
 have wa:IntKind.i64.wrap ((a:Int)+1)=(a:Int)+1:=Qc Zb Zb
 refine jbS Tryz.func81 140 fun X hX=> ?_
 refine Q0 [0,3,6,7,9,10] (jh hX Z4r) ?_
 refine Q0 [0,3,7,9,10,11] (js hX 5 Z4r (jF (c:=(by apply Qld<;>exact Z1i)) (a:=Qm2) (k:=(jh hX Z4r)))) ?_
 have hel:=Q14s (⟨l,c,m,m.code[a],a⟩:SF) f
 obtain ⟨x9,hx9⟩: ∃x,efT (⟨l,c,m,m.code[a],a⟩:SF) f=x:=⟨_,rfl⟩
 rw[hx9] at hel
 simp only[hx9]
 refine Q4 (Q0 [0,3,7,9,10,11,24] (jh hX Z4r) ?_)
 refine jd (fun h2=> ?_) (fun h2=> ?_)
 ·try simp at h2
  refine Q0 [10] (jh hX Z4r) ?_
  refine Q5 (Q1b Z4r ?_ rfl)
  rw[Q7h,hx9,Qp5,if_neg h2]
  exact Wk.agg (.cons (Wk.nilSlice _ _) (.cons (Wk.nilSlice _ _) (.cons (Wk.refl _) .nil)))
 ·try simp at h2
  refine Q3 (Q0 [0,3,7,9,10,11,12] (jh hX Z4r) ?_)
  refine Q15 (Le.nilC 5 0 0 1 Z7) ?_
  refine Q15 (Le.nilC 5 0 1 2 Z7) ?_
  refine Q0 [0,3,7,9,10,11,12,13] (jh hX Z4r) ?_
  refine Q4 (Q0 [0,3,7,9,10,11,12,13,37] (js hX 1 Z4r (jc [] (c:=(by apply Qnc<;>exact Z1i)) (a:=Qo0) (k:=(jh hX Z4r)))) ?_)
  refine Qkk (α:=List Int×List Frm) [0,3,7,9,10,11,12,13] (fun p=>[]) (fun p=>[(5,some (3,[.agg [.arr 6 0 p.1.length,.arr 7 0 p.2.length,.int .i64 0]])),(6,some (1,p.1.map iV)),(7,some (2,p.2.map eFr))]) (fun p=>p.1=nx0 (⟨l,c,m,m.code[a],a⟩:SF)∧p.2=fs0 (⟨l,c,m,m.code[a],a⟩:SF) x9.f∧ ¬(Qje m.code[a].op=false∧(m.code.length:Int)≤a+1)) (fun p=>by simp;rfl) ?_ ?_
  ·skip
   refine jd (fun h6=> ?_) (fun h6=> ?_)
   ·try simp at h6
    refine Q4 (Q0 [0,3,7,9,10,11,12,13,43] (jh hX (by simp[ha];(try (simp (disch:=omega) only[Qc];(try simp[ha])));rfl)) ?_)
    refine jd (fun h7=> ?_) (fun h7=> ?_)
    ·try simp at h7
     refine Q0 [10] (jh hX Zba) ?_
     refine Q5 (Q1b Zba ?_ rfl)
     rw[Q7h,hx9,Qp5,if_pos (by simpa using h2),if_pos (by simp_all;try omega)]
     exact Wk.agg (.cons (Wk.nilSlice _ _) (.cons (Wk.nilSlice _ _) (.cons (Wk.refl _) .nil)))
    ·try simp at h7
     refine Q3 (Q0 [0,3,7,9,10,11,12,13] (js hX 4 (by simp[ha,h7];(try (simp (disch:=omega) only[Qc];(try simp[ha,h7])));rfl) (jFz (k:=(jh hX Zba)))) ?_)
     refine Qb (js hX 4 Zba (jFz (k:=(jh hX Zba)))) ?_
     refine Qc4 (([(a:Int)+1],[x9.f])) [0,3,7,9,10,11,12,13] Z3j ?_
     first|(simp_all[nx0,fs0,nx1,fs1];done)|(simp_all[nx0,fs0,nx1,fs1];omega)
   ·try simp at h6
    refine Q3 (Qc4 (([],[])) [0,3,7,9,10,11,12,13] Z3j ?_)
    first|(simp_all[nx0,fs0,nx1,fs1];done)|(simp_all[nx0,fs0,nx1,fs1];omega)
  ·rintro ⟨ns,fs⟩ ⟨hn_ns,hf_fs,hE⟩
   simp only at hn_ns hf_fs
   have hfl:Q7h (⟨l,c,m,m.code[a],a⟩:SF) f=Q61 (⟨l,c,m,m.code[a],a⟩:SF) f.locals m.hdls (nx1 (⟨l,c,m,m.code[a],a⟩:SF)) (fs1 (⟨l,c,m,m.code[a],a⟩:SF) x9.f):=by rw[Q7h,hx9,Qp5,if_pos (by simpa using h2),if_neg hE]
   have u1:=Qv4 (⟨l,c,m,m.code[a],a⟩:SF)
   have u2:=Qvg (⟨l,c,m,m.code[a],a⟩:SF) x9.f
   rw[←hn_ns] at u1
   rw[←hf_fs] at u2
   have w1:(ns.length+1)*8≤140737488355328:=by omega
   have w2:ns.length≤1099511627775:=by omega
   have w3:(fs.length+1)*48≤140737488355328:=by omega
   have w4:fs.length≤1099511627775:=by omega
   refine Q4 (Q0 [0,3,7,9,10,11,12,60] (js hX 1 Z2x (jc [] (c:=(by apply Qli<;>exact Z1i)) (a:=Qm5) (k:=jf))) ?_)
   refine Qkk (α:=List Int×List Frm) [0,3,7,9,10,12] (fun p=>[]) (fun p=>[(5,some (3,[.agg [.arr 6 0 p.1.length,.arr 7 0 p.2.length,.int .i64 0]])),(6,some (1,p.1.map iV)),(7,some (2,p.2.map eFr))]) (fun p=>p.1=nx1 (⟨l,c,m,m.code[a],a⟩:SF)∧p.2=fs1 (⟨l,c,m,m.code[a],a⟩:SF) x9.f) (fun p=>by simp;rfl) ?_ ?_
   ·skip
    refine jd (fun h11=> ?_) (fun h11=> ?_)
    ·try simp at h11
     refine jT 9 (Q17 [0,1,2,3,4,5,6,7] (.alt 8 .tail .stop)) [0,3,7,9,10,11,12] [1,5] hX (jTp [0,1,2,3,4,5,6,7] _ Zao (jTa 8 (p:=fun X hX=>(jFz (k:=jf))) (k:=.tail) (kr:=.stop))) (jh hX Z2x) ?_
     refine jTr 6 (Q17 [0,1,2,3] (.alt 4 (.alt 5 .tail .stop) .stop)) [4,5] hX (jTp [0,1,2,3] _ Zao (jTa 4 (p:=fun X hX=>(jF (c:=(by apply Qp9<;>exact Z1i)) (a:=Qpo) (k:=jf))) (k:=(jTa 5 (p:=fun X hX=>(jFz (k:=jf))) (k:=.tail) (kr:=.stop))) (kr:=.stop))) (jh hX Z2x) ?_
     refine Qc4 ((ns++[m.code[a].a],fs++[x9.f])) [0,3,7,9,10,12] Z3j ?_
     first|(simp_all[nx0,fs0,nx1,fs1];done)|(simp_all[nx0,fs0,nx1,fs1];omega)
    ·try simp at h11
     refine Q3 (Qc4 ((ns,fs)) [0,3,7,9,10,12] Z3j ?_)
     first|(simp_all[nx0,fs0,nx1,fs1];done)|(simp_all[nx0,fs0,nx1,fs1];omega)
   ·rintro ⟨n2,f2⟩ ⟨hn_n2,hf_f2⟩
    simp only at hn_n2 hf_f2
    have u1:=Qv3 (⟨l,c,m,m.code[a],a⟩:SF)
    have u2:=Qzk (⟨l,c,m,m.code[a],a⟩:SF) x9.f
    rw[←hn_n2] at u1
    rw[←hf_f2] at u2
    refine Q4 (Q0 [0,3,7,9,10,12,14] (jh hX Z2x) ?_)
    refine Q7 (Qh (α:=Nat×List Int×List Frm) [0,3,7,9,10,12,14] (fun p=>[(14,.int .i64 (p.1:Nat))]) (fun p=>[(5,some (3,[.agg [.arr 6 0 p.2.1.length,.arr 7 0 p.2.2.length,.int .i64 0]])),(6,some (1,p.2.1.map iV)),(7,some (2,p.2.2.map eFr))]) (fun p=>p.1≤m.hdls.length∧p.2.1.length≤p.1+2∧p.2.2.length≤p.1+2∧Q61 (⟨l,c,m,m.code[a],a⟩:SF) f.locals (m.hdls.drop p.1) p.2.1 p.2.2=Q61 (⟨l,c,m,m.code[a],a⟩:SF) f.locals m.hdls (nx1 (⟨l,c,m,m.code[a],a⟩:SF)) (fs1 (⟨l,c,m,m.code[a],a⟩:SF) x9.f)) (fun p=>m.hdls.length-p.1) (0,n2,f2) (fun p=>by simp;rfl) Z3 ?_ ?_)
    ·exact ⟨by simp,by simp;omega,by simp;omega,by simp[hn_n2,hf_f2]⟩
    rintro ⟨i,ns,fs⟩ ⟨hi1,hi2,hi3,hI⟩
    simp only at hi1 hi2 hi3 hI
    have w1:(ns.length+1)*8≤140737488355328:=by omega
    have w2:ns.length≤1099511627775:=by omega
    have w3:(fs.length+1)*48≤140737488355328:=by omega
    have w4:fs.length≤1099511627775:=by omega
    refine Q4 (Q0 [0,3,7,9,10,12,14,84] (jh hX (by simp[ha,w1,w2,w3,w4,w1,w2,w3,w4];rfl)) ?_)
    refine jd (fun h15=> ?_) (fun h15=> ?_)
    ·try simp at h15
     refine Q3 (Q4 (Qkk (α:=List Int×List Frm) [0,3,7,9,10,12,14] (fun p=>[]) (fun p=>[(5,some (3,[.agg [.arr 6 0 p.1.length,.arr 7 0 p.2.length,.int .i64 0]])),(6,some (1,p.1.map iV)),(7,some (2,p.2.map eFr))]) (fun p=>p.1.length≤i+3∧p.2.length≤i+3∧Q61 (⟨l,c,m,m.code[a],a⟩:SF) f.locals (m.hdls.drop (i+1)) p.1 p.2=Q61 (⟨l,c,m,m.code[a],a⟩:SF) f.locals m.hdls (nx1 (⟨l,c,m,m.code[a],a⟩:SF)) (fs1 (⟨l,c,m,m.code[a],a⟩:SF) x9.f)) (fun p=>by simp;rfl) ?_ ?_))
     ·skip
      refine Q7 (Q0 [0,3,7,9,10,12,14,15] (jh hX Z6j) ?_)
      refine Q4 (Q0 [0,3,7,9,10,12,14,15,101] (js hX 5 Z6j (jm 5 96 [0,3,7,9,10,12,14,15,101] (p:=fun b18_5=>by (try simp at b18_5);exact (jh hX Z8f)) (q:=fun b18_5=>by (try simp at b18_5);exact (jh hX Z8f)) (k:=jf))) ?_)
      refine jd (fun h18=> ?_) (fun h18=> ?_)
      ·try simp at h18
       refine Ql (Qb6 ((ns,fs)) [0,3,7,9,10,12,14] 8 Z1r Z3 Z3 ?_)
       exact ⟨by simp only;omega,by simp only;omega,by rw[←hI,Q6h h15,if_neg Z8b]⟩
      ·try simp at h18
       refine Q3 (Q4 (Q0 [0,3,7,9,10,12,14,15,106] (js hX 3 Z1v (jc [] (c:=(by apply Q5i<;>exact Z1i)) (a:=Q5o) (k:=(jh hX Z1v)))) ?_))
       refine jd (fun h19=> ?_) (fun h19=> ?_)
       ·try simp at h19
        refine Q0 [10] (jh hX Z1v) ?_
        refine Q5 (Q1b Z1v ?_ rfl)
        have hk:hdK (⟨l,c,m,m.code[a],a⟩:SF) m.hdls[i]=6:=by simp_all[hdK,Q16]
        rw[hfl,←hI,Q6h h15,if_pos Z8b,if_neg (by rw[hk];decide),hk]
        exact Wk.agg (.cons (Wk.nilSlice _ _) (.cons (Wk.nilSlice _ _) (.cons (Wk.refl _) .nil)))
       ·try simp at h19
        refine Q3 (Q4 (Q0 [0,3,7,9,10,12,14,15,112] (js hX 3 Z1v (jc [] (c:=(by apply Qh0<;>exact Z1i)) (a:=Q8n) (k:=(jh hX Z1v)))) ?_))
        refine jd (fun h21=> ?_) (fun h21=> ?_)
        ·try simp at h21
         refine Q0 [10] (jh hX Z1v) ?_
         refine Q5 (Q1b Z1v ?_ rfl)
         have hk:hdK (⟨l,c,m,m.code[a],a⟩:SF) m.hdls[i]=10:=by simp_all[hdK,Q16]
         rw[hfl,←hI,Q6h h15,if_pos Z8b,if_neg (by rw[hk];decide),hk]
         exact Wk.agg (.cons (Wk.nilSlice _ _) (.cons (Wk.nilSlice _ _) (.cons (Wk.refl _) .nil)))
        ·try simp at h21
         refine Q3 (Q4 (Q0 [0,3,7,9,10,12,14,15,116] (jh hX Z1v) ?_))
         refine jd (fun h23=> ?_) (fun h23=> ?_)
         ·try simp at h23
          refine Q0 [10] (jh hX Z1v) ?_
          refine Q5 (Q1b Z1v ?_ rfl)
          have hk:hdK (⟨l,c,m,m.code[a],a⟩:SF) m.hdls[i]=11:=by simp_all[hdK,Q16]
          rw[hfl,←hI,Q6h h15,if_pos Z8b,if_neg (by rw[hk];decide),hk]
          exact Wk.agg (.cons (Wk.nilSlice _ _) (.cons (Wk.nilSlice _ _) (.cons (Wk.refl _) .nil)))
         ·try simp at h23
          refine Q3 (Q0 [0,3,7,9,10,12,14,15] (js hX 4 Z1v (jFz (k:=(jh hX Z1v)))) ?_)
          refine jTr 12 (Q17 [0,1,2,3,7,8] (.alt 4 (.alt 5 (.alt 6 (.alt 9 (Q17 [10] (.alt 11 .tail .stop)) .stop) .stop) (.alt 6 (.alt 5 (.alt 9 (Q17 [10] (.alt 11 .tail .stop)) .stop) (.alt 9 (.alt 5 (Q17 [10] (.alt 11 .tail .stop)) .stop) .stop)) .stop)) (.alt 6 (.alt 4 (.alt 5 (.alt 9 (Q17 [10] (.alt 11 .tail .stop)) .stop) (.alt 9 (.alt 5 (Q17 [10] (.alt 11 .tail .stop)) .stop) .stop)) .stop) .stop))) [2,5,8] hX (jTp [0,1,2,3,7,8] _ Z3f (jTa 4 (p:=fun X hX=>(jc [] (c:=Zas) (a:=Q10) (k:=jf))) (k:=(jTa 5 (p:=fun X hX=>(jFz (k:=jf))) (k:=(jTa 6 (p:=fun X hX=>(jZl (k:=jf))) (k:=(jTa 9 (p:=fun X hX=>(jZf (k:=jf))) (k:=(jTp [10] _ Z3f (jTa 11 (p:=fun X hX=>(jFz (k:=jf))) (k:=.tail) (kr:=.stop)))) (kr:=.stop))) (kr:=.stop))) (kr:=(jTa 6 (p:=fun X hX=>(jZl (k:=jf))) (k:=(jTa 5 (p:=fun X hX=>(jFz (k:=jf))) (k:=(jTa 9 (p:=fun X hX=>(jZf (k:=jf))) (k:=(jTp [10] _ Z3f (jTa 11 (p:=fun X hX=>(jFz (k:=jf))) (k:=.tail) (kr:=.stop)))) (kr:=.stop))) (kr:=(jTa 9 (p:=fun X hX=>(jZf (k:=jf))) (k:=(jTa 5 (p:=fun X hX=>(jFz (k:=jf))) (k:=(jTp [10] _ Z3f (jTa 11 (p:=fun X hX=>(jFz (k:=jf))) (k:=.tail) (kr:=.stop)))) (kr:=.stop))) (kr:=.stop))))) (kr:=.stop))))) (kr:=(jTa 6 (p:=fun X hX=>(jZl (k:=jf))) (k:=(jTa 4 (p:=fun X hX=>(jc [] (c:=Zas) (a:=Q10) (k:=jf))) (k:=(jTa 5 (p:=fun X hX=>(jFz (k:=jf))) (k:=(jTa 9 (p:=fun X hX=>(jZf (k:=jf))) (k:=(jTp [10] _ Z3f (jTa 11 (p:=fun X hX=>(jFz (k:=jf))) (k:=.tail) (kr:=.stop)))) (kr:=.stop))) (kr:=(jTa 9 (p:=fun X hX=>(jZf (k:=jf))) (k:=(jTa 5 (p:=fun X hX=>(jFz (k:=jf))) (k:=(jTp [10] _ Z3f (jTa 11 (p:=fun X hX=>(jFz (k:=jf))) (k:=.tail) (kr:=.stop)))) (kr:=.stop))) (kr:=.stop))))) (kr:=.stop))) (kr:=.stop))))) (jh hX Z1v) ?_
          refine Qb6 ((ns++[m.hdls[i].at'],fs++[⟨[Q11 m.hdls[i].cls],f.locals⟩])) [0,3,7,9,10,12,14] 8 Z1r Z3 Z3 ?_
          exact ⟨by simp;omega,by simp;omega,by rw[←hI,Q6h h15,if_pos Z8b,if_pos (by simp_all[hdK,Q16])]⟩
     ·rintro ⟨n3,f3⟩ ⟨hk1,hk2,hK⟩
      simp only at hk1 hk2 hK
      refine Qb (jh hX (by simp[ha,w1,w2,w3,w4,w1,w2,w3,w4,h15];(try (simp (disch:=omega) only[Qc];(try simp[ha,w1,w2,w3,w4,w1,w2,w3,w4,h15])));rfl)) ?_
      refine Qo ((i+1,n3,f3)) [0,3,7,9,10,12,14] (by simp[ha,w1,w2,w3,w4,w1,w2,w3,w4,h15];try (simp (disch:=omega) only[Qc])) ?_ ?_
      ·exact ⟨by simp only;omega,by simp only;omega,by simp only;omega,hK⟩
      ·simp only;omega
    ·try simp at h15
     refine Ql (Q0 [10] (jh hX Z6j) ?_)
     refine Q5 (Q1b Z6j ?_ rfl)
     rw[hfl,←hI,Qu1 Zb]
     exact Wk.refl _
theorem Qnw:Q6 Tryz.prog 91:=jcb Tryz.func91
theorem Qn5{x:Cls}{m:Mth}(hd:m.desc.length≤1099511627776)(hL:m.locals≤1048576):Ct Tryz.prog 91 [eC x,eM m] [] (oFr ⟨[],Qe3 x.name (Qd m.desc).params m⟩) []:=by
 have hpl:=Q7x m.desc
 have hpp:=(Q6k m.desc).2
 refine jbS Tryz.func91 61 fun X hX=> ?_
 refine jq [2,3,4] ?_
 refine jq [2,3,4,5] ?_
 refine Q15 (Le.nilC 3 0 1 3 Z7) ?_
 refine Q4 (jq [2,3,4,5,12] ?_)
 refine jd (fun h2=> ?_) (fun h2=> ?_)
 ·try simp at h2
  refine jq [3,4,5,6] ?_
  refine Q4 (jq [3,4,5,6,18] ?_)
  refine jd (fun h4=> ?_) (fun h4=> ?_)
  ·try simp at h4
   refine Qb jr ?_
   refine Qb jr ?_
   refine Q15 (Le.trans (Le.trim 5 Z1r _ Z3) (Le.of_eq Z7)) ?_
   refine Q0 [3,4,5,7] (jt 2 (k:=(jF (c:=Z6g) (a:=Q34) (k:=jr)))) ?_
   refine Q4 (jq [3,4,5,7,8] ?_)
   refine Q7 (Qh (α:=List Typ×Nat) [3,4,5,7,8] (fun p=>[(8,.int .i64 p.2)]) (fun p=>[(3,some (2,[.agg [.raw (.slice none 0 0),.arr 4 0 p.1.length]])),(4,some (3,p.1.map eT))]) (fun p=>p.2≤(Qd m.desc).params.length∧p.1.length≤1+p.2∧p.1=Q4p x.name m++((Qd m.desc).params.take p.2).map Q1o) (fun p=>(Qd m.desc).params.length-p.2) ((Q4p x.name m,0)) (fun p=>by simp;rfl) Z5z ?_ ?_)
   ·exact ⟨by simp,by simpa using Q4l _ _,by simp⟩
   rintro ⟨o,i⟩ ⟨hi,hn,hI⟩
   simp only at hi hn hI
   have w0:o.length≤1099511627776:=by omega
   have w1:(o.length+1)*32≤140737488355328:=by omega
   have w2:o.length≤1099511627775:=by omega
   refine Q4 (Q0 [3,4,5,7,8,34] (jh hX Z84) ?_)
   refine jd (fun h9=> ?_) (fun h9=> ?_)
   ·try simp at h9
    have hp:((Qd m.desc).params[i]).length≤1099511627776:=Nat.le_trans (hpp _ (List.getElem_mem _)) Zb
    refine Q3 (Q4 (Q7 (Q1x (n:=9) (A:=[0,1,2,3,4,5,6]) (B:=[7,8]) (L:=[3,5]) hmo Z24 tok hX Z4i (jH (p:=fun X hX=>(jc [] (c:=Z3s) (a:=Q22) (k:=jf))) (k:=(jH (p:=fun X hX=>(jh hX Z4i)) (k:=.nil)))) (jh hX Z4i) ?_)))
    refine Qb (jh hX Z3z) ?_
    refine Qm ((o++[Q1o (Qd m.desc).params[i]],i+1)) [3,4,5,7,8] 6 Z1r Z3 Z6c ?_ ?_
    ·exact ⟨by simp only;omega,by simp;omega,by simp only;rw[Qd6 h9,←List.append_assoc,←hI]⟩
    ·simp only;omega
   ·try simp at h9
    have hil:i=(Qd m.desc).params.length:=by omega
    subst hil
    rw[List.take_of_length_le (Nat.le_refl _)] at hI
    subst hI
    refine Ql (Q4 (Q7 (Qh (α:=List Typ) [3,4,5] (fun o=>[]) (fun o=>[(3,some (2,[.agg [.raw (.slice none 0 0),.arr 4 0 o.length]])),(4,some (3,o.map eT))]) (fun o=>o.length≤1048600∧Qii m.locals.toNat o=Qe3 x.name (Qd m.desc).params m) (fun o=>m.locals.toNat-o.length) (Q4p x.name m++(Qd m.desc).params.map Q1o) (fun o=>by simp;rfl) Z3 ?_ ?_)))
    ·exact ⟨by have:=Q4l x.name m;simp;omega,rfl⟩
    rintro o ⟨ho,hJ⟩
    refine Q4 (Q0 [3,4,5,53] (jh hX Zbx) ?_)
    refine jd (fun h12=> ?_) (fun h12=> ?_)
    ·try simp at h12
     have x1:(o.length+1)*32≤140737488355328:=by omega
     have x2:o.length≤1099511627775:=by omega
     refine Q3 (Q7 (Qb (jh hX Z9p) ?_))
     refine Qm (o++[zT]) [3,4,5] 6 Z1r Z3 Z40 ?_ ?_
     ·exact ⟨by simp;omega,by rw[Qi6 Zb];exact hJ⟩
     ·simp;omega
    ·try simp at h12
     rw[Qd0 Zb] at hJ
     subst hJ
     refine Ql (Q0 [4] (jh hX Z6t) ?_)
     refine Q5 (Q1b Z6t ?_ rfl)
     exact Wk.agg (.cons (Wk.nilSlice _ _) (.cons (Wk.refl _) .nil))
  ·try simp at h4
   refine Q3 (Qb jr ?_)
   refine Q15 (Le.trans (Le.trim 5 Z1r _ Z3) (Le.of_eq Z7)) ?_
   refine Q0 [3,4,5,7] (jt 2 (k:=(jF (c:=Z6g) (a:=Q34) (k:=jr)))) ?_
   refine Q4 (jq [3,4,5,7,8] ?_)
   refine Q7 (Qh (α:=List Typ×Nat) [3,4,5,7,8] (fun p=>[(8,.int .i64 p.2)]) (fun p=>[(3,some (2,[.agg [.raw (.slice none 0 0),.arr 4 0 p.1.length]])),(4,some (3,p.1.map eT))]) (fun p=>p.2≤(Qd m.desc).params.length∧p.1.length≤1+p.2∧p.1=Q4p x.name m++((Qd m.desc).params.take p.2).map Q1o) (fun p=>(Qd m.desc).params.length-p.2) ((Q4p x.name m,0)) (fun p=>by simp;rfl) Z5z ?_ ?_)
   ·exact ⟨by simp,by simpa using Q4l _ _,by simp⟩
   rintro ⟨o,i⟩ ⟨hi,hn,hI⟩
   simp only at hi hn hI
   have w0:o.length≤1099511627776:=by omega
   have w1:(o.length+1)*32≤140737488355328:=by omega
   have w2:o.length≤1099511627775:=by omega
   refine Q4 (Q0 [3,4,5,7,8,34] (jh hX Z84) ?_)
   refine jd (fun h9=> ?_) (fun h9=> ?_)
   ·try simp at h9
    have hp:((Qd m.desc).params[i]).length≤1099511627776:=Nat.le_trans (hpp _ (List.getElem_mem _)) Zb
    refine Q3 (Q4 (Q7 (Q1x (n:=9) (A:=[0,1,2,3,4,5,6]) (B:=[7,8]) (L:=[3,5]) hmo Z24 tok hX Z4i (jH (p:=fun X hX=>(jc [] (c:=Z3s) (a:=Q22) (k:=jf))) (k:=(jH (p:=fun X hX=>(jh hX Z4i)) (k:=.nil)))) (jh hX Z4i) ?_)))
    refine Qb (jh hX Z3z) ?_
    refine Qm ((o++[Q1o (Qd m.desc).params[i]],i+1)) [3,4,5,7,8] 6 Z1r Z3 Z6c ?_ ?_
    ·exact ⟨by simp only;omega,by simp;omega,by simp only;rw[Qd6 h9,←List.append_assoc,←hI]⟩
    ·simp only;omega
   ·try simp at h9
    have hil:i=(Qd m.desc).params.length:=by omega
    subst hil
    rw[List.take_of_length_le (Nat.le_refl _)] at hI
    subst hI
    refine Ql (Q4 (Q7 (Qh (α:=List Typ) [3,4,5] (fun o=>[]) (fun o=>[(3,some (2,[.agg [.raw (.slice none 0 0),.arr 4 0 o.length]])),(4,some (3,o.map eT))]) (fun o=>o.length≤1048600∧Qii m.locals.toNat o=Qe3 x.name (Qd m.desc).params m) (fun o=>m.locals.toNat-o.length) (Q4p x.name m++(Qd m.desc).params.map Q1o) (fun o=>by simp;rfl) Z3 ?_ ?_)))
    ·exact ⟨by have:=Q4l x.name m;simp;omega,rfl⟩
    rintro o ⟨ho,hJ⟩
    refine Q4 (Q0 [3,4,5,53] (jh hX Zbx) ?_)
    refine jd (fun h12=> ?_) (fun h12=> ?_)
    ·try simp at h12
     have x1:(o.length+1)*32≤140737488355328:=by omega
     have x2:o.length≤1099511627775:=by omega
     refine Q3 (Q7 (Qb (jh hX Z9p) ?_))
     refine Qm (o++[zT]) [3,4,5] 6 Z1r Z3 Z40 ?_ ?_
     ·exact ⟨by simp;omega,by rw[Qi6 Zb];exact hJ⟩
     ·simp;omega
    ·try simp at h12
     rw[Qd0 Zb] at hJ
     subst hJ
     refine Ql (Q0 [4] (jh hX Z6t) ?_)
     refine Q5 (Q1b Z6t ?_ rfl)
     exact Wk.agg (.cons (Wk.nilSlice _ _) (.cons (Wk.refl _) .nil))
 ·try simp at h2
  refine Q3 (Q0 [3,4,5,7] (jt 2 (k:=(jF (c:=Z6g) (a:=Q34) (k:=jr)))) ?_)
  refine Q4 (jq [3,4,5,7,8] ?_)
  refine Q7 (Qh (α:=List Typ×Nat) [3,4,5,7,8] (fun p=>[(8,.int .i64 p.2)]) (fun p=>[(3,some (2,[.agg [.raw (.slice none 0 0),.arr 4 0 p.1.length]])),(4,some (3,p.1.map eT))]) (fun p=>p.2≤(Qd m.desc).params.length∧p.1.length≤1+p.2∧p.1=Q4p x.name m++((Qd m.desc).params.take p.2).map Q1o) (fun p=>(Qd m.desc).params.length-p.2) ((Q4p x.name m,0)) (fun p=>by simp;rfl) Z5z ?_ ?_)
  ·exact ⟨by simp,by simpa using Q4l _ _,by simp⟩
  rintro ⟨o,i⟩ ⟨hi,hn,hI⟩
  simp only at hi hn hI
  have w0:o.length≤1099511627776:=by omega
  have w1:(o.length+1)*32≤140737488355328:=by omega
  have w2:o.length≤1099511627775:=by omega
  refine Q4 (Q0 [3,4,5,7,8,34] (jh hX Z84) ?_)
  refine jd (fun h9=> ?_) (fun h9=> ?_)
  ·try simp at h9
   have hp:((Qd m.desc).params[i]).length≤1099511627776:=Nat.le_trans (hpp _ (List.getElem_mem _)) Zb
   refine Q3 (Q4 (Q7 (Q1x (n:=9) (A:=[0,1,2,3,4,5,6]) (B:=[7,8]) (L:=[3,5]) hmo Z24 tok hX Z4i (jH (p:=fun X hX=>(jc [] (c:=Z3s) (a:=Q22) (k:=jf))) (k:=(jH (p:=fun X hX=>(jh hX Z4i)) (k:=.nil)))) (jh hX Z4i) ?_)))
   refine Qb (jh hX Z3z) ?_
   refine Qm ((o++[Q1o (Qd m.desc).params[i]],i+1)) [3,4,5,7,8] 6 Z1r Z3 Z6c ?_ ?_
   ·exact ⟨by simp only;omega,by simp;omega,by simp only;rw[Qd6 h9,←List.append_assoc,←hI]⟩
   ·simp only;omega
  ·try simp at h9
   have hil:i=(Qd m.desc).params.length:=by omega
   subst hil
   rw[List.take_of_length_le (Nat.le_refl _)] at hI
   subst hI
   refine Ql (Q4 (Q7 (Qh (α:=List Typ) [3,4,5] (fun o=>[]) (fun o=>[(3,some (2,[.agg [.raw (.slice none 0 0),.arr 4 0 o.length]])),(4,some (3,o.map eT))]) (fun o=>o.length≤1048600∧Qii m.locals.toNat o=Qe3 x.name (Qd m.desc).params m) (fun o=>m.locals.toNat-o.length) (Q4p x.name m++(Qd m.desc).params.map Q1o) (fun o=>by simp;rfl) Z3 ?_ ?_)))
   ·exact ⟨by have:=Q4l x.name m;simp;omega,rfl⟩
   rintro o ⟨ho,hJ⟩
   refine Q4 (Q0 [3,4,5,53] (jh hX Zbx) ?_)
   refine jd (fun h12=> ?_) (fun h12=> ?_)
   ·try simp at h12
    have x1:(o.length+1)*32≤140737488355328:=by omega
    have x2:o.length≤1099511627775:=by omega
    refine Q3 (Q7 (Qb (jh hX Z9p) ?_))
    refine Qm (o++[zT]) [3,4,5] 6 Z1r Z3 Z40 ?_ ?_
    ·exact ⟨by simp;omega,by rw[Qi6 Zb];exact hJ⟩
    ·simp;omega
   ·try simp at h12
    rw[Qd0 Zb] at hJ
    subst hJ
    refine Ql (Q0 [4] (jh hX Z6t) ?_)
    refine Q5 (Q1b Z6t ?_ rfl)
    exact Wk.agg (.cons (Wk.nilSlice _ _) (.cons (Wk.refl _) .nil))
theorem Qm3:Q6 Tryz.prog 306:=jcb Tryz.func306
theorem Qlf{l:List Cls}(hl:l.length≤1099511627776)(hw:Qs l=true){a b:Str}:Ct Tryz.prog 306 [.lst false 6 (l.map eC),.str a,.str b] [] (.str (Qhg l a b)) []:=by
 refine jbS Tryz.func306 20 fun X hX=> ?_
 refine jq [0,1,2] ?_
 refine Q4 (Q7 (Qh (α:=Str) [0,1,2] (fun x=>[(1,.str x)]) (fun x=>[]) (fun x=>Qhg l x b=Qhg l a b) (fun x=>(chS l x).length) (a) (fun x=>by simp;rfl) Z3 ?_ ?_))
 ·rfl
 rintro x hI
 refine Q4 (Q0 [0,1,2,15] (jt 3 (k:=(jm 6 9 [0,1,2,15] (p:=by intro b;(try simp at b);exact (js hX 3 Z1 (Q8.call [] rfl Z3 rfl Z1 Z7 Z5c Q8n Z3 Z3 Z1 (jh hX Z1)))) (q:=Zcb) (k:=jf)))) ?_)
 refine jd (fun h1=> ?_) (fun h1=> ?_)
 ·try simp at h1
  rw[Qvs hw h1.1,if_neg (by simp[h1.2])] at hI
  refine Q3 (Q7 (Qb (jt 2 (k:=(jc [] (c:=Z7o) (a:=Qdt) (k:=jr)))) ?_))
  refine Qo (Q6q l x) [0,1,2] Z5b ?_ ?_
  ·exact hI
  ·rw[Qvu hw h1.1];simp
 ·try simp at h1
  refine Ql (jq [6] ?_)
  refine Q5 (je0 ?_)
  rw[←hI]
  by_cases hx:x=[]
  ·rw[hx,Q134 hw]
  ·rw[Qvs hw hx,if_pos (by simpa using h1 hx)]
theorem Qsa:Q6 Tryz.prog 269:=jcb Tryz.func269
theorem Qrx{l:List Cls}(hl:l.length≤1099511627776)(hw:Qs l=true){a b:Typ}:Ct Tryz.prog 269 [.lst false 6 (l.map eC),eT a,eT b] [] (eT (Q8x l a b)) []:=by
 refine jbS Tryz.func269 78 fun X hX=> ?_
 refine jq [0,4,5,6] ?_
 refine jq [0,4,5,6,7] ?_
 refine Q0 [0,4,5,6,7,8] (jt 4 (k:=(jm 3 14 [0,4,5,6,7,17] (p:=Zcb) (q:=Zcr) (k:=jr)))) ?_
 refine Q0 [0,4,5,6,7,8,9] (jt 4 (k:=(jm 3 21 [0,4,5,6,7,8,24] (p:=Zcb) (q:=Zcr) (k:=jr)))) ?_
 refine Q4 (Q7 (jq [0,4,5,6,7,8,9,25] ?_))
 refine jd (fun h4=> ?_) (fun h4=> ?_)
 ·try simp at h4
  refine jq [6] ?_
  refine Q5 (je0 ?_)
  cases a;cases b;simp only[Q8x,Q7z,zT,Qt,eT] at*
  (try simp_all)<;>grind
 ·try simp at h4
  refine Q0 [0,4,5,6,7,8,9,30] (jt 4 (k:=(jm 2 34 [0,4,5,6,7,8,9,36] (p:=Zcb) (q:=Zcb) (k:=jr)))) ?_
  refine jd (fun h6=> ?_) (fun h6=> ?_)
  ·try simp at h6
   refine jq [6] ?_
   refine Q5 (je0 ?_)
   cases a;cases b;simp only[Q8x,Q7z,zT,Qt,eT] at*
   (try simp_all)<;>grind
  ·try simp at h6
   refine Q0 [0,4,5,6,7,8,9,38] (jt 4 (k:=(jm 2 42 [0,4,5,6,7,8,9,44] (p:=Zcb) (q:=Zcb) (k:=jr)))) ?_
   refine jd (fun h8=> ?_) (fun h8=> ?_)
   ·try simp at h8
    refine jq [6] ?_
    refine Q5 (je0 ?_)
    cases a;cases b;simp only[Q8x,Q7z,zT,Qt,eT] at*
    (try simp_all)<;>grind
   ·try simp at h8
    refine Q0 [0,4,5,6,7,8,9,46] (jt 6 (k:=(jm 9 52 [0,4,5,6,7,8,9,61] (p:=by intro b;(try simp at b);exact (js hX 4 Z1 (jm 4 56 [0,4,5,6,7,8,9,52,60] (p:=Zcb) (q:=Zcb) (k:=(jh hX Z1))))) (q:=Zcb) (k:=jr)))) ?_
    refine jd (fun h10=> ?_) (fun h10=> ?_)
    ·try simp at h10
     refine jL 8 [0,1,2,3,4,5,6] [7] [6] ([0,1]) hX Z7 (jH (p:=fun X hX=>(jc [] (c:=(by apply Qlf<;>exact Z6)) (a:=Qm3) (k:=jf))) (k:=.nil)) jr ?_
     refine Q5 (je0 ?_)
     cases a;cases b;simp only[Q8x,Q7z,zT,Qt,eT] at*
     (try simp_all)<;>grind
    ·try simp at h10
     refine Q0 [6,7,71] (jt 2 (k:=(jm 2 73 [6,7,75] (p:=Zcb) (q:=Zcb) (k:=jr)))) ?_
     refine jd (fun h12=> ?_) (fun h12=> ?_)
     ·try simp at h12
      refine jq [6] ?_
      refine Q5 (je0 ?_)
      cases a;cases b;simp only[Q8x,Q7z,zT,Qt,eT] at*
      (try simp_all)<;>grind
     ·try simp at h12
      refine Q3 (jq [6] ?_)
      refine Q5 (je0 ?_)
      cases a;cases b;simp only[Q8x,Q7z,zT,Qt,eT] at*
      (try simp_all)<;>grind
theorem Qf6:Q6 Tryz.prog 192:=jcb Tryz.func192
theorem Qpa{l:List Cls}(hl:l.length≤1099511627776)(hw:Qs l=true){x y:List Typ}(hx:x.length≤1048576)(e:x.length=y.length):Ct Tryz.prog 192 [.lst false 6 (l.map eC),.lst false 3 (x.map eT),.lst false 3 (y.map eT)] [] (.lst true 3 ((Q5w (Q8x l) x y).map eT)) []:=by
 refine jbS Tryz.func192 30 fun X hX=> ?_
 refine jq [0,1,2] ?_
 refine jq [0,1,2,7] ?_
 refine Q4 (jq [0,1,2,7,8] ?_)
 refine Q7 (Qh (α:=List Typ×Nat) [0,1,2,7,8] (fun p=>[(7,.arr 0 0 p.1.length),(8,.int .i64 p.2)]) (fun p=>[(0,some (3,p.1.map eT))]) (fun p=>p.2≤x.length∧p.1.length=p.2∧p.1=Q5w (Q8x l) (x.take p.2) (y.take p.2)) (fun p=>x.length-p.2) (([],0)) (fun p=>by simp;rfl) Z3 ?_ ?_)
 ·simp[Q5w]
 rintro ⟨o,i⟩ ⟨hi,hn,hI⟩
 simp only at hi hn hI
 have w0:o.length≤1099511627776:=by omega
 have w1:(o.length+1)*32≤140737488355328:=by omega
 have w2:o.length≤1099511627775:=by omega
 refine Q4 (Q0 [0,1,2,7,8,13] (jh hX Z84) ?_)
 refine jd (fun h3=> ?_) (fun h3=> ?_)
 ·try simp at h3
  have h3b:i<y.length:=by omega
  refine Q3 (Q4 (Q7 (Q1x (n:=12) (A:=[0,1,2,3,4,5,6,7,8,9]) (B:=[10,11]) (L:=[]) hmo Z24 tok hX Z99 (jH (p:=fun X hX=>(jc [] (c:=(by apply Qrx<;>exact Z6)) (a:=Qsa) (k:=jf))) (k:=(jH (p:=fun X hX=>jr) (k:=.nil)))) (jh hX Z99) ?_)))
  refine Qb (jh hX Z9) ?_
  refine Qm ((o++[Q8x l x[i] y[i]],i+1)) [0,1,2,7,8] 1 Z1r Z3 Z8t ?_ ?_
  ·exact ⟨by simp only;omega,by simp[hn],by simp only;rw[Qra h3 e,hI]⟩
  ·simp only;omega
 ·try simp at h3
  refine Ql (jq [6] ?_)
  refine Q5 (Q1b (by simp[w0,w1,w2,h3];rfl) ?_ rfl)
  obtain rfl:i=x.length:=by omega
  rw[List.take_of_length_le (Nat.le_refl _),List.take_of_length_le Zb] at hI
  rw[←hI]
  exact Wk.refl _
theorem Qhk:Q6 Tryz.prog 124:=jcb Tryz.func124
theorem Qrw{l:List Cls}(hl:l.length≤1099511627776)(hw:Qs l=true){a b:Frm}(ha:a.stack.length≤1048576)(hb:a.locals.length≤1048576)(e:a.locals.length=b.locals.length):Ct Tryz.prog 124 [.lst false 6 (l.map eC),eFr a,eFr b] [] (oFo (if a.stack.length=b.stack.length then ⟨Q40 l a b,0⟩ else zFo 11)) []:=by
 refine jbS Tryz.func124 29 fun X hX=> ?_
 refine jq [0,4,5,6] ?_
 refine Q4 (jq [0,4,5,6,13] ?_)
 refine jd (fun h1=> ?_) (fun h1=> ?_)
 ·try simp at h1
  refine jq [6] ?_
  refine Q5 (Q1b Z7 ?_ rfl)
  rw[if_neg Zb]
  simp only[zFo]
  exact Wk.agg (.cons (Wk.nilSlice _ _) (.cons (Wk.nilSlice _ _) (.cons (Wk.refl _) .nil)))
 ·try simp at h1
  have h1b:a.stack.length=b.stack.length:=by omega
  refine Q3 (jL 11 [0,1,2,3,4,6,7,8,9,10] [5] [6] ([0,1]) hX Z7 (jH (p:=fun X hX=>(jc [] (c:=Z7w) (a:=Qf6) (k:=jf))) (k:=.nil)) (jc [] (c:=Z7w) (a:=Qf6) (k:=jr)) ?_)
  refine Q5 (Q1b Z7 ?_ rfl)
  rw[if_pos Zb]
  exact Wk.refl _
theorem Qpn:Q6 Tryz.prog 125:=jcb Tryz.func125
theorem Qp7{a b:Frm}(q1:a.stack.length≤1048576)(q2:a.locals.length≤1048576):Ct Tryz.prog 125 [eFr a,eFr b] [] (.bool (decide (a=b))) []:=by
 refine jbS Tryz.func125 59 fun X hX=> ?_
 refine jq [2,3] ?_
 refine Q4 (Q0 [2,3,22] (jt 8 (k:=(jm 8 14 [2,3,22] (p:=Zcb) (q:=Zcb) (k:=jf)))) ?_)
 refine jd (fun h1=> ?_) (fun h1=> ?_)
 ·try simp at h1
  refine jq [4] ?_
  refine Q5 (je0 ?_)
  rw[decide_eq_false (fun e=>by subst e;simp at h1)]
 ·try simp at h1
  obtain ⟨hl1,hl2⟩:a.stack.length=b.stack.length∧a.locals.length=b.locals.length:=by omega
  refine Q3 (Q4 (jq [2,3,5] ?_))
  refine Q7 (Qh (α:=Nat) [2,3,5] (fun i=>[(5,.int .i64 (i:Nat))]) (fun i=>[]) (fun i=>i≤a.stack.length∧a.stack.take i=b.stack.take i) (fun i=>a.stack.length-i) (0) (fun i=>by simp;rfl) Z3 ?_ ?_)
  ·simp
  rintro i ⟨hi,hI⟩
  refine Q4 (jq [2,3,5,27] ?_)
  refine jd (fun h4=> ?_) (fun h4=> ?_)
  ·try simp at h4
   have h4b:i<b.stack.length:=by omega
   refine Q3 (Q4 (Q7 (jD [2,3,5,40] (jQ Z8r) ?_)))
   refine jd (fun h6=> ?_) (fun h6=> ?_)
   ·try simp at h6
    refine Q0 [4] (jh hX Z8r) ?_
    refine Q5 (je Z8r ?_)
    rw[decide_eq_false (fun e=>by subst e;simp at h6)]
   ·try simp at h6
    refine Q3 (Qb (jh hX Z75) ?_)
    refine Qo (i+1) [2,3,5] Z9t ?_ ?_
    ·exact ⟨by omega,Qup hI h4 h4b (Q87.2 (by simpa using h6))⟩
    ·omega
  ·try simp at h4
   have hS:=Qqm hI Zb hl1
   refine Ql (Q4 (Q0 [2,3,6] (jh hX Z7f) ?_))
   refine Q7 (Qh (α:=Nat) [2,3,6] (fun i=>[(6,.int .i64 (i:Nat))]) (fun i=>[]) (fun i=>i≤a.locals.length∧a.locals.take i=b.locals.take i) (fun i=>a.locals.length-i) (0) (fun i=>by simp;rfl) Z3 ?_ ?_)
   ·simp
   rintro i ⟨hj,hJ⟩
   refine Q4 (Q0 [2,3,6,45] (jh hX Z7f) ?_)
   refine jd (fun h9=> ?_) (fun h9=> ?_)
   ·try simp at h9
    have h9b:i<b.locals.length:=by omega
    refine Q3 (Q4 (Q7 (jD [2,3,6,58] (jQ Zc8) ?_)))
    refine jd (fun h11=> ?_) (fun h11=> ?_)
    ·try simp at h11
     refine Q0 [4] (jh hX Zc8) ?_
     refine Q5 (je Zc8 ?_)
     rw[decide_eq_false (fun e=>by subst e;simp at h11)]
    ·try simp at h11
     refine Q3 (Qb (jh hX (by simp[h4,h9,h9b];(try (simp (disch:=omega) only[Qc];(try simp[h4,h9,h9b])));rfl)) ?_)
     refine Qo (i+1) [2,3,6] (by simp[h4,h9,h9b];try (simp (disch:=omega) only[Qc])) ?_ ?_
     ·exact ⟨by omega,Qup hJ h9 h9b (Q87.2 (by simpa using h11))⟩
     ·omega
   ·try simp at h9
    refine Ql (Q0 [4] (jh hX (by simp[h4,h9];rfl)) ?_)
    refine Q5 (je (by simp[h4,h9];rfl) ?_)
    rw[decide_eq_true (Q12v.2 ⟨hS,Qqm hJ Zb hl2⟩)]
theorem Qds:Q6 Tryz.prog 67:=jcb Tryz.func67
theorem Qn4{l:List Cls}{i j:Nat}{c:Cls}{m:Mth}(hp:PL l i j c m):Ct Tryz.prog 67 [.lst false 6 (l.map eC),eC c,eM m] [] (mCk (ckW l c m)) []:=by
 have hw:=hp.hw
 have hs:=hp.hs
 have hll:=Q66 hw
 obtain ⟨q1,q2,q3,q4,q5,q6,q7⟩:=hp.nums
 obtain ⟨d1,d2,d3,d4,d5⟩:=hp.desc
 have q0:0<m.code.length:=by omega
 have w1:(m.code.length:Int)≤281474976710656:=by omega
 have w2:48*(m.code.length:Int)≤281474976710656:=by omega
 have w3:m.code.length≤281474976710656:=by omega
 have w4:m.code.length≤9223372036854775807:=by omega
 refine jbS Tryz.func67 143 fun X hX=> ?_
 refine Q0 [0,4,5,6] (jh hX Z10) ?_
 refine Q0 [0,4,5,6,7] (jh hX Z10) ?_
 refine jT 6 (Q17 [0,2] (.alt 1 (.alt 3 (Q17 [4] (.alt 5 .tail .stop)) (.alt 5 (.alt 3 (Q17 [4] .tail) .stop) .stop)) (.alt 3 (.alt 1 (Q17 [4] (.alt 5 .tail .stop)) (.alt 5 (.alt 1 (Q17 [4] .tail) .stop) .stop)) (.alt 5 (.alt 1 (.alt 3 (Q17 [4] .tail) .stop) (.alt 3 (.alt 1 (Q17 [4] .tail) .stop) .stop)) .stop)))) [0,4,5,6,7,8] [] hX (jTp [0,2] _ Z2l (jTa 1 (p:=fun X hX=>(jh hX Z10)) (k:=(jTa 3 (p:=fun X hX=>(jh hX Z10)) (k:=(jTp [4] _ Z2l (jTa 5 (p:=fun X hX=>(jh hX Z10)) (k:=.tail) (kr:=.stop)))) (kr:=(jTa 5 (p:=fun X hX=>(jh hX Z10)) (k:=(jTa 3 (p:=fun X hX=>(jh hX Z10)) (k:=(jTp [4] _ Z2l (jTw 4 5 Z4y .tail))) (kr:=.stop))) (kr:=.stop))))) (kr:=(jTa 3 (p:=fun X hX=>(jh hX Z10)) (k:=(jTa 1 (p:=fun X hX=>(jh hX Z10)) (k:=(jTp [4] _ Z2l (jTa 5 (p:=fun X hX=>(jh hX Z10)) (k:=(jTw 3 4 Z4y .tail)) (kr:=.stop)))) (kr:=(jTa 5 (p:=fun X hX=>(jh hX Z10)) (k:=(jTa 1 (p:=fun X hX=>(jh hX Z10)) (k:=(jTp [4] _ Z2l (jTw 3 5 Z4y (jTw 4 5 Z4y .tail)))) (kr:=.stop))) (kr:=.stop))))) (kr:=(jTa 5 (p:=fun X hX=>(jh hX Z10)) (k:=(jTa 1 (p:=fun X hX=>(jh hX Z10)) (k:=(jTa 3 (p:=fun X hX=>(jh hX Z10)) (k:=(jTp [4] _ Z2l (jTw 3 4 Z4y (jTw 4 5 Z4y .tail)))) (kr:=.stop))) (kr:=(jTa 3 (p:=fun X hX=>(jh hX Z10)) (k:=(jTa 1 (p:=fun X hX=>(jh hX Z10)) (k:=(jTp [4] _ Z2l (jTw 3 5 Z4y .tail))) (kr:=.stop))) (kr:=.stop))))) (kr:=.stop))))))) (jh hX Z10) ?_
 refine Q15 (Le.nil2 4 3 Z7 Z15) ?_
 refine Q0 [0,4,5,6,7,8,9] (jh hX Z10) ?_
 refine Q0 [0,4,5,6,7,8,9] (jh hX Z10) ?_
 refine jT 5 (Q17 [0,1,2,3] (.alt 4 .tail .stop)) [0,4,5,6,7,8,9] [0,1,5] hX (jTp [0,1,2,3] _ Z2l (jTa 4 (p:=fun X hX=>(jF (c:=(by apply Qn5<;>exact Z1i)) (a:=Qnw) (k:=jf))) (k:=.tail) (kr:=.stop))) (jh hX Z10) ?_
 refine Q0 [0,4,5,6,7,8,9] (jh hX Z10) ?_
 refine Q7 (Qh (α:=CkS) [0,4,5,6,7,8,9] (fun s=>[]) (fun s=>[(3,some (1,s.seen.map bW)),(4,some (2,s.frs.map eFr)),(6,some (1,s.waits.map bW))]) (fun s=>CI l m s∧Q8l l c m (Q6a l m.code.length s) s=ckW l c m) (fun s=>Q6a l m.code.length s) (Qpm m.code.length (stF c m)) (fun s=>by simp;rfl) (by simp[Qpm,stF,Qwp]) ?_ ?_)
 ·exact ⟨hp.begin,rfl⟩
 rintro s ⟨hC,hR⟩
 obtain ⟨c1,c2,c3,c4⟩:=id hC
 refine Q7 (Q0 [0,4,5,6,7,8,9,10] (jh hX Z10) ?_)
 refine Q4 (Q7 (Qh (α:=Nat) [0,4,5,6,7,8,9,10] (fun i0=>[(10,.int .i64 (i0:Nat))]) (fun i0=>[]) (fun i0=>i0≤m.code.length∧ ∀x∈s.waits.take i0,x=false) (fun i0=>m.code.length-i0) (0) (fun i0=>by simp;rfl) Z3 ?_ ?_))
 ·simp
 rintro i0 ⟨hi,hF⟩
 refine Q4 ?_
 by_cases hb:i0<m.code.length
 all_goals first|have hwi:i0<s.waits.length:=by omega|have hwi:=trivial
 all_goals
  first|(refine Q0 [0,4,5,6,7,8,9,10,45] (jh hX (by simp[q0,w1,w2,w3,w4,hb,hwi];rfl)) ?_)|(refine Q0 [0,4,5,6,7,8,9,10,45] (jh hX (by simp[q0,w1,w2,w3,w4,hb,hwi];rfl)) ?_)
  refine jd (fun h8=> ?_) (fun h8=> ?_)
  ·try simp at h8
   all_goals
    refine Q3 (Q7 (Qb (jh hX (by simp[q0,w1,w2,w3,w4,hb,hwi,h8];(try (simp (disch:=omega) only[Qc];(try simp[q0,w1,w2,w3,w4,hb,hwi,h8])));rfl)) ?_))
    refine Qo (i0+1) [0,4,5,6,7,8,9,10] (by simp[q0,w1,w2,w3,w4,hb,hwi,h8];try (simp (disch:=omega) only[Qc])) ?_ ?_
    ·first|exact ⟨by omega,Q7d (p:=fun b=>b) hwi hF (by simpa using h8)⟩|(exfalso;simp at h8)
    ·omega
  ·try simp at h8
   all_goals
    refine Ql (Q4 (Q0 [0,4,5,6,7,8,9,10,50] (jh hX (by simp[q0,w1,w2,w3,w4,hb,hwi,h8];rfl)) ?_))
    refine jd (fun h10=> ?_) (fun h10=> ?_)
    ·try simp at h10
     all_goals try (exfalso;omega)
     all_goals
      have e1:m.code.length≤s.seen.length:=by omega
      have e2:m.code.length≤s.frs.length:=by omega
      have e3:List.take m.code.length (s.seen.map bW)=s.seen.map bW:=List.take_of_length_le Z3l
      have e4:List.take m.code.length (s.frs.map eFr)=s.frs.map eFr:=List.take_of_length_le Z3l
      refine Q0 [6] (jh hX Z9u) ?_
      refine Q5 (Q1b Z9u ?_ rfl)
      have hwn: ∀x∈s.waits,x=false:=by
       obtain rfl:i0=m.code.length:=by omega
       rw[←c3,List.take_of_length_le (Nat.le_refl _)] at hF
       exact hF
      rw[←hR,Q138 (Q16k hwn)]
      exact Wk.refl _
    ·try simp at h10
     all_goals try (exfalso;omega)
     all_goals
      have hwt:s.waits[i0]=true:=by simpa using h8
      have hf:=Q14m hwi hF hwt
      have hw2:=Qxq hwi hwt
      have hG0:=PL.seen hC hb hw2
      have n2:i0<s.frs.length:=by omega
      have hG:FG l m s.frs[i0]:=by rwa [Qa n2] at hG0
      obtain ⟨hP,_⟩:=hp.flow hb hG
      refine Q3 (Q0 [0,4,5,6,7,8,9,10] (jh hX Z2y) ?_)
      rw[show (List.map bW s.waits).set i0 (V.bool false)=(unw s i0).waits.map bW from by simp[unw,List.map_set]]
      refine jT 11 (Q17 [0,1,2,3,4,5,6,7,8] (.alt 9 (.alt 10 .tail .stop) (.alt 10 (.alt 9 .tail .stop) .stop))) [0,4,5,6,7,8,9,10,11] [0,1,4,5] hX (jTp [0,1,2,3,4,5,6,7,8] _ (by simp[q0,w1,w2,w3,w4,hb,hwi,h8,n2];try rfl) (jTa 9 (p:=fun X hX=>(jF (c:=Z3g) (a:=Qf5) (k:=jf))) (k:=(jTa 10 (p:=fun X hX=>(jh hX Z2y)) (k:=.tail) (kr:=.stop))) (kr:=(jTa 10 (p:=fun X hX=>(jh hX Z2y)) (k:=(jTa 9 (p:=fun X hX=>(jF (c:=Z3g) (a:=Qf5) (k:=jf))) (k:=.tail) (kr:=.stop))) (kr:=.stop))))) (jh hX Z2y) ?_
      rw[show (⟨l,c,m,m.code[i0],i0⟩:SF)=fAt l c m i0 from by rw[fAt,Qa hb]]
      have hfl:=hp.flw hb hG
      have he:=Q137 (l:=l) (c:=c) hC hb hw2 hf
      have hlu:=Q136 (l:=l) (c:=c) hC hb hw2 hf
      have hgo:=fun s2=>hp.go (s2:=s2) hC hb hw2 hf
      rw[Qa n2] at he hlu hgo
      obtain ⟨x,hx⟩: ∃x,Q7h (fAt l c m i0) s.frs[i0]=x:=⟨_,rfl⟩
      rw[hx] at hfl he hlu hgo
      rw[hx]
      refine Q4 (Q0 [0,4,5,6,7,8,9,10,11,67] (jh hX Z2y) ?_)
      refine jd (fun h14=> ?_) (fun h14=> ?_)
      ·try simp at h14
       refine Q0 [6] (jh hX Z2y) ?_
       refine Q5 (Q1b Z2y ?_ rfl)
       rw[←hR,he h14]
       exact Wk.agg (.cons (Wk.nilSlice _ _) (.cons (Wk.nilSlice _ _) (.cons (Wk.refl _) (.cons (Wk.refl _) .nil))))
      ·try simp at h14
       have h14:x.k=0:=by simpa using h14
       obtain ⟨f1,f2,f3,f4⟩:=hfl h14
       obtain ⟨u1,u2⟩:=Qml hC hb hw2
       refine Q3 (Q0 [0,4,5,6,7,8,9,10,11,12] (jh hX Z2y) ?_)
       refine Q7 (Qh (α:=Nat×CkS) [0,4,5,6,7,8,9,10,11,12] (fun p=>[(12,.int .i64 (p.1:Nat))]) (fun p=>[(3,some (1,p.2.seen.map bW)),(4,some (2,p.2.frs.map eFr)),(6,some (1,p.2.waits.map bW))]) (fun p=>p.1≤x.nx.length∧CI l m p.2∧Q6a l m.code.length p.2≤Q6a l m.code.length (unw s i0)∧Q68 l (x.nx.drop p.1) (x.fs.drop p.1) p.2=Q68 l x.nx x.fs (unw s i0)) (fun p=>x.nx.length-p.1) (0,unw s i0) (fun p=>by simp;rfl) (by simp[unw]) ?_ ?_)
       ·exact ⟨by simp,u1,Nat.le_refl _,rfl⟩
       rintro ⟨k,s2⟩ ⟨hk1,hk2,hk3,hk4⟩
       simp only at hk1 hk2 hk3 hk4
       refine Q4 (Q0 [0,4,5,6,7,8,9,10,11,12,76] (jh hX Z2y) ?_)
       refine jd (fun h17=> ?_) (fun h17=> ?_)
       ·try simp at h17
        have kf:k<x.fs.length:=by omega
        obtain ⟨t1,t2,t3,t4⟩:=id hk2
        obtain ⟨p,hpx⟩: ∃p:Nat,x.nx[k]=p:=⟨x.nx[k].toNat,by have:=f1 _ (List.getElem_mem h17);omega⟩
        have hpn:p<m.code.length:=by have:=f1 _ (List.getElem_mem h17);omega
        have n3:p<s2.seen.length:=by omega
        have n4:p<s2.frs.length:=by omega
        have n5:p<s2.waits.length:=by omega
        have hg:FG l m x.fs[k]:=f2 _ (List.getElem_mem kf)
        have hgl:=Qgl hg.1
        have hcd:=Qs5 (l:=l) h17 kf s2
        rw[hk4,hpx,Int.toNat_natCast] at hcd
        refine Q3 (Q4 (Qkk (α:=CkS) [0,4,5,6,7,8,9,10,11,12] (fun p=>[]) (fun p=>[(3,some (1,p.seen.map bW)),(4,some (2,p.frs.map eFr)),(6,some (1,p.waits.map bW))]) (fun p=>CI l m p∧Q6a l m.code.length p≤Q6a l m.code.length (unw s i0)∧Q68 l (x.nx.drop (k+1)) (x.fs.drop (k+1)) p=Q68 l x.nx x.fs (unw s i0)) (fun p=>by simp;rfl) ?_ ?_))
        ·skip
         refine Q7 (Q0 [0,4,5,6,7,8,9,10,11,12,13] (jh hX Z16) ?_)
         refine Q4 (Q0 [0,4,5,6,7,8,9,10,11,12,13,89] (jh hX Z16) ?_)
         refine jd (fun h20=> ?_) (fun h20=> ?_)
         ·try simp at h20
          refine Q0 [0,4,5,6,7,8,9,10,11,12,13] (jh hX Z16) ?_
          refine jL 8 [0,1,2,3,4,5,6,7] [] [0,4,5,6,7,8,9,10,11,12,13] ([5,7]) hX Z16 .nil (jh hX Z16) ?_
          refine Q0 [0,4,5,6,7,8,9,10,11,12] (jh hX Z16) ?_
          refine Ql (Qb6 (⟨s2.seen.set p true,s2.frs.set p x.fs[k],s2.waits.set p true⟩) [0,4,5,6,7,8,9,10,11,12] 8 Z1r Z3 Za6 ?_)
          obtain ⟨v1,v2⟩:=Qqg hw ⟨q5,q7⟩ hk2 hpn hg (Qhf n3 (by simpa using h20))
          rw[Qhf n3 (by simpa using h20)] at hcd
          exact ⟨v1,Nat.le_trans v2 hk3,hcd.symm⟩
         ·try simp at h20
          have hsn:s2.seen[p]=true:=by simpa using h20
          have ho:FG l m s2.frs[p]:=by have:=(t4 p hpn).1 (by rw[Qq4 n3];exact hsn);rwa [Qa n4] at this
          have hol:=Qgl ho.1
          have hll2:s2.frs[p].locals.length=x.fs[k].locals.length:=by have:=ho.2.1;have:=hg.2.1;omega
          refine Q3 (jT 13 (Q17 [0,1,2,3,4,5,6,7,8,9,10] (.alt 11 (.alt 12 .tail .stop) (.alt 12 (.alt 11 .tail .stop) .stop))) [0,4,5,6,7,8,9,10,11,12,13,14] [4,5,7] hX (jTp [0,1,2,3,4,5,6,7,8,9,10] _ (by simp[q0,w1,w2,w3,w4,hb,hwi,h8,n2,h17,kf,hpx,hpn,n3,n4,n5];try rfl) (jTa 11 (p:=fun X hX=>(jF (c:=Zat) (a:=Qhk) (k:=jf))) (k:=(jTa 12 (p:=fun X hX=>(jh hX Z16)) (k:=.tail) (kr:=.stop))) (kr:=(jTa 12 (p:=fun X hX=>(jh hX Z16)) (k:=(jTa 11 (p:=fun X hX=>(jF (c:=Zat) (a:=Qhk) (k:=jf))) (k:=.tail) (kr:=.stop))) (kr:=.stop))))) (jh hX Z16) ?_)
          obtain ⟨y,hy⟩: ∃y:FrO,(if s2.frs[p].stack.length=x.fs[k].stack.length then ⟨Q40 l s2.frs[p] x.fs[k],0⟩ else zFo 11)=y:=⟨_,rfl⟩
          rw[hy]
          refine Q4 (Q0 [0,4,5,6,7,8,9,10,11,12,13,14,120] (jh hX Z16) ?_)
          refine jd (fun h25=> ?_) (fun h25=> ?_)
          ·try simp at h25
           have hne: ¬s2.frs[p].stack.length=x.fs[k].stack.length:=fun e=>by rw[if_pos e] at hy;subst hy;simp at h25
           rw[if_neg hne] at hy
           subst hy
           rw[Qvr n3 hsn n4 hne] at hcd
           refine Q0 [6] (jh hX Z16) ?_
           refine Q5 (Q1b Z16 ?_ rfl)
           rw[←hR,hlu h14 hcd]
           exact Wk.agg (.cons (Wk.nilSlice _ _) (.cons (Wk.nilSlice _ _) (.cons (Wk.refl _) (.cons (Wk.refl _) .nil))))
          ·try simp at h25
           have hle:s2.frs[p].stack.length=x.fs[k].stack.length:=by
            by_cases h9:s2.frs[p].stack.length=x.fs[k].stack.length
            ·exact h9
            ·rw[if_neg h9] at hy;subst hy;simp[zFo] at h25
           rw[if_pos hle] at hy
           have hL1:(Q40 l s2.frs[p] x.fs[k]).stack.length=s2.frs[p].stack.length:=Qar hle
           have hL2:(Q40 l s2.frs[p] x.fs[k]).locals.length=s2.frs[p].locals.length:=Qar hll2
           obtain ⟨u,hu⟩: ∃u,Q40 l s2.frs[p] x.fs[k]=u:=⟨_,rfl⟩
           rw[hu] at hL1 hL2 hy
           subst hy
           refine Q3 (jL 7 [0,1,2,3,4,5,6] [] [0,4,5,6,7,8,9,10,11,12,13,14,133] ([4,5,8]) hX Z16 .nil (jF (c:=(by apply Qp7<;>exact Z1i)) (a:=Qpn) (k:=(jh hX Z16))) ?_)
           refine jd (fun h27=> ?_) (fun h27=> ?_)
           ·try simp at h27
            refine Q0 [0,4,5,6,7,8,9,10,11,12,13] (jh hX Z16) ?_
            refine Qb (jh hX Z16) ?_
            refine Qb6 (⟨s2.seen,s2.frs.set p u,s2.waits.set p true⟩) [0,4,5,6,7,8,9,10,11,12] 8 Z1r Z3 Za6 ?_
            have hne: ¬Q40 l s2.frs[p] x.fs[k]=s2.frs[p]:=by rw[hu];simpa using h27
            obtain ⟨v1,v2⟩:=Qqg hw ⟨q5,q7⟩ hk2 hpn hg (Qih n3 hsn n4 hle hne)
            rw[Qih n3 hsn n4 hle hne] at hcd
            rw[hu] at v1 v2 hcd
            exact ⟨v1,Nat.le_trans v2 hk3,hcd.symm⟩
           ·try simp at h27
            refine Q3 (Qb6 (s2) [0,4,5,6,7,8,9,10,11,12] 8 Z1r Z3 Za6 ?_)
            rw[Qdo n3 hsn n4 hle (by rw[hu];simpa using h27)] at hcd
            exact ⟨hk2,hk3,hcd.symm⟩
        ·rintro s3 ⟨hk5,hk6,hk7⟩
         refine Qb (jh hX (by simp[q0,w1,w2,w3,w4,hb,hwi,h8,n2,h17,kf,hpx,hpn,n3,n4,n5];(try (simp (disch:=omega) only[Qc];(try simp[q0,w1,w2,w3,w4,hb,hwi,h8,n2,h17,kf,hpx,hpn,n3,n4,n5])));rfl)) ?_
         refine Qm ((k+1,s3)) [0,4,5,6,7,8,9,10,11,12] 8 Z1r Z3 (by simp[q0,w1,w2,w3,w4,hb,hwi,h8,n2,h17,kf,hpx,hpn,n3,n4,n5];try (simp (disch:=omega) only[Qc])) ?_ ?_
         ·exact ⟨by simp only;omega,hk5,hk6,hk7⟩
         ·simp only;omega
       ·try simp at h17
        have hk4b:=hk4
        rw[Qub Zb] at hk4b
        obtain ⟨g1,g2⟩:=hgo s2 h14 hk4b.symm hk2 hk3
        refine Ql (Qm (s2) [0,4,5,6,7,8,9] 7 Z1r Z3 (by simp[q0,w1,w2,w3,w4,hb,hwi,h8,n2,h17];try (simp (disch:=omega) only[Qc])) ?_ ?_)
        ·exact ⟨hk2,by rw[←g1];exact hR⟩
        ·exact g2
theorem Qo1:Q6 Tryz.prog 23:=jcb Tryz.func23
theorem Qnd{l:List Cls}(hl:Q1w l≤1048576):Ct Tryz.prog 23 [.lst false 6 (l.map eC)] [] (eAl (caW l)) []:=by
 have hll:l.length≤1099511627776:=by unfold Q1w at hl;omega
 refine jbS Tryz.func23 66 fun X hX=> ?_
 refine jq [0,2] ?_
 refine Q4 (jq [0,2,10] ?_)
 refine jd (fun h1=> ?_) (fun h1=> ?_)
 ·try simp at h1
  refine Q0 [2] (jh hX Zs) ?_
  refine Q5 (je Zs ?_)
  rw[caW,if_pos Zb];rfl
 ·try simp at h1
  refine Q3 (Q0 [0,2,3] (js hX 1 Zs (jc [] (c:=(by apply Qjr<;>exact Z1i)) (a:=Qk7) (k:=(jh hX Zs)))) ?_)
  refine Q4 (Q0 [0,2,3,16] (jh hX Zs) ?_)
  refine jd (fun h4=> ?_) (fun h4=> ?_)
  ·try simp at h4
   refine Q0 [2] (jh hX Zs) ?_
   refine Q5 (je Zs ?_)
   rw[caW,if_neg Zb,if_neg Z4j];rfl
  ·try simp at h4
   have hw:Qs l=true:=by rw[Qs];exact decide_eq_true Z4j
   have hW2:(Q31 l).2=0:=by simpa using h4
   have hlen:=Q66 hw
   refine Q3 (Q4 (Q0 [0,2,4] (jh hX Zs) ?_))
   refine Q7 (Qh (α:=Nat) [0,2,4] (fun i=>[(4,.int .i64 (i:Nat))]) (fun i=>[]) (fun i=>i≤l.length∧caC l (l.drop i) i=caC l l 0) (fun i=>l.length-i) (0) (fun i=>by simp;rfl) Z3 ?_ ?_)
   ·simp
   rintro i ⟨hi,hI⟩
   refine Q4 (Q0 [0,2,4,25] (jh hX Zs) ?_)
   refine jd (fun h7=> ?_) (fun h7=> ?_)
   ·try simp at h7
    have p1:i<l.length:=by omega
    have hmz:l[i].methods.length≤1048576:=Nat.le_trans (Qwu p1) hl
    refine Q3 (Q4 (Q7 (Q0 [0,2,4,5] (jh hX (by simp[h1,h7,p1];rfl)) ?_)))
    refine Q7 (Qh (α:=Nat) [0,2,4,5] (fun j=>[(5,.int .i64 (j:Nat))]) (fun j=>[]) (fun j=>j≤l[i].methods.length∧caM l l[i] i (l[i].methods.drop j) j=caM l l[i] i l[i].methods 0) (fun j=>l[i].methods.length-j) (0) (fun j=>by simp;rfl) Z3 ?_ ?_)
    ·simp
    rintro j ⟨hj,hJ⟩
    refine Q4 (Q0 [0,2,4,5,35] (jh hX (by simp[h1,h7,p1];rfl)) ?_)
    refine jd (fun h10=> ?_) (fun h10=> ?_)
    ·try simp at h10
     have p2:j<l[i].methods.length:=by omega
     refine Q3 (Q4 (Q7 (Q0 [0,2,4,5,6] (jh hX Z51) ?_)))
     refine Q4 (Q0 [0,2,4,5,6,47] (jh hX Z51) ?_)
     refine jd (fun h13=> ?_) (fun h13=> ?_)
     ·try simp at h13
      refine Ql (Qb (jh hX Z63) ?_)
      refine Qm (j+1) [0,2,4,5] 2 Z1r Z3 Z8u ?_ ?_
      ·first|exact ⟨by omega,by rw[←Qhs p2 (.inl h13)];exact hJ⟩|exact ⟨by omega,by rw[←Qhs p2 (.inr (by simpa using h15))];exact hJ⟩
      ·omega
     ·try simp at h13
      have hp:PL l i j l[i] l[i].methods[j]:=⟨hw,hl,p1,p2,rfl,rfl,by simpa using h13⟩
      refine Q3 (jT 8 (Q17 [0,1,2,3,4,5] (.alt 6 (.alt 7 .tail .stop) (.alt 7 (.alt 6 .tail .stop) .stop))) [0,2,4,5,7] [2] hX (jTp [0,1,2,3,4,5] _ (by simp[h1,h7,p1,h10,p2];try rfl) (jTa 6 (p:=fun X hX=>(jF (c:=Zai) (a:=Qds) (k:=jf))) (k:=(jTa 7 (p:=fun X hX=>(jh hX Z51)) (k:=.tail) (kr:=.stop))) (kr:=(jTa 7 (p:=fun X hX=>(jh hX Z51)) (k:=(jTa 6 (p:=fun X hX=>(jF (c:=Zai) (a:=Qds) (k:=jf))) (k:=.tail) (kr:=.stop))) (kr:=.stop))))) (jh hX Z51) ?_)
      obtain ⟨x,hx⟩: ∃x,ckW l l[i] l[i].methods[j]=x:=⟨_,rfl⟩
      rw[hx]
      refine Q0 [0,2,4,5,7,57] (jh hX Z51) ?_
      refine jd (fun h15=> ?_) (fun h15=> ?_)
      ·try simp at h15
       refine Q0 [2] (jh hX Z51) ?_
       refine Q5 (je Z51 ?_)
       rw[←hx] at h15⊢
       have e1:=Q13a (l:=l) (c:=l[i]) (i:=i) p2 Zc9 (by simpa using h15)
       rw[hJ] at e1
       rw[caW,if_neg Zb,if_pos hW2,←hI,Q13b p1 e1]
       rfl
      ·try simp at h15
       rw[←hx] at h15
       refine Q3 (Qb (jh hX Z63) ?_)
       refine Qm (j+1) [0,2,4,5] 2 Z1r Z3 Z8u ?_ ?_
       ·first|exact ⟨by omega,by rw[←Qhs p2 (.inl h13)];exact hJ⟩|exact ⟨by omega,by rw[←Qhs p2 (.inr (by simpa using h15))];exact hJ⟩
       ·omega
    ·try simp at h10
     have hM:caM l l[i] i l[i].methods 0=none:=by rw[←hJ];exact Qzw Zb
     refine Ql (Qb (jh hX (by simp[h1,h7,p1,h10];(try (simp (disch:=omega) only[Qc];(try simp[h1,h7,p1,h10])));rfl)) ?_)
     refine Qm (i+1) [0,2,4] 2 Z1r Z3 (by simp[h1,h7,p1,h10];try (simp (disch:=omega) only[Qc])) ?_ ?_
     ·exact ⟨by omega,by rw[←Q13c p1 hM];exact hI⟩
     ·omega
   ·try simp at h7
    refine Ql (Q0 [2] (jh hX Z8a) ?_)
    refine Q5 (je Z8a ?_)
    rw[caW,if_neg Zb,if_pos hW2,←hI,Qzx Zb]
    rfl
theorem Qbo:Q6 Tryz.prog 68:=jcb Tryz.func68
theorem Qbl{l:List Cls}:Ct Tryz.prog 68 [.lst false 6 (l.map eC)] [] (.bool (decide (l.length≤400))) []:=by
 refine jbS Tryz.func68 6 fun X hX=> ?_
 refine jq [0] ?_
 refine jq [2] ?_
 refine Q5 (je0 ?_)
 simp
theorem Q125{l:List Cls}{es:List (Str×Int)}{i:Nat}(h:i<l.length):
  plc es i (l.drop i)=plc (if (Q2w es l[i].name).isSome then es else es++[(l[i].name,(i:Int))]) (i+1) (l.drop (i+1)):=by
 rw[List.drop_eq_getElem_cons h];rfl
abbrev wob (l:List Cls) (bm:Nat):Ob:=some (2,[.agg [.lst false 6 (l.map eC),.raw (.map (some bm))]])
abbrev wst (l:List Cls) (bm:Nat) (a:Nat×List (Str×Int)):St:=⟨sp 40 [(3,.ptr 0 0 0),(12,.lst false 6 (l.map eC)),(13,.int .i64 l.length),(14,.int .i64 a.1)],[wob l bm]⟩
theorem Qpx:Q6 Tryz.prog 126:=jcb Tryz.func126
set_option maxHeartbeats 2000000 in
set_option maxRecDepth 100000 in
theorem Qpj{l:List Cls}(hl:l.length≤1099511627776):Ct Tryz.prog 126 [.lst false 6 (l.map eC)] [] (wv l) []:=by
 refine jbS Tryz.func126 40 fun X hX=> ?_
 refine Q0 [0] (Q8.run tok hX Z7) ?_
 refine Q15 (Le.of_eq Z7) ?_
 refine Q159 (Q11g (F:=places l) (x:= .lst false 6 (l.map eC)) (t2:=2) (Qj:=fun bm e s es=>e= .ret∧s=⟨sp 40 [(2,.ptr 0 0 0)],[wob l bm]⟩∧es=places l) hX Z15
  (by intro X hX;exact Qqw tok hX Z7) Z15 Z7 Z15 Z15 Z15 Z15 (by simp[V.fz]) Z15 ?_ ?_) ?_
 ·intro X1 bm hX1
  refine Q13r fun X' hX' hmk=> ?_
  refine Qxk [3,0] (Q8.run tok hX' Z7) ⟨rfl,?_⟩
  refine Qey ?_
  refine Qey ?_
  refine Q7m fun X' hX' hmk=> ?_
  refine Qkj [3,12,13,14] (Q8.run tok hX' Z7) ?_
  simp only[Qbq]
  refine Qxm ?_
  refine Q15f (α:=Nat×List (Str×Int)) (wst l bm) (fun a=>a.2) (fun a=>a.1≤l.length∧plc a.2 a.1 (l.drop a.1)=places l) (fun a=>l.length-a.1) (0,[]) Z3 rfl ⟨by simp,rfl⟩ ?_
  rintro ⟨i,es⟩ ⟨hi,hI⟩
  simp only at hi hI
  refine Qey ?_
  refine Q7m fun X' hX' hmk=> ?_
  refine Qkj [3,12,13,14,15] (Q8.run tok hX' Z7) ?_
  simp only[Qbq]
  refine Qey ?_
  refine Q103 Z7 (fun h=> ?_) (fun h=> ?_)
  ·simp at h
   refine Q7m fun X' hX' hmk=>Q3 ?_
   simp only[Qbq]
   refine Qey ?_
   refine Qxm ?_
   refine Qey ?_
   refine Q7m fun X' hX' hmk=> ?_
   refine Qkj [3,12,13,14,4,5] (Q8.run tok hX' (by simp[h];rfl)) ?_
   simp only[Qbq]
   refine Qey ?_
   refine Q7m fun X' hX' hmk=> ?_
   refine Q13o [3,12,13,14,4,5,7] hmo Z24 (Q18.step (n0:=0) 6 tok Z7 (Q18.lookR tok hmk Z15 Z15 Z15 Z15 Z15 Z15 Z15 Z15 Z3 Z7 (Q18.run (n0:=0) tok Z7))) ?_
   simp only[Qbq]
   refine Qey ?_
   refine Q7m fun X' hX' hmk=> ?_
   refine Qkj [3,12,13,14,4,5,30] (Q8.run tok hX' Z7) ?_
   simp only[Qbq]
   have hnx:=Q125 (es:=es) h
   have hw:IntKind.i64.wrap ((i:Int)+1)=((i+1:Nat):Int):=by rw[Qc Zb Zb];simp
   refine Q103 Z7 (fun h2=> ?_) (fun h2=> ?_)
   ·have hn:Q2w es l[i].name=none:=by simpa using h2
    refine Q11h (s:=l[i].name) (i:=(i:Int)) 7 tok hmo Z24 (Qui.run (n0:=0) tok Z7) Z15 Z15 Z15 Z15 Z15 Z15 Z15 Z15 Z3 Z3 Z3 hn ?_
    simp only[Qsj,Qbq]
    refine Qxl 1 (by rw[hX1];omega) Z3 Z7 ?_
    refine Q7m fun X' hX' hmk=> ?_
    refine Qkj [3,12,13,14] (Q8.run tok hX' Z7) ?_
    simp only[Qbq]
    refine ⟨(i+1,es++[(l[i].name,(i:Int))]),by simp[hw],rfl,⟨by simp;omega,?_⟩,by simp;omega⟩
    rw[hnx,hn] at hI
    exact hI
   ·have hn:(Q2w es l[i].name).isSome=true:=by simpa using h2
    refine Q7m fun X' hX' hmk=>Q3 ?_
    simp only[Qsj,Qbq]
    refine Qxl 1 (by rw[hX1];omega) Z3 Z7 ?_
    refine Q7m fun X' hX' hmk=> ?_
    refine Qkj [3,12,13,14] (Q8.run tok hX' Z7) ?_
    simp only[Qbq]
    refine ⟨(i+1,es),by simp[hw],rfl,⟨by simp;omega,?_⟩,by simp;omega⟩
    rw[hnx,if_pos hn] at hI
    exact hI
  ·simp at h
   refine Q7m fun X' hX' hmk=>Ql ?_
   simp only[Qbq,Qsj]
   rw[if_pos trivial]
   rw[List.drop_eq_nil_of_le h] at hI
   simp only[plc] at hI
   subst hI
   refine Qey ?_
   refine Q7m fun X' hX' hmk=> ?_
   refine Qkj [2] (Q8.run tok hX' Z7) ?_
   simp only[Qbq]
   exact Q7m fun X' hX' hmk=>Q5 ⟨rfl,by simp,rfl⟩
 ·rintro bm e s es ⟨rfl,rfl,rfl⟩
  exact ⟨.inl rfl,rfl,by simp,by simp[Q4e],rfl⟩
 ·rintro e s ⟨he,rfl⟩
  rcases he with rfl|rfl
  ·exact Q1b Z7 (.of_eq Z15) rfl
  ·exact Qw0 Z7 (.of_eq Z15) rfl
end Go.Proofs
namespace Go.Proofs
open Go Go.Ev
theorem Q2i:Q6 Tryz.prog 230:=jcb Tryz.func230
theorem Qh6{t:Str}:Ct Tryz.prog 230 [.str t] [] (.int .i64 t.length) []:=by
 refine jbS Tryz.func230 5 fun X hX=> ?_
 refine jq [0] ?_
 refine jq [2] ?_
 refine Q5 (je0 ?_)
 simp
theorem Qmd:Q6 Tryz.prog 293:=jcb Tryz.func293
theorem Qlq{t:Str}{p:Nat}{b:Bool}{n:Int}(ht:t.length≤1099511627776)(hp:p≤t.length)(hn0:0≤n)(hn1:n<256):Ct Tryz.prog 293 [.ptr 0 0 0,.int .u8 n] [rdr t p b] (.bool (hit t p b n.toNat)) [rdr t p b]:=by
 obtain ⟨m,rfl⟩: ∃m:Nat,n=m:=⟨n.toNat,by omega⟩
 refine jbS Tryz.func293 35 fun X hX=> ?_
 refine jq [0,1] ?_
 refine jD [4] (jS 6 Z7 (jM 11 10 [0,1,21] (p:=Zd5) (q:=Zcj) (k:=(jS 1 Z7 (jM 12 22 [34] (p:=fun b1_18=>by (try simp at b1_18);exact (jQ (by simp[-Qr,-Qa,b1_18];rfl))) (q:=fun b1_18=>by (try simp at b1_18);exact (jQ Z1)) (k:=(jQ Z7))))))) ?_
 refine Q5 (je0 ?_)
 rcases Nat.lt_or_ge p t.length with h|h
 ·(simp[hit,Q2r h,h])<;>grind
 ·(simp[hit,Q5x h])<;>omega
theorem Q2o:Q6 Tryz.prog 228:=jcb Tryz.func228
theorem Q77{t:Str}{p:Nat}{b:Bool}{n:Int}(ht:t.length≤1099511627776)(hp:p≤t.length)(hn0:0≤n)(hn1:n<256):Ct Tryz.prog 228 [.ptr 0 0 0,.int .u8 n] [rdr t p b] (.bool (hit t p b n.toNat)) [rdr t (adv (hit t p b n.toNat) p) b]:=by
 refine jbS Tryz.func228 16 fun X hX=> ?_
 refine jq [0,1] ?_
 refine Q4 (Q0 [0,8] (jt 2 (k:=(jc [0] (c:=(by apply Qlq<;>exact Z6)) (a:=Qmd) (k:=jr)))) ?_)
 refine jd (fun h1=> ?_) (fun h1=> ?_)
 ·try simp at h1
  refine jq [4] ?_
  refine Q5 (Qp Z7 Z15 (.of_eq ?_) ?_)
  all_goals clear hX
  ·simp_all
  ·simp_all
 ·try simp at h1
  refine Q3 (Q0 [] (jh hX Z9) ?_)
  refine jq [4] ?_
  refine Q5 (Qp Z7 Z15 (.of_eq ?_) ?_)
  all_goals clear hX
  ·simp_all
  ·simp_all
theorem Qai:Q6 Tryz.prog 227:=jcb Tryz.func227
theorem Qae{t:Str}{p:Nat}{b:Bool}{n:Int}(ht:t.length≤1099511627776)(hp:p≤t.length)(hn0:0≤n)(hn1:n<256):Ct Tryz.prog 227 [.ptr 0 0 0,.int .u8 n] [rdr t p b] (.tup []) [rdr t (adv (hit t p b n.toNat) p) (b|| !hit t p b n.toNat)]:=by
 refine jbS Tryz.func227 11 fun X hX=> ?_
 refine Q0 [0,7] (jt 2 (k:=(jc [0] (c:=(by apply Q77<;>exact Z6)) (a:=Q2o) (k:=jr)))) ?_
 refine jd (fun h0=> ?_) (fun h0=> ?_)
 ·try simp at h0
  refine Qb jr ?_
  refine Qk Z7 Z15 (.of_eq ?_) ?_
  all_goals clear hX
  ·rfl
  ·simp_all
 ·try simp at h0
  refine Q3 (Qk Z7 Z15 (.of_eq ?_) ?_)
  all_goals clear hX
  ·rfl
  ·simp_all
theorem Q84:Q6 Tryz.prog 330:=jcb Tryz.func330
theorem Q81{t:Str}{c:UInt8}:Ct Tryz.prog 330 [.str t,.int .u8 c.toNat] [] (.int .i64 (ixL c t)) []:=by
 refine jbS Tryz.func330 8 fun X hX=> ?_
 refine jq [0,1] ?_
 refine Q0 [4] (jt 2 (k:=(Q8.extIB rfl Z3 Z7 Z7 Q16o Z7 jr))) ?_
 refine Q5 (je0 ?_)
 simp
theorem Qhh:Q6 Tryz.prog 324:=jcb Tryz.func324
theorem Qgw{t:Str}{c:UInt8}:Ct Tryz.prog 324 [.str t,.int .u8 c.toNat] [] (.int .i64 (ixL c t)) []:=by
 refine jbS Tryz.func324 8 fun X hX=> ?_
 refine jq [0,1] ?_
 refine Q0 [4] (jt 2 (k:=(jc [] (c:=(by apply Q81<;>exact Z6)) (a:=Q84) (k:=jr)))) ?_
 refine Q5 (je0 ?_)
 simp
theorem Qbf:Q6 Tryz.prog 307:=jcb Tryz.func307
theorem Qjx{c:UInt8}{n:Int}:Ct Tryz.prog 307 [.int .u8 c.toNat,.int .i64 n] [] (.bool (Q47 c (decide (n≤0)))) []:=by
 obtain ⟨k1,k2⟩:=Qr1 c
 rw[show Qd3=[48,49,50,51,52,53,54,55,56,57,97,98,99,100,101,102,103,104,105,106,107,108,109,110,111,112,113,114,115,116,117,118,119,120,121,122,65,66,67,68,69,70,71,72,73,74,75,76,77,78,79,80,81,82,83,84,85,86,87,88,89,90,36] from rfl] at k1 k2
 refine jbS Tryz.func307 18 fun X hX=> ?_
 refine jq [0,1] ?_
 refine Q0 [1,5] (jt 1 (k:=(jc [] (c:=(by apply Qgw<;>exact Z6)) (a:=Qhh) (k:=jr)))) ?_
 refine Q0 [4] (jt 3 (k:=(jm 7 10 [17] (p:=Zcb) (q:=by intro b;(try simp at b);exact (js hX 3 Z1 (jm 3 13 [10,16] (p:=Zcb) (q:=Zcb) (k:=(jh hX Z1))))) (k:=jr)))) ?_
 refine Q5 (je0 ?_)
 by_cases hn:n≤0
 ·rw[decide_eq_true hn,←k1];simp;omega
 ·have hp:0<n:=by omega
  rw[decide_eq_false hn,←k2];simp[hp];grind
theorem Qj2:Q6 Tryz.prog 294:=jcb Tryz.func294
theorem Qir{t:Str}{p:Nat}{b:Bool}(ht:t.length≤1099511627776)(hp:p≤t.length):Ct Tryz.prog 294 [.ptr 0 0 0] [rdr t p b] (.tup []) [rdr t (if b=true then p else (nmP t p).1) (b|| !(nmP t p).2)]:=by
 refine jbS Tryz.func294 69 fun X hX=> ?_
 refine jq [0,2] ?_
 refine Q4 (Q7 (Qh (α:=Nat) [0,2] (fun i=>[]) (fun i=>[(0,rdr t i b)]) (fun i=>p≤i∧i≤t.length∧i-p≤20∧(b=true→i=p)∧i+Q2m (20-(i-p)) (decide (i=p)) (t.drop i)=p+Q2m 20 true (t.drop p)) (fun i=>t.length-i) (p) (fun i=>by simp;rfl) Z3 ?_ ?_))
 ·simp;omega
 rintro i ⟨h0i,hi,hn,hb,hI⟩
 refine Q4 (jD [0,2,50] (jS 6 Z7 (jM 11 12 [0,2,23] (p:=Zd5) (q:=Zcj) (k:=(jS 1 Z7 (jM 8 24 [0,2,32] (p:=fun b1_18=>by (try simp at b1_18);exact (jQ (by simp[-Qr,-Qa,b1_18];(try (simp (disch:=omega) only[Qc];(try simp[-Qr,-Qa,b1_18])));rfl))) (q:=fun b1_18=>by (try simp at b1_18);exact (jQ Z1)) (k:=(jS 1 Z7 (jM 17 33 [0,2,50] (p:=fun b1_27=>by (try simp at b1_27);exact (jS 15 (by simp[-Qr,-Qa,b1_27];(try (simp (disch:=omega) only[Qc];(try simp[-Qr,-Qa,b1_27])));rfl) (jC (c:=Z7j) (a:=Qbf) (k:=(jQ Z1))))) (q:=fun b1_27=>by (try simp at b1_27);exact (jQ Z1)) (k:=(Q18.fin Z22)))))))))) ?_)
 have hge:t.length≤i→Q2m (20-(i-p)) (decide (i=p)) (t.drop i)=0:=fun h=>by rw[List.drop_eq_nil_of_le h];simp[Q2m]
 have hg2:i-p=20→Q2m (20-(i-p)) (decide (i=p)) (t.drop i)=0:=fun h=>by rw[h];simp[Q2m]
 have hg3:=fun h1 h2=> @Qeg t i p h1 h2 h0i
 refine jd (fun h1=> ?_) (fun h1=> ?_)
 ·try simp at h1
  have ⟨⟨⟨h1d,h1a⟩,h1b⟩,h1c⟩:=h1
  rw[Qr h1a,show decide ((i:Int)-p≤0)=decide (i=p) from by simp;omega] at h1c
  rw[hg3 h1a Zb,if_pos h1c] at hI
  refine Q3 (Q7 (Qb (jh hX (by simp[h1];(try (simp (disch:=omega) only[Qc];(try simp[h1])));rfl)) ?_))
  refine Qo (i+1) [0,2] (by simp[h1];try (simp (disch:=omega) only[Qc])) ?_ ?_
  ·exact ⟨by omega,by omega,by omega,by simp_all,by omega⟩
  ·omega
 ·try simp at h1
  have hI2:b=false→i=p+Q2m 20 true (t.drop p):=by
   intro hbf
   rcases Nat.lt_or_ge i t.length with hl|hl
   ·by_cases hk:i-p=20
    ·have:=hg2 hk;omega
    ·rw[hg3 hl Zb] at hI
     have:Q47 t[i] (decide (i=p))=false:=by
      rw[←Qr hl];have:=h1 hbf hl Zb;rwa [show decide ((i:Int)-p≤0)=decide (i=p) from by simp;omega] at this
     rw[this] at hI;simpa using hI
   ·have:=hge hl;omega
  have hnm:b=false→nmP t p=if (Q23 t i 59&& !decide (i=p)) then (i+1,true) else (i,false):=by
   intro hbf;simp only[nmP,←hI2 hbf]
  clear hI hI2 hg2 hg3 hge
  refine Ql (Q4 (Q0 [0,63] (jh hX Zs) ?_))
  refine' Qbi [0] Z7 Z15 (fun h3=> ?a1_1) (fun h3=> ?a0_1) ?ak_1
  case a1_1=>
   try simp at h3
   refine Qb (jh hX Zs) ?_
   exact ⟨rfl,Eq.trans Z22 Z15⟩
  case a0_1=>
   try simp at h3
   refine Q3 ?_
   exact ⟨rfl,Eq.trans Z22 Z15⟩
  case ak_1=>
   refine Q15 (Le.of_eq Z7) ?_
   refine Qb (jt 1 (k:=(jc [0] (c:=(by apply Qae<;>exact Z6)) (a:=Qai) (k:=jf)))) ?_
   refine Qk Zs Z15 (.of_eq ?_) ?_
   all_goals clear hX
   ·rfl
   ·skip
    cases b
    ·have hnm:=hnm rfl
     by_cases hip:i=p<;>by_cases h9:Q23 t i 59=true<;>simp_all[hit]
    ·simp_all[hit]
theorem Q5a:Q6 Tryz.prog 229:=jcb Tryz.func229
theorem Qaf{t:Str}{p:Nat}(ht:t.length≤1099511627776)(hp:p≤t.length):Ct Tryz.prog 229 [.ptr 0 0 0] [rdr t p false] (.str (if (tyP t p).2=true then seg t p (tyP t p).1 else [])) [rdr t (tyP t p).1 (!(tyP t p).2)]:=by
 refine jbS Tryz.func229 35 fun X hX=> ?_
 refine jq [0] ?_
 refine jq [0,3] ?_
 refine Q0 [0,3] (jt 1 (k:=(jc [0] (c:=Z4o) (a:=Q2o) (k:=jf)))) ?_
 obtain ⟨q,hq,hqt,hql,hpq⟩: ∃q,adv (Q23 t p 91) p=q∧tyP t p=Q5b t q∧q≤t.length∧p≤q:=⟨_,rfl,by simp only[tyP];split<;>simp_all,by have:= @Qyr t p 91;omega,by have:= @Qyr t p 91;omega⟩
 refine Q15 (Le.of_eq (by simp[hq];rfl)) ?_
 refine Q4 (Q7 (Q0 [0,3,13] (jt 1 (k:=(jc [0] (c:=Z4o) (a:=Q2o) (k:=jr)))) ?_))
 refine jd (fun h4=> ?_) (fun h4=> ?_)
 ·try simp at h4
  have h4l:=Q3o h4
  have s1:q+1≤t.length:=h4l
  have s2:p≤q+1:=by omega
  refine Q3 (Q4 (Q0 [0,3,24] (jh hX Zbl) ?_))
  refine jd (fun h7=> ?_) (fun h7=> ?_)
  ·try simp at h7
   all_goals
    refine jq [2] ?_
    refine Q5 (Qp Zbl Z15 (.of_eq ?_) ?_)
    all_goals clear hX
    ·simp_all[Q5b,seg]
    ·simp_all[Q5b]
  ·try simp at h7
   all_goals
    refine Q3 (jD [2] (jQ Zbl) ?_)
    refine Q5 (Qp Zbl Z15 (.of_eq ?_) ?_)
    all_goals clear hX
    ·simp_all[Q5b,seg]
    ·simp_all[Q5b]
 ·try simp at h4
  skip
  refine Q0 [0,3,16] (jt 1 (k:=(Q8.call [0] rfl Z3 rfl Z7f Z7 Z4o Q2o Z3 Z3 Z7f jr))) ?_
  refine jd (fun h5=> ?_) (fun h5=> ?_)
  ·try simp at h5
   have h5l:=Q3o h5
   have hnl:=Q12h (t:=t) (p:=q+1) Zb
   have s1:=hnl.2.1
   have s2:p≤(nmP t (q+1)).1:=by omega
   refine Qb (jt 1 (k:=(Q8.call [0] rfl Z3 rfl Z85 Z7 (by apply Qir<;>exact Z6q) Qj2 Z3 Z3 Z85 jf))) ?_
   refine Q4 (Q0 [0,3,24] (jh hX Z85) ?_)
   refine jd (fun h7=> ?_) (fun h7=> ?_)
   ·try simp at h7
    all_goals
     refine jq [2] ?_
     refine Q5 (Qp Z85 Z15 (.of_eq ?_) ?_)
     all_goals clear hX
     ·simp_all[Q5b,seg]
     ·simp_all[Q5b]
   ·try simp at h7
    all_goals
     refine Q3 (jD [2] (jQ Z85) ?_)
     refine Q5 (Qp Z85 Z15 (.of_eq ?_) ?_)
     all_goals clear hX
     ·simp_all[Q5b,seg]
     ·simp_all[Q5b]
  ·try simp at h5
   skip
   refine Qb (jh hX Zbb) ?_
   refine Q4 (Q0 [0,3,24] (jh hX Zbb) ?_)
   refine jd (fun h7=> ?_) (fun h7=> ?_)
   ·try simp at h7
    all_goals
     refine jq [2] ?_
     refine Q5 (Qp Zbb Z15 (.of_eq ?_) ?_)
     all_goals clear hX
     ·simp_all[Q5b,seg]
     ·simp_all[Q5b]
   ·try simp at h7
    all_goals
     refine Q3 (jD [2] (jQ Zbb) ?_)
     refine Q5 (Qp Zbb Z15 (.of_eq ?_) ?_)
     all_goals clear hX
     ·simp_all[Q5b,seg]
     ·simp_all[Q5b]
theorem Q4v:Q6 Tryz.prog 231:=jcb Tryz.func231
theorem Qc8{t:Str}(ht:t.length≤1099511627776):Ct Tryz.prog 231 [.str t] [] (.bool (Q1n t)) []:=by
 refine jbS Tryz.func231 23 fun X hX=> ?_
 refine jq [0] ?_
 refine jq [0,3] ?_
 refine Q0 [0,3] (jt 1 (k:=(jc [0] (c:=(by apply Qaf<;>exact Z6)) (a:=Q5a) (k:=jf)))) ?_
 refine jD [2] (jS 6 Z7 (jM 8 14 [22] (p:=by intro b;(try simp at b);exact (jS 5 Z1 (jC (c:=Z43) (a:=Q2i) (k:=(jQ Z1))))) (q:=Zcj) (k:=(jQ Z7)))) ?_
 refine Q5 (je0 ?_)
 have:= @Qmm t 0 Zb
 simp only[Q1n]
 cases (tyP t 0).2<;>simp
 omega
theorem Q2h:Q6 Tryz.prog 85:=jcb Tryz.func85
theorem Q8h{n a b:Int}:Ct Tryz.prog 85 [.int .i64 n,.int .i64 a,.int .i64 b] [] (.bool (decide (a≤n∧n≤b))) []:=by
 refine jbS Tryz.func85 15 fun X hX=> ?_
 refine jq [0,1,2] ?_
 refine Q0 [6] (jt 4 (k:=(jm 4 10 [14] (p:=Zcb) (q:=Zcb) (k:=jr)))) ?_
 refine Q5 (je0 ?_)
 (try simp_all)<;>grind
theorem Q43:Q6 Tryz.prog 270:=jcb Tryz.func270
theorem Qcb{t:Str}(ht:t.length≤1099511627776):Ct Tryz.prog 270 [.str t] [] (.bool (Q2j t)) []:=by
 refine jbS Tryz.func270 19 fun X hX=> ?_
 refine jq [0] ?_
 refine Q4 (jq [0,5,6] ?_)
 refine Q7 (Qh (α:=Nat) [0,5,6] (fun i=>[(6,.int .i64 i)]) (fun i=>[]) (fun i=>i≤t.length∧Q7f (decide (i=0)) (t.drop i)=Q7f true t) (fun i=>t.length-i) (0) (fun i=>by simp;rfl) Z3 ?_ ?_)
 ·simp
 rintro i ⟨hi,hI⟩
 refine jq [0,5,6,7] ?_
 refine Q4 (jd (fun h2=> ?_) (fun h2=> ?_))
 ·try simp at h2
  rw[List.drop_eq_getElem_cons h2] at hI
  simp only[Q7f] at hI
  refine Q3 (Q4 (Q7 (jq [0,3,5,6] ?_)))
  refine Q0 [0,5,6,14] (js hX 4 Zw (jc [] (c:=Z7j) (a:=Qbf) (k:=jr))) ?_
  refine jd (fun h4=> ?_) (fun h4=> ?_)
  ·try simp at h4
   refine jq [2] ?_
   refine Q5 (je Zw ?_)
   rw[Q2j,←hI,h4];simp
  ·try simp at h4
   rw[h4,Bool.true_and] at hI
   refine Q3 (Qb (jh hX Z9) ?_)
   refine Qo (i+1) [0,5,6] Z1x ?_ ?_
   ·exact ⟨by omega,by simpa using hI⟩
   ·omega
 ·try simp at h2
  rw[List.drop_eq_nil_of_le h2] at hI
  simp only[Q7f] at hI
  refine Ql (Q0 [2] (jt 1 (k:=(jc [] (c:=Z43) (a:=Q2i) (k:=(jc [] (c:=Z1s) (a:=Q2h) (k:=jr)))))) ?_)
  refine Q5 (je Zw ?_)
  rw[Q2j,←hI];simp
theorem Qdx:Q6 Tryz.prog 309:=jcb Tryz.func309
theorem Qdn{x:Fld}{n:Str}:Ct Tryz.prog 309 [eF x,.fp [.str n]] [] (.bool (decide (x.name=n))) []:=by
 refine jbS Tryz.func309 8 fun X hX=> ?_
 refine jq [1,2] ?_
 refine jq [3] ?_
 refine Q5 (je0 ?_)
 simp_all
theorem Q65:Q6 Tryz.prog 308:=jcb Tryz.func308
theorem Q63{n:Str}{l:List Fld}(hl:l.length≤1099511627776):Ct Tryz.prog 308 [.lst false 3 (l.map eF),.clo (.func 309) [] [.fp [.str n]]] [] (.int .i64 (fix (fun x=>decide (x.name=n)) l)) []:=by
 refine jbS Tryz.func308 19 fun X hX=> ?_
 refine jq [0,1] ?_
 refine Q4 (jq [0,1,7,8] ?_)
 refine Q7 (Qh (α:=Nat) [0,1,7,8] (fun i=>[(8,.int .i64 i)]) (fun i=>[]) (fun i=>i≤l.length∧ ∀x∈l.take i,(fun x=>decide (x.name=n)) x=false) (fun i=>l.length-i) (0) (fun i=>by simp;rfl) Z3 ?_ ?_)
 ·simp
 rintro i ⟨hi,hI⟩
 refine jq [0,1,7,8,9] ?_
 refine Q4 (jd (fun h2=> ?_) (fun h2=> ?_))
 ·try simp at h2
  refine Q3 (Q4 (Q7 (jq [0,1,5,7,8] ?_)))
  refine Q0 [0,1,5,7,8,16] (js hX 5 Zw (jc [] (c:=(by apply Qdn<;>exact Z4b)) (a:=Qdx) (k:=jf))) ?_
  refine jd (fun h4=> ?_) (fun h4=> ?_)
  ·try simp at h4
   refine jq [4] ?_
   refine Q5 (je Zw ?_)
   rw[Q5y h2 hI Z4j]
  ·try simp at h4
   refine Q3 (Qb (jh hX Z9) ?_)
   refine Qo (i+1) [0,1,7,8] Z1x ?_ ?_
   ·exact ⟨by omega,Q7d h2 hI Z4j⟩
   ·omega
 ·try simp at h2
  refine Ql (jq [4] ?_)
  refine Q5 (je Zw ?_)
  rw[Q5h (p:=fun x=>decide (x.name=n)) (fun x hx=>hI x Z41)]
theorem Q97:Q6 Tryz.prog 271:=jcb Tryz.func271
theorem Q94{x:Cls}{n:Str}(h:x.fields.length≤1099511627776):Ct Tryz.prog 271 [eC x,.str n] [] (.int .i64 (fix (fun f=>decide (f.name=n)) x.fields)) []:=by
 refine jbS Tryz.func271 9 fun X hX=> ?_
 refine jq [2,3] ?_
 refine Q0 [4] (jt 3 (k:=(jB (c:=(by apply Q63<;>exact Z6)) (a:=Q65) (k:=jr)))) ?_
 refine Q5 (je0 ?_)
 simp_all
theorem Q1v:Q6 Tryz.prog 162:=jcb Tryz.func162
theorem Q6x{t:Str}(ht:t.length≤1099511627776):Ct Tryz.prog 162 [.str t] [] (eDO (Qy t)) []:=by
 refine jbS Tryz.func162 66 fun X hX=> ?_
 refine jq [0,2] ?_
 refine jq [0,2,3,4] ?_
 refine Q0 [0,2,3,4] (jt 1 (k:=(jc [1] (c:=(by apply Qae<;>exact Z1c)) (a:=Qai) (k:=jf)))) ?_
 refine Q4 (Q7 (Q15 (Le.nilC 2 0 0 1 Z7) ?_))
 refine Qh (α:=List Str×Nat×Bool) [0,2,3,4] (fun a=>[]) (fun a=>[(1,rdr t a.2.1 a.2.2),(2,some (2,[.agg [.arr 3 0 a.1.length,.str []]])),(3,some (1,a.1.map V.str))]) (fun a=>a.2.1≤t.length∧a.1.length≤8∧(a.2.2=true→Qy t=Q4f a.2.1)∧(a.2.2=false→Q23 t 0 40=true∧Q30 t (8-a.1.length) a.2.1 a.1=Q30 t 8 1 [])) (fun a=>8-a.1.length) (([],adv (Q23 t 0 40) 0,!Q23 t 0 40)) (fun a=>by simp;rfl) Z3 ?_ ?_
 ·have h9:= @Qyr t 0 40
  refine ⟨by simp;omega,by simp,?_,?_⟩
  ·intro h;simp at h;simp[Qy,h]
  ·intro h;simp at h;simp[h]
 rintro ⟨ps,p,b⟩ ⟨hp,hn,hE,hI⟩
 simp only at hp hn hE hI
 cases b
 all_goals
  refine Q4 ?_
  first|(refine Q0 [0,2,3,4,20] (jt 7 (k:=(jc [1] (c:=Z38) (a:=Q2o) (k:=jr)))) ?_)|(refine jq [0,2,3,4,20] ?_)|(refine Q0 [0,2,3,4,20] (jt 6 (k:=(jm 4 16 [0,2,3,4,20] (p:=by intro b;(try simp at b);exact (js hX 1 Z1 (Q8.call [1] rfl Z3 rfl Z1 Z7 Z38 Q2o Z3 Z3 Z1 (jh hX Z1)))) (q:=Zcb) (k:=jf)))) ?_)
  refine jd (fun h3=> ?_) (fun h3=> ?_)
  ·try simp at h3
   all_goals
    have h3b:Q23 t p 41=false:=by simpa using h3
    obtain ⟨hI1,hI⟩:=hI rfl
    have w1:(ps.length+1)*16≤140737488355328:=by omega
    have w2:ps.length≤1099511627775:=by omega
    refine Q3 (Q7 (Q4 (Q0 [0,2,3,4,24] (jh hX Zbc) ?_)))
    refine jd (fun h4=> ?_) (fun h4=> ?_)
    ·try simp at h4
     have h4b:8-ps.length=0:=by omega
     rw[h4b,Q30,if_neg (by simp[h3b])] at hI
     have hd:Qy t=Q4f p:=Qdg hI1 hI.symm
     refine Q0 [0,2,3,4] (jh hX Zbc) ?_
     refine Ql (Q4 (Q0 [0,2,3,4,36] (jt 1 (k:=(jc [1] (c:=Z38) (a:=Q2o) (k:=jf)))) ?_))
     refine jd (fun h7=> ?_) (fun h7=> ?_)
     ·try simp at h7
      all_goals
       have h7b:Q23 t (p+1) 86=true:=by simpa[h3b] using h7
       have w2:=Q3o h7b
       refine Qb (jh hX Z92) ?_
       refine Q4 ?_
       first|(refine jD [2,3,4,58] (jQ Z92) ?_)|(refine jD [2,3,4,58] (jS 10 Z92 (jC (c:=Z1d) (a:=Q2i) (k:=(jQ Z7)))) ?_)|(refine jD [2,3,4,58] (jS 5 Z92 (jM 8 50 [2,3,4,58] (p:=Zcj) (q:=by intro b;(try simp at b);exact (jS 5 (by simp[-Qr,-Qa,h3b,w1,w2,h7b,w2];rfl) (jC (c:=Z1d) (a:=Q2i) (k:=(jQ Z1))))) (k:=(Q18.fin Z22)))) ?_)
       refine jd (fun h11=> ?_) (fun h11=> ?_)
       ·try simp at h11
        all_goals
         refine Q0 [2] (jh hX Z8g) ?_
         refine Q5 (Q1b Z8g ?_ rfl)
         first
          |(rw[hd];exact Q2s _ _ _)
          |(rw[hE rfl];exact Q2s _ _ _)
          |(rw[hd,show Q1t t ps p=Q4f (p+2) from by simp only[Q1t,h7b,if_true];rw[if_pos Zb]];exact Q2s _ _ _)
          |(rw[hd,show Q1t t ps p=Q4f (tyP t (p+1)).1 from by simp only[Q1t,h7b,Bool.false_eq_true,if_false];grind];exact Q2s _ _ _)
       ·try simp at h11
        all_goals
         refine Q3 (Q0 [2] (jh hX Z8g) ?_)
         refine Q5 (Q1b Z8g ?_ rfl)
         first
          |(rw[hd,show Q1t t ps p=⟨ps,[86],0,0⟩ from by simp only[Q1t,h7b,if_true];rw[if_neg Zb]];exact Wk.refl _)
          |(rw[hd,show Q1t t ps p=⟨ps,seg t (p+1) (tyP t (p+1)).1,0,0⟩ from by simp only[Q1t,h7b,Bool.false_eq_true,if_false];grind];exact Wk.refl _)
     ·try simp at h7
      all_goals
       first
        |(have h7b:Q23 t (p+1) 86=false:=by simpa[h3b] using h7)
        |have h7b:=trivial
       refine Q0 [0,2,3,4,42] (jh hX Z5u) ?_
       refine jd (fun h9=> ?_) (fun h9=> ?_)
       ·try simp at h9
        all_goals
         refine Qb (jt 1 (k:=(jc [1] (c:=Z4f) (a:=Q5a) (k:=(jh hX Z5u))))) ?_
         refine Q4 ?_
         first|(refine jD [2,3,4,58] (jQ Z5u) ?_)|(refine jD [2,3,4,58] (jS 10 Z5u (jC (c:=Z1d) (a:=Q2i) (k:=(jQ Z7)))) ?_)|(refine jD [2,3,4,58] (jS 5 Z5u (jM 8 50 [2,3,4,58] (p:=Zcj) (q:=Zcy) (k:=(Q18.fin Z22)))) ?_)
         refine jd (fun h11=> ?_) (fun h11=> ?_)
         ·try simp at h11
          all_goals
           refine Q0 [2] (jh hX Z4m) ?_
           refine Q5 (Q1b Z4m ?_ rfl)
           first
            |(rw[hd];exact Q2s _ _ _)
            |(rw[hE rfl];exact Q2s _ _ _)
            |(rw[hd,show Q1t t ps p=Q4f (p+2) from by simp only[Q1t,h7b,if_true];rw[if_pos Zb]];exact Q2s _ _ _)
            |(rw[hd,show Q1t t ps p=Q4f (tyP t (p+1)).1 from by simp only[Q1t,h7b,Bool.false_eq_true,if_false];grind];exact Q2s _ _ _)
         ·try simp at h11
          all_goals
           refine Q3 (Q0 [2] (jh hX Z4m) ?_)
           refine Q5 (Q1b Z4m ?_ rfl)
           first
            |(rw[hd,show Q1t t ps p=⟨ps,[86],0,0⟩ from by simp only[Q1t,h7b,if_true];rw[if_neg Zb]];exact Wk.refl _)
            |(rw[hd,show Q1t t ps p=⟨ps,seg t (p+1) (tyP t (p+1)).1,0,0⟩ from by simp only[Q1t,h7b,Bool.false_eq_true,if_false];grind];exact Wk.refl _)
       ·try simp at h9
        all_goals
         refine Q3 (Q4 ?_)
         first|(refine jD [2,3,4,58] (jQ Z5u) ?_)|(refine jD [2,3,4,58] (jS 10 Z5u (jC (c:=Z1d) (a:=Q2i) (k:=(jQ Z7)))) ?_)|(refine jD [2,3,4,58] (jS 5 Z5u (jM 8 50 [2,3,4,58] (p:=Zcj) (q:=Zcy) (k:=(Q18.fin Z22)))) ?_)
         refine jd (fun h11=> ?_) (fun h11=> ?_)
         ·try simp at h11
          all_goals
           refine Q0 [2] (jh hX Z4m) ?_
           refine Q5 (Q1b Z4m ?_ rfl)
           first
            |(rw[hd];exact Q2s _ _ _)
            |(rw[hE rfl];exact Q2s _ _ _)
            |(rw[hd,show Q1t t ps p=Q4f (p+2) from by simp only[Q1t,h7b,if_true];rw[if_pos Zb]];exact Q2s _ _ _)
            |(rw[hd,show Q1t t ps p=Q4f (tyP t (p+1)).1 from by simp only[Q1t,h7b,Bool.false_eq_true,if_false];grind];exact Q2s _ _ _)
         ·try simp at h11
          all_goals
           refine Q3 (Q0 [2] (jh hX Z4m) ?_)
           refine Q5 (Q1b Z4m ?_ rfl)
           first
            |(rw[hd,show Q1t t ps p=⟨ps,[86],0,0⟩ from by simp only[Q1t,h7b,if_true];rw[if_neg Zb]];exact Wk.refl _)
            |(rw[hd,show Q1t t ps p=⟨ps,seg t (p+1) (tyP t (p+1)).1,0,0⟩ from by simp only[Q1t,h7b,Bool.false_eq_true,if_false];grind];exact Wk.refl _)
    ·try simp at h4
     have h4b:8-ps.length=(8-(ps.length+1))+1:=by omega
     rw[h4b,Q30,if_neg (by simp[h3b])] at hI
     obtain ⟨hge,hle,hgt,_⟩:=Qmm hp
     have hE3:(!(tyP t p).2)=true→Qy t=Q4f (tyP t p).1:=by
      intro h;rw[if_neg Z49] at hI;exact Qdg hI1 hI.symm
     have hI3:(!(tyP t p).2)=false→Q23 t 0 40=true∧Q30 t (8-(ps++[if (tyP t p).2=true then seg t p (tyP t p).1 else []]).length) (tyP t p).1 (ps++[if (tyP t p).2=true then seg t p (tyP t p).1 else []])=Q30 t 8 1 []:=by
      intro h;have h:(tyP t p).2=true:=by simpa using h
      rw[if_pos h] at hI⊢;refine ⟨hI1,?_⟩;rw[←hI];simp
     refine Q3 (Q1x (n:=5) (A:=[0,1,2]) (B:=[3,4]) (L:=[2]) hmo Z24 tok hX Zbc (jH (p:=fun X hX=>(jc [1] (c:=Z4f) (a:=Q5a) (k:=jf))) (k:=(jH (p:=fun X hX=>jr) (k:=.nil)))) (jh hX Zbc) ?_)
     refine Qm ((ps++[if (tyP t p).2=true then seg t p (tyP t p).1 else []],(tyP t p).1,!(tyP t p).2)) [0,2,3,4] 4 Z1r Z3 (by simp[h3b,w1,w2];try (simp (disch:=omega) only[Qc])) ?_ ?_
     ·exact ⟨hle,by simp;omega,hE3,hI3⟩
     ·simp;omega
  ·try simp at h3
   all_goals
    first
     |(have h3b:Q23 t p 41=true:=by simpa using h3
       have hI1:=(hI rfl).1
       have hI:=(hI rfl).2
       have hd:Qy t=Q1t t ps p:=Qxb hI1 (by rw[←hI];cases 8-ps.length<;>simp[Q30,h3b])
       have w0:p+1≤t.length:=Q3o h3b
       have w1:=Qmm w0)
     |(have h3b:=trivial
       have w0:=trivial
       have w1:=trivial)
    refine Ql (Q4 (Q0 [0,2,3,4,36] (jt 1 (k:=(jc [1] (c:=Z38) (a:=Q2o) (k:=jf)))) ?_))
    refine jd (fun h7=> ?_) (fun h7=> ?_)
    ·try simp at h7
     all_goals
      have h7b:Q23 t (p+1) 86=true:=by simpa[h3b] using h7
      have w2:=Q3o h7b
      refine Qb (jh hX Z93) ?_
      refine Q4 ?_
      first|(refine jD [2,3,4,58] (jQ Z93) ?_)|(refine jD [2,3,4,58] (jS 10 Z93 (jC (c:=Z1d) (a:=Q2i) (k:=(jQ Z7)))) ?_)|(refine jD [2,3,4,58] (jS 5 Z93 (jM 8 50 [2,3,4,58] (p:=Zcj) (q:=by intro b;(try simp at b);exact (jS 5 (by simp[-Qr,-Qa,h3b,w0,w1,h7b,w2];rfl) (jC (c:=Z1d) (a:=Q2i) (k:=(jQ Z1))))) (k:=(Q18.fin Z22)))) ?_)
      refine jd (fun h11=> ?_) (fun h11=> ?_)
      ·try simp at h11
       all_goals
        refine Q0 [2] (jh hX Z8h) ?_
        refine Q5 (Q1b Z8h ?_ rfl)
        first
         |(rw[hd];exact Q2s _ _ _)
         |(rw[hE rfl];exact Q2s _ _ _)
         |(rw[hd,show Q1t t ps p=Q4f (p+2) from by simp only[Q1t,h7b,if_true];rw[if_pos Zb]];exact Q2s _ _ _)
         |(rw[hd,show Q1t t ps p=Q4f (tyP t (p+1)).1 from by simp only[Q1t,h7b,Bool.false_eq_true,if_false];grind];exact Q2s _ _ _)
      ·try simp at h11
       all_goals
        refine Q3 (Q0 [2] (jh hX Z8h) ?_)
        refine Q5 (Q1b Z8h ?_ rfl)
        first
         |(rw[hd,show Q1t t ps p=⟨ps,[86],0,0⟩ from by simp only[Q1t,h7b,if_true];rw[if_neg Zb]];exact Wk.refl _)
         |(rw[hd,show Q1t t ps p=⟨ps,seg t (p+1) (tyP t (p+1)).1,0,0⟩ from by simp only[Q1t,h7b,Bool.false_eq_true,if_false];grind];exact Wk.refl _)
    ·try simp at h7
     all_goals
      first
       |(have h7b:Q23 t (p+1) 86=false:=by simpa[h3b] using h7)
       |have h7b:=trivial
      refine Q0 [0,2,3,4,42] (jh hX Z5v) ?_
      refine jd (fun h9=> ?_) (fun h9=> ?_)
      ·try simp at h9
       all_goals
        refine Qb (jt 1 (k:=(jc [1] (c:=Z4f) (a:=Q5a) (k:=(jh hX Z5v))))) ?_
        refine Q4 ?_
        first|(refine jD [2,3,4,58] (jQ Z5v) ?_)|(refine jD [2,3,4,58] (jS 10 Z5v (jC (c:=Z1d) (a:=Q2i) (k:=(jQ Z7)))) ?_)|(refine jD [2,3,4,58] (jS 5 Z5v (jM 8 50 [2,3,4,58] (p:=Zcj) (q:=Zcz) (k:=(Q18.fin Z22)))) ?_)
        refine jd (fun h11=> ?_) (fun h11=> ?_)
        ·try simp at h11
         all_goals
          refine Q0 [2] (jh hX Z4n) ?_
          refine Q5 (Q1b Z4n ?_ rfl)
          first
           |(rw[hd];exact Q2s _ _ _)
           |(rw[hE rfl];exact Q2s _ _ _)
           |(rw[hd,show Q1t t ps p=Q4f (p+2) from by simp only[Q1t,h7b,if_true];rw[if_pos Zb]];exact Q2s _ _ _)
           |(rw[hd,show Q1t t ps p=Q4f (tyP t (p+1)).1 from by simp only[Q1t,h7b,Bool.false_eq_true,if_false];grind];exact Q2s _ _ _)
        ·try simp at h11
         all_goals
          refine Q3 (Q0 [2] (jh hX Z4n) ?_)
          refine Q5 (Q1b Z4n ?_ rfl)
          first
           |(rw[hd,show Q1t t ps p=⟨ps,[86],0,0⟩ from by simp only[Q1t,h7b,if_true];rw[if_neg Zb]];exact Wk.refl _)
           |(rw[hd,show Q1t t ps p=⟨ps,seg t (p+1) (tyP t (p+1)).1,0,0⟩ from by simp only[Q1t,h7b,Bool.false_eq_true,if_false];grind];exact Wk.refl _)
      ·try simp at h9
       all_goals
        refine Q3 (Q4 ?_)
        first|(refine jD [2,3,4,58] (jQ Z5v) ?_)|(refine jD [2,3,4,58] (jS 10 Z5v (jC (c:=Z1d) (a:=Q2i) (k:=(jQ Z7)))) ?_)|(refine jD [2,3,4,58] (jS 5 Z5v (jM 8 50 [2,3,4,58] (p:=Zcj) (q:=Zcz) (k:=(Q18.fin Z22)))) ?_)
        refine jd (fun h11=> ?_) (fun h11=> ?_)
        ·try simp at h11
         all_goals
          refine Q0 [2] (jh hX Z4n) ?_
          refine Q5 (Q1b Z4n ?_ rfl)
          first
           |(rw[hd];exact Q2s _ _ _)
           |(rw[hE rfl];exact Q2s _ _ _)
           |(rw[hd,show Q1t t ps p=Q4f (p+2) from by simp only[Q1t,h7b,if_true];rw[if_pos Zb]];exact Q2s _ _ _)
           |(rw[hd,show Q1t t ps p=Q4f (tyP t (p+1)).1 from by simp only[Q1t,h7b,Bool.false_eq_true,if_false];grind];exact Q2s _ _ _)
        ·try simp at h11
         all_goals
          refine Q3 (Q0 [2] (jh hX Z4n) ?_)
          refine Q5 (Q1b Z4n ?_ rfl)
          first
           |(rw[hd,show Q1t t ps p=⟨ps,[86],0,0⟩ from by simp only[Q1t,h7b,if_true];rw[if_neg Zb]];exact Wk.refl _)
           |(rw[hd,show Q1t t ps p=⟨ps,seg t (p+1) (tyP t (p+1)).1,0,0⟩ from by simp only[Q1t,h7b,Bool.false_eq_true,if_false];grind];exact Wk.refl _)
theorem Q9x:Q6 Tryz.prog 310:=jcb Tryz.func310
theorem Qh8{t:Str}(ht:t.length≤1099511627776):Ct Tryz.prog 310 [.str t] [] (.bool (Q2j t||decide (t=Qn))) []:=by
 refine jbS Tryz.func310 9 fun X hX=> ?_
 refine jq [0] ?_
 refine Q0 [2] (jt 1 (k:=(jc [] (c:=Z2n) (a:=Q43) (k:=(jt 1 (k:=(jm 3 5 [8] (p:=Zcb) (q:=Zcb) (k:=jr)))))))) ?_
 refine Q5 (je0 ?_)
 (try simp_all[Qn])<;>grind
theorem Qhn:Q6 Tryz.prog 301:=jcb Tryz.func301
theorem Qh7{l:List Str}(hl:l.length≤1099511627776):Ct Tryz.prog 301 [.lst false 1 (l.map V.str)] [] (.bool (l.all fun t=>decide (t.length≤20000))) []:=by
 refine jbS Tryz.func301 15 fun X hX=> ?_
 refine jq [0] ?_
 refine Q4 (jq [5,6,7] ?_)
 refine Q7 (Qh (α:=Nat) [5,6,7] (fun i=>[(7,.int .i64 i)]) (fun i=>[]) (fun i=>i≤l.length∧(l.drop i).all (fun t=>decide (t.length≤20000))=l.all fun t=>decide (t.length≤20000)) (fun i=>l.length-i) (0) (fun i=>by simp;rfl) Z3 ?_ ?_)
 ·simp
 rintro i ⟨hi,hI⟩
 refine jq [5,6,7,8] ?_
 refine Q4 (jd (fun h2=> ?_) (fun h2=> ?_))
 ·try simp at h2
  rw[List.drop_eq_getElem_cons h2] at hI
  simp only[List.all_cons] at hI
  refine Q3 (Q4 (Q7 (Q0 [4,5,6,7] (jh hX Zw) ?_)))
  refine Q0 [5,6,7,13] (jh hX Zw) ?_
  refine jd (fun h4=> ?_) (fun h4=> ?_)
  ·try simp at h4
   refine jq [2] ?_
   refine Q5 (je (by simp[h2,h4];rfl) ?_)
   rw[←hI,decide_eq_false Zb];rfl
  ·try simp at h4
   rw[decide_eq_true Zb,Bool.true_and] at hI
   refine Q3 (Qb (jh hX Z9) ?_)
   refine Qo (i+1) [5,6,7] (by simp[h2,h4];try (simp (disch:=omega) only[Qc])) ?_ ?_
   ·exact ⟨by omega,hI⟩
   ·omega
 ·try simp at h2
  refine Ql (jq [2] ?_)
  refine Q5 (je Zw ?_)
  rw[←hI,List.drop_eq_nil_of_le h2];rfl
theorem Qsh:Q6 Tryz.prog 311:=jcb Tryz.func311
theorem Qs4{t:Str}(ht:t.length≤1099511627776):Ct Tryz.prog 311 [.str t] [] (.bool (decide ((Qd t).code=0))) []:=by
 refine jbS Tryz.func311 12 fun X hX=> ?_
 refine jq [0] ?_
 refine Q0 [2] (jt 2 (k:=(jB (c:=(by apply (Qh7 (l:=[t]))<;>simp)) (a:=Qhn) (k:=(jt 1 (k:=(jm 5 6 [11] (p:=by intro b;(try simp at b);exact (js hX 1 Z1 (Q8.callF rfl Z3 rfl Z1 Z56 Q1v Z8w (jh hX Z1)))) (q:=Zcb) (k:=jr)))))))) ?_
 refine Q5 (je0 ?_)
 unfold Qd
 (try simp_all)<;>grind
theorem Qvv:Q6 Tryz.prog 86:=jcb Tryz.func86
theorem Qvq{n:Int}:Ct Tryz.prog 86 [.int .i64 n] [] (.bool (decide (1≤n∧n≤44))) []:=by
 refine jbS Tryz.func86 5 fun X hX=> ?_
 refine jq [0] ?_
 refine Q0 [2] (jt 1 (k:=(jc [] (c:=Z1s) (a:=Q2h) (k:=jr)))) ?_
 refine Q5 (je0 ?_)
 simp
theorem Qpy:Q6 Tryz.prog 87:=jcb Tryz.func87
theorem Qpk:Ct Tryz.prog 87 [] [] (.lst true 1 (Qu2.map V.str)) []:=by
 refine jbS Tryz.func87 2 fun X hX=> ?_
 refine jq [] ?_
 refine jq [0] ?_
 refine Q5 (je0 ?_)
 rfl
theorem Qbh:Q6 Tryz.prog 36:=jcb Tryz.func36
theorem Qhd{op:Int}:Ct Tryz.prog 36 [.int .i64 op] [] (.str (Q67 op)) []:=by
 have hol:Qu2.length=44:=rfl
 refine jbS Tryz.func36 11 fun X hX=> ?_
 refine jq [0] ?_
 refine Q4 (Q0 [0,5] (jt 1 (k:=(jc [] (c:=(by apply Qvq<;>exact Z6)) (a:=Qvv) (k:=jr)))) ?_)
 refine jd (fun h1=> ?_) (fun h1=> ?_)
 ·try simp at h1
  refine jq [2] ?_
  refine Q5 (je0 ?_)
  simp only[Q67];rw[if_pos Zb]
 ·try simp at h1
  obtain ⟨k,rfl⟩: ∃k:Nat,op=(k:Int)+1:=⟨(op-1).toNat,by omega⟩
  have hk:k<Qu2.length:=by rw[hol];omega
  have hk1:IntKind.i64.wrap ((k:Int)+1-1)=k:=by rw[Qc Zb Zb];omega
  refine Q3 (Q0 [2] (jF (c:=(by apply Qpk<;>exact Z6)) (a:=Qpy) (k:=(jh hX (by simp[hk,hk1];(try (simp (disch:=omega) only[Qc];(try simp[hk,hk1])));rfl)))) ?_)
  refine Q5 (je (by simp[hk,hk1];rfl) ?_)
  simp only[Q67];rw[if_neg Zb,show ((k:Int)+1-1).toNat=k from by omega];simp[hk]
theorem Q95:Q6 Tryz.prog 112:=jcb Tryz.func112
theorem Q91{l:List Ins}:Ct Tryz.prog 112 [.lst false 5 (l.map eI)] [] (.int .i64 l.length) []:=by
 refine jbS Tryz.func112 5 fun X hX=> ?_
 refine jq [0] ?_
 refine jq [2] ?_
 refine Q5 (je0 ?_)
 simp
theorem Qtd:Q6 Tryz.prog 331:=jcb Tryz.func331
theorem Qt6{n:Int}:Ct Tryz.prog 331 [.int .i64 n] [] (.bool (Q8c n)) []:=by
 refine jbS Tryz.func331 5 fun X hX=> ?_
 refine jq [0] ?_
 refine Q0 [2] (jt 1 (k:=(jc [] (c:=Z1s) (a:=Q2h) (k:=jr)))) ?_
 refine Q5 (je0 ?_)
 simp[Q8c]
theorem Qoe:Q6 Tryz.prog 325:=jcb Tryz.func325
theorem Qns{x:Ins}(h:Q73 x≤1099511627776):Ct Tryz.prog 325 [eI x] [] (.bool (Q1l x)) []:=by
 simp only[Q73] at h
 refine jbS Tryz.func325 143 fun X hX=> ?_
 refine jq [1] ?_
 refine Q0 [1,3] (jt 4 (k:=(jm 4 7 [1,11] (p:=Zcb) (q:=Zcb) (k:=(jt 1 (k:=(jm 4 12 [1,16] (p:=Zcb) (q:=Zcb) (k:=jr)))))))) ?_
 refine Q4 (Q0 [1,3,19] (jt 2 (k:=(jc [] (c:=Z7z) (a:=Qbh) (k:=jf)))) ?_)
 refine Q7 (jq [1,3,19,20] ?_)
 refine jd (fun h3=> ?_) (fun h3=> ?_)
 ·try simp at h3
  refine Q0 [2] (jt 2 (k:=(jm 4 23 [27] (p:=Zcb) (q:=Zcb) (k:=jr)))) ?_
  refine Q5 (je0 ?_)
  (try simp_all[Q1l,Q2u,Q8c,Qn])<;>grind
 ·try simp at h3
  refine jq [1,3,19,28] ?_
  refine jd (fun h5=> ?_) (fun h5=> ?_)
  ·try simp at h5
   refine Q0 [2] (jt 2 (k:=(jm 4 31 [35] (p:=by intro b;(try simp at b);exact (js hX 2 Z1 (Q8.call [] rfl Z3 rfl Z1 Z7 (by apply Qt6<;>exact Z6) Qtd Z3 Z3 Z1 (jh hX Z1)))) (q:=Zcb) (k:=jr)))) ?_
   refine Q5 (je0 ?_)
   (try simp_all[Q1l,Q2u,Q8c,Qn])<;>grind
  ·try simp at h5
   refine jq [1,3,19,36] ?_
   refine jd (fun h7=> ?_) (fun h7=> ?_)
   ·try simp at h7
    refine Q0 [2] (jt 2 (k:=(jm 4 39 [43] (p:=Zct) (q:=Zcb) (k:=jr)))) ?_
    refine Q5 (je0 ?_)
    (try simp_all[Q1l,Q2u,Q8c,Qn])<;>grind
   ·try simp at h7
    refine jq [1,3,19,44] ?_
    refine jd (fun h9=> ?_) (fun h9=> ?_)
    ·try simp at h9
     refine Q0 [2] (jt 2 (k:=(jm 4 47 [51] (p:=Zct) (q:=Zcb) (k:=jr)))) ?_
     refine Q5 (je0 ?_)
     (try simp_all[Q1l,Q2u,Q8c,Qn])<;>grind
    ·try simp at h9
     refine jq [1,19,52] ?_
     refine jd (fun h11=> ?_) (fun h11=> ?_)
     ·try simp at h11
      refine Q0 [2] (jt 4 (k:=(jm 4 57 [1,61] (p:=Zcq) (q:=Zcb) (k:=(jt 1 (k:=(jm 4 62 [1,66] (p:=Zcb) (q:=Zcb) (k:=(jt 1 (k:=(jm 4 67 [71] (p:=Zcb) (q:=Zcb) (k:=jr)))))))))))) ?_
      refine Q5 (je0 ?_)
      (try simp_all[Q1l,Q2u,Q8c,Qn])<;>grind
     ·try simp at h11
      refine jq [1,19,72] ?_
      refine jd (fun h13=> ?_) (fun h13=> ?_)
      ·try simp at h13
       refine Q0 [2] (jt 4 (k:=(jm 4 77 [1,81] (p:=Zcb) (q:=Zcb) (k:=(jt 1 (k:=(jm 4 82 [1,86] (p:=Zcb) (q:=Zcb) (k:=(jt 1 (k:=(jm 15 87 [102] (p:=by intro b;(try simp at b);exact (js hX 4 Z1 (jm 10 91 [87,101] (p:=Zcb) (q:=by intro b;(try simp at b);exact (js hX 2 Z1 (Q8.call [] rfl Z3 rfl Z1 Z7 Z3r Q4v Z3 Z3 Z1 (js hX 1 Z1 (jm 5 95 [87,91,100] (p:=fun b14_22=>by (try simp at b14_22);(have hlt:=(Q2e b14_22).1;have hat:=Q2r (n:=76) hlt);exact (jh hX Zav)) (q:=fun b14_22=>by (try simp at b14_22);exact (jh hX Z1)) (k:=(jh hX Z1))))))) (k:=(jh hX Z1))))) (q:=Zcb) (k:=jr)))))))))))) ?_
       refine Q5 (je0 ?_)
       have hp:=Q10o x.desc
       have hq:Q1n x.desc=true→Q23 x.desc 0 76=decide ((atD x.desc 0).toNat=76):=fun h=>by have hlt:=(Q2e h).1;rw[Q2r hlt,Qr hlt];simp
       (try simp_all[Q1l,Q2u])<;>grind
      ·try simp at h13
       refine jq [1,19,103] ?_
       refine jd (fun h15=> ?_) (fun h15=> ?_)
       ·try simp at h15
        refine Q0 [2] (jt 4 (k:=(jm 4 108 [1,112] (p:=Zcq) (q:=Zcb) (k:=(jt 1 (k:=(jm 4 113 [1,117] (p:=Zcq) (q:=Zcb) (k:=(jt 1 (k:=(jm 4 118 [122] (p:=by intro b;(try simp at b);exact (js hX 2 Z1 (Q8.call [] rfl Z3 rfl Z1 Z7 Z3r Q4v Z3 Z3 Z1 (jh hX Z1)))) (q:=Zcb) (k:=jr)))))))))))) ?_
        refine Q5 (je0 ?_)
        (try simp_all[Q1l,Q2u,Q8c,Qn])<;>grind
       ·try simp at h15
        refine jq [1,123] ?_
        refine jd (fun h17=> ?_) (fun h17=> ?_)
        ·try simp at h17
         refine Q0 [2] (jt 4 (k:=(jm 4 128 [1,132] (p:=Zcq) (q:=Zcb) (k:=(jt 1 (k:=(jm 4 133 [1,137] (p:=by intro b;(try simp at b);exact (js hX 2 Z1 (Q8.call [] rfl Z3 rfl Z1 Z7 Z74 Q9x Z3 Z3 Z1 (jh hX Z1)))) (q:=Zcb) (k:=(jt 1 (k:=(jm 4 138 [142] (p:=Zd3) (q:=Zcb) (k:=jr)))))))))))) ?_
         refine Q5 (je0 ?_)
         (try simp_all[Q1l,Q2u,Q8c,Qn])<;>grind
        ·try simp at h17
         refine Q3 (jq [2] ?_)
         refine Q5 (je0 ?_)
         (try simp_all[Q1l,Q2u,Q8c,Qn])<;>grind
theorem Qj4:Q6 Tryz.prog 327:=jcb Tryz.func327
theorem Qiv{x:Hdl}{n:Int}(h:x.cls.length≤1099511627776)(hn0:0≤n)(hn:n≤1099511627776):Ct Tryz.prog 327 [eH x,.fp [.int .i64 n]] [] (.bool (!Q3v n x)) []:=by
 refine jbS Tryz.func327 34 fun X hX=> ?_
 refine jq [1,2] ?_
 refine Q0 [3] (jt 4 (k:=(jm 6 7 [1,2,13] (p:=fun b1_4=>by (try simp at b1_4);exact (jh hX Z1)) (q:=fun b1_4=>by (try simp at b1_4);exact (jh hX Z69)) (k:=(jt 1 (k:=(jm 5 14 [1,2,19] (p:=fun b1_11=>by (try simp at b1_11);exact (jh hX Z1)) (q:=fun b1_11=>by (try simp at b1_11);exact (jh hX (by simp[-Qr,-Qa,b1_11];rfl))) (k:=(jt 1 (k:=(jm 7 20 [2,27] (p:=fun b1_17=>by (try simp at b1_17);exact (jh hX Z1)) (q:=fun b1_17=>by (try simp at b1_17);exact (js hX 4 (by simp[-Qr,-Qa,b1_17];(try (simp (disch:=omega) only[Qc];(try simp[-Qr,-Qa,b1_17])));rfl) (Q8.call [] rfl Z3 rfl Z1 Z7 Z1s Q2h Z3 Z3 Z1 (jh hX Z1)))) (k:=(jt 1 (k:=(jm 5 28 [33] (p:=fun b1_25=>by (try simp at b1_25);exact (jh hX Z1)) (q:=fun b1_25=>by (try simp at b1_25);exact (js hX 2 (by simp[-Qr,-Qa,b1_25];rfl) (Q8.call [] rfl Z3 rfl Z1 Z7 Z2n Q43 Z3 Z3 Z1 (jh hX Z1)))) (k:=jr)))))))))))))))) ?_
 refine Q5 (je0 ?_)
 (try simp_all[Q3v])<;>grind
theorem Q57:Q6 Tryz.prog 332:=jcb Tryz.func332
theorem Q56{n:Int}(hn0:0≤n)(hn:n≤1099511627776){l:List Hdl}(hl:l.length≤1099511627776)(hs: ∀x∈l,x.cls.length≤1099511627776):Ct Tryz.prog 332 [.lst false 4 (l.map eH),.clo (.func 327) [] [.fp [.int .i64 n]]] [] (.int .i64 (fix (fun x=> !Q3v n x) l)) []:=by
 refine jbS Tryz.func332 19 fun X hX=> ?_
 refine jq [0,1] ?_
 refine Q4 (jq [0,1,7,8] ?_)
 refine Q7 (Qh (α:=Nat) [0,1,7,8] (fun i=>[(8,.int .i64 i)]) (fun i=>[]) (fun i=>i≤l.length∧ ∀x∈l.take i,(fun x=> !Q3v n x) x=false) (fun i=>l.length-i) (0) (fun i=>by simp;rfl) Z3 ?_ ?_)
 ·simp
 rintro i ⟨hi,hI⟩
 refine jq [0,1,7,8,9] ?_
 refine Q4 (jd (fun h2=> ?_) (fun h2=> ?_))
 ·try simp at h2
  refine Q3 (Q4 (Q7 (jq [0,1,5,7,8] ?_)))
  refine Q0 [0,1,5,7,8,16] (js hX 5 Zw (jc [] (c:=(by apply Qiv<;>exact Z4b)) (a:=Qj4) (k:=jf))) ?_
  refine jd (fun h4=> ?_) (fun h4=> ?_)
  ·try simp at h4
   refine jq [4] ?_
   refine Q5 (je Zw ?_)
   rw[Q5y h2 hI Z4j]
  ·try simp at h4
   refine Q3 (Qb (jh hX Z9) ?_)
   refine Qo (i+1) [0,1,7,8] Z1x ?_ ?_
   ·exact ⟨by omega,Q7d h2 hI Z4j⟩
   ·omega
 ·try simp at h2
  refine Ql (jq [4] ?_)
  refine Q5 (je Zw ?_)
  rw[Q5h (p:=fun x=> !Q3v n x) (fun x hx=>hI x Z41)]
theorem Q4k:Q6 Tryz.prog 326:=jcb Tryz.func326
theorem Q4j{n:Int}(hn0:0≤n)(hn:n≤1099511627776){l:List Hdl}(hl:l.length≤1099511627776)(hs: ∀x∈l,x.cls.length≤1099511627776):Ct Tryz.prog 326 [.lst false 4 (l.map eH),.clo (.func 327) [] [.fp [.int .i64 n]]] [] (.bool (l.any (fun x=> !Q3v n x))) []:=by
 refine jbS Tryz.func326 9 fun X hX=> ?_
 refine jq [0,1] ?_
 refine Q0 [4] (jt 2 (k:=(jc [] (c:=(by apply Q56<;>exact Z6)) (a:=Q57) (k:=jr)))) ?_
 refine Q5 (je0 ?_)
 rw[←Qn1]
theorem Qmg:Q6 Tryz.prog 312:=jcb Tryz.func312
theorem Qlv{x:Mth}(h:Q3q x≤1099511627776):Ct Tryz.prog 312 [eM x] [] (.bool (Qly x)) []:=by
 unfold Qly
 simp only[Q3q] at h
 refine jbS Tryz.func312 46 fun X hX=> ?_
 refine jq [1] ?_
 refine Q0 [1,3] (jt 2 (k:=(jc [] (c:=(by apply Q91<;>exact Zcn)) (a:=Q95) (k:=jr)))) ?_
 refine Q4 (Q0 [1,3,17] (jt 1 (k:=(jc [] (c:=(by apply Q8h<;>exact Zcn)) (a:=Q2h) (k:=(jt 2 (k:=(jm 5 12 [1,3,17] (p:=Zcb) (q:=Zcb) (k:=jf)))))))) ?_)
 refine jd (fun h2=> ?_) (fun h2=> ?_)
 ·try simp at h2
  refine jq [2] ?_
  refine Q5 (je Zw ?_)
  have h2b:x.code.length<1∨60<x.code.length∨6<x.hdls.length:=by
   rcases h2 with (h|h)|h
   ·simp[h]
   ·omega
   ·omega
  rw[decide_eq_true h2b];rfl
 ·try simp at h2
  refine Q3 (Q4 (Q0 [1,3,19,20,21] (jh hX Zw) ?_))
  refine Q7 (Qh (α:=Nat) [1,3,19,20,21] (fun i=>[(21,.int .i64 i)]) (fun i=>[]) (fun i=>i≤x.code.length∧(x.code.drop i).all (Q69 x.code.length)=x.code.all (Q69 x.code.length)) (fun i=>x.code.length-i) (0) (fun i=>by simp;rfl) Z3 ?_ ?_)
  ·simp
  rintro i ⟨hi,hI⟩
  refine jq [1,3,19,20,21,22] ?_
  refine Q4 (jd (fun h5=> ?_) (fun h5=> ?_))
  ·try simp at h5
   rw[Q5r h5] at hI
   refine Q3 (Q4 (Q7 (Q0 [1,3,5,19,20,21] (jh hX Z35) ?_)))
   refine Q0 [1,3,19,20,21,39] (js hX 1 Z35 (jc [] (c:=(by apply Qns<;>exact Zcn)) (a:=Qoe) (k:=(jt 2 (k:=(jm 11 28 [1,3,19,20,21,39] (p:=Zcb) (q:=by intro b;(try simp at b);exact (js hX 2 (by simp[-Qr,-Qa,h2,h5];rfl) (Q8.call [] rfl Z3 rfl Z1 Z7 (by apply Qhd<;>exact Zcn) Qbh Z3 Z3 Z1 (js hX 2 Z1 (jm 5 33 [1,3,19,20,21,28,38] (p:=by intro b;(try simp at b);exact (jh hX (by simp[-Qr,-Qa,h2,h5];rfl))) (q:=Zcb) (k:=(jh hX Z1))))))) (k:=jf))))))) ?_
   refine jd (fun h7=> ?_) (fun h7=> ?_)
   ·try simp at h7
    refine jq [2] ?_
    refine Q5 (je (by simp[h2,h5,h7];rfl) ?_)
    have:Q69 x.code.length x.code[i]=false:=by unfold Q69;grind
    simp[←hI,this]
   ·try simp at h7
    have h7b:Q69 x.code.length x.code[i]=true:=by unfold Q69;grind
    rw[h7b,Bool.true_and] at hI
    refine Q3 (Qb (jh hX Z9) ?_)
    refine Qm (i+1) [1,3,19,20,21] 2 Z1r Z3 (by simp[h2,h5,h7];try (simp (disch:=omega) only[Qc])) ?_ ?_
    ·exact ⟨by omega,hI⟩
    ·omega
  ·try simp at h5
   rw[List.drop_eq_nil_of_le h5] at hI
   refine Ql (Q0 [2] (js hX 3 Z35 (jB (c:=(by apply Q4j<;>first|assumption|omega|(intro y hy;have:=Q3j (f:=Qf0) hy;simp only[Qf0] at*;omega))) (a:=Q4k) (k:=jr))) ?_)
   refine Q5 (je Z35 ?_)
   have h2b: ¬(x.code.length<1∨60<x.code.length∨6<x.hdls.length):=by omega
   rw[decide_eq_false h2b,←hI]
   simp only[List.all_nil,Bool.true_and,Bool.not_false]
   congr 1
   rw[Bool.eq_iff_iff]
   simp
theorem Qog:Q6 Tryz.prog 251:=jcb Tryz.func251
theorem Qnu{t:Str}(ht:t.length≤1099511627776):Ct Tryz.prog 251 [.str t] [] (eDO (Qd t)) []:=by
 refine jbS Tryz.func251 10 fun X hX=> ?_
 refine jq [0,2] ?_
 refine Q4 (Q0 [0,2,6] (jt 2 (k:=(jB (c:=(by apply (Qh7 (l:=[t]))<;>simp)) (a:=Qhn) (k:=jr)))) ?_)
 refine jd (fun h1=> ?_) (fun h1=> ?_)
 ·try simp at h1
  refine jq [2] ?_
  refine Q5 (Q1b Z7 ?_ rfl)
  rw[show Qd t=⟨[],[],0,2⟩ from by unfold Qd;rw[if_pos Z6y]]
  exact Q2s _ _ _
 ·try simp at h1
  refine Q3 (Q0 [2] (jt 1 (k:=(jc [] (c:=Z56) (a:=Q1v) (k:=jr)))) ?_)
  refine Q5 (Q1b Z7 ?_ rfl)
  rw[show Qd t=Qy t from by unfold Qd;rw[if_neg Z6y]]
  exact Wk.refl _
theorem Qj1:Q6 Tryz.prog 252:=jcb Tryz.func252
theorem Qiq{l:List Str}:Ct Tryz.prog 252 [.lst false 1 (l.map V.str)] [] (.int .i64 l.length) []:=by
 refine jbS Tryz.func252 5 fun X hX=> ?_
 refine jq [0] ?_
 refine jq [2] ?_
 refine Q5 (je0 ?_)
 simp
theorem Q8t:Q6 Tryz.prog 178:=jcb Tryz.func178
theorem Qcc{t:Str}(ht:t.length≤1099511627776):Ct Tryz.prog 178 [.str t] [] (.int .i64 (Q45 t)) []:=by
 have hd8:=Q7x t
 refine jbS Tryz.func178 13 fun X hX=> ?_
 refine jq [0] ?_
 refine Q0 [3] (jt 1 (k:=(jF (c:=(by apply Qnu<;>exact Z1i)) (a:=Qog) (k:=jr)))) ?_
 refine Q4 (jq [3,8] ?_)
 refine jd (fun h2=> ?_) (fun h2=> ?_)
 ·try simp at h2
  refine jq [2] ?_
  refine Q5 (je0 ?_)
  simp_all[Q45]
 ·try simp at h2
  refine Q3 (Q0 [2] (jt 3 (k:=(jc [] (c:=(by apply Qiq<;>exact Z1i)) (a:=Qj1) (k:=jr)))) ?_)
  refine Q5 (je0 ?_)
  simp_all[Q45]
theorem Qhr:Q6 Tryz.prog 313:=jcb Tryz.func313
theorem Qhe{x:Mth}(h:x.desc.length≤1099511627776):Ct Tryz.prog 313 [eM x] [] (.int .i64 (Q45 x.desc+if x.static=true then 0 else 1)) []:=by
 refine jbS Tryz.func313 13 fun X hX=> ?_
 refine jq [1] ?_
 refine Q0 [1,3] (jt 2 (k:=(jc [] (c:=(by apply Qcc<;>exact Z6)) (a:=Q8t) (k:=jr)))) ?_
 have hd8:=Qig x.desc
 have hw:IntKind.i64.wrap (Q45 x.desc+1)=Q45 x.desc+1:=Qc Zb Zb
 refine Q4 (jq [3,9] ?_)
 refine' Qbi [3] Z7 Z15 (fun h2=> ?a1_1) (fun h2=> ?a0_1) ?ak_1
 case a1_1=>
  try simp at h2
  refine Qb (jh hX Z9) ?_
  exact ⟨rfl,Eq.trans Z22 Z15⟩
 case a0_1=>
  try simp at h2
  refine Q3 ?_
  exact ⟨rfl,Eq.trans Z22 Z15⟩
 case ak_1=>
  refine Q15 (Le.of_eq Z7) ?_
  refine jq [2] ?_
  refine Q5 (je0 ?_)
  cases hst:x.static<;>simp_all
theorem Qj5:Q6 Tryz.prog 272:=jcb Tryz.func272
theorem Qix{x:Mth}(h:Q3q x≤1099511627776):Ct Tryz.prog 272 [eM x] [] (.bool (Q2t x)) []:=by
 have hM:=h
 simp only[Q3q] at h
 refine jbS Tryz.func272 93 fun X hX=> ?_
 refine jq [1] ?_
 refine Q4 (Q0 [1,24] (jt 2 (k:=(jc [] (c:=Z74) (a:=Q9x) (k:=(jt 2 (k:=(jm 5 7 [1,12] (p:=Zcb) (q:=Zd3) (k:=(jt 1 (k:=(jm 5 13 [1,18] (p:=Zcb) (q:=Zct) (k:=(jt 1 (k:=(jm 5 19 [1,24] (p:=Zcb) (q:=Zct) (k:=jf)))))))))))))))) ?_)
 refine jd (fun h1=> ?_) (fun h1=> ?_)
 ·try simp at h1
  have hh:Q39 x=false:=by unfold Q39;grind
  refine jq [2] ?_
  refine Q5 (je0 ?_)
  rw[Qby hh]
 ·try simp at h1
  have hh:Q39 x=true:=by unfold Q39;grind
  refine Q3 (Q4 (jq [1,26] ?_))
  refine jd (fun h3=> ?_) (fun h3=> ?_)
  ·try simp at h3
   refine Q0 [2] (jt 4 (k:=(jm 4 30 [1,34] (p:=Zcb) (q:=Zcb) (k:=(jt 1 (k:=(jm 5 35 [1,40] (p:=Zcb) (q:=Zcb) (k:=(jt 1 (k:=(jm 5 41 [1,46] (p:=Zcb) (q:=Zcb) (k:=(jt 1 (k:=(jm 4 47 [1,51] (p:=Zcb) (q:=Zcb) (k:=(jt 1 (k:=(jm 4 52 [1,56] (p:=Zcb) (q:=Zcb) (k:=(jt 1 (k:=(jm 4 57 [61] (p:=Zcb) (q:=Zcb) (k:=jr)))))))))))))))))))))))) ?_
   refine Q5 (je0 ?_)
   rw[Q6t hh h3]
   simp[Qn];grind
  ·try simp at h3
   rw[Q6f hh h3]
   refine Q3 (Q4 (jD [1,71] (jS 1 Z7 (jC (c:=by apply Qlv<;>exact Z6) (a:=Qmg) (k:=(jS 2 Z7 (jM 6 65 [1,71] (p:=Zcj) (q:=by intro b;(try simp at b);exact (jS 3 Z1 (jC (c:=by apply Qhe<;>exact Z6) (a:=Qhr) (k:=(jQ Z1))))) (k:=(Q18.fin Z22))))))) ?_))
   refine jd (fun h5=> ?_) (fun h5=> ?_)
   ·try simp at h5
    refine jq [2] ?_
    refine Q5 (je (by simp[h5];rfl) ?_)
    rcases h5 with h5|h5
    ·simp[h5]
    ·rw[decide_eq_false (p:=_≤_) Zb];simp
   ·try simp at h5
    refine Q3 (Q0 [2] (js hX 4 (by simp[h5];rfl) (jm 17 75 [92] (p:=Zcb) (q:=by intro b;(try simp at b);exact (js hX 4 Zb3 (jm 4 79 [1,75,83] (p:=by intro b;(try simp at b);exact (jh hX Zb3)) (q:=Zcb) (k:=(js hX 1 Z1 (jm 7 84 [75,91] (p:=by intro b;(try simp at b);exact (js hX 2 Zb3 (Q8.callF rfl Z3 rfl Z1 Z56 Q1v Z8w (jh hX Z1)))) (q:=Zcb) (k:=(jh hX Z1)))))))) (k:=jr))) ?_)
    refine Q5 (je (by simp[h5];rfl) ?_)
    rw[h5.1,decide_eq_true h5.2]
    simp only[Bool.true_and,Qn]
    congr 1
theorem Qcp:Q6 Tryz.prog 315:=jcb Tryz.func315
theorem Qcn{x:Mth}{n d:Str}:Ct Tryz.prog 315 [eM x,.fp [.str n],.fp [.str d]] [] (.bool (decide (x.name=n)&&decide (x.desc=d))) []:=by
 refine jbS Tryz.func315 15 fun X hX=> ?_
 refine jq [1,2,3] ?_
 refine Q0 [4] (jt 5 (k:=(jm 5 9 [14] (p:=Zcb) (q:=Zcb) (k:=jr)))) ?_
 refine Q5 (je0 ?_)
 simp_all
theorem Q5t:Q6 Tryz.prog 314:=jcb Tryz.func314
theorem Q5s{n d:Str}{l:List Mth}(hl:l.length≤1099511627776):Ct Tryz.prog 314 [.lst false 9 (l.map eM),.clo (.func 315) [] [.fp [.str n],.fp [.str d]]] [] (.int .i64 (fix (fun x=>decide (x.name=n)&&decide (x.desc=d)) l)) []:=by
 refine jbS Tryz.func314 19 fun X hX=> ?_
 refine jq [0,1] ?_
 refine Q4 (jq [0,1,7,8] ?_)
 refine Q7 (Qh (α:=Nat) [0,1,7,8] (fun i=>[(8,.int .i64 i)]) (fun i=>[]) (fun i=>i≤l.length∧ ∀x∈l.take i,(fun x=>decide (x.name=n)&&decide (x.desc=d)) x=false) (fun i=>l.length-i) (0) (fun i=>by simp;rfl) Z3 ?_ ?_)
 ·simp
 rintro i ⟨hi,hI⟩
 refine jq [0,1,7,8,9] ?_
 refine Q4 (jd (fun h2=> ?_) (fun h2=> ?_))
 ·try simp at h2
  refine Q3 (Q4 (Q7 (jq [0,1,5,7,8] ?_)))
  refine Q0 [0,1,5,7,8,16] (js hX 5 Zw (jc [] (c:=(by apply Qcn<;>exact Z4b)) (a:=Qcp) (k:=jf))) ?_
  refine jd (fun h4=> ?_) (fun h4=> ?_)
  ·try simp at h4
   refine jq [4] ?_
   refine Q5 (je Zw ?_)
   rw[Q5y h2 hI Z4j]
  ·try simp at h4
   refine Q3 (Qb (jh hX Z9) ?_)
   refine Qo (i+1) [0,1,7,8] Z1x ?_ ?_
   ·exact ⟨by omega,Q7d h2 hI Z4j⟩
   ·omega
 ·try simp at h2
  refine Ql (jq [4] ?_)
  refine Q5 (je Zw ?_)
  rw[Q5h (p:=fun x=>decide (x.name=n)&&decide (x.desc=d)) (fun x hx=>hI x Z41)]
theorem Q4b:Q6 Tryz.prog 273:=jcb Tryz.func273
theorem Q8k{x:Cls}{n d:Str}(h:x.methods.length≤1099511627776):Ct Tryz.prog 273 [eC x,.str n,.str d] [] (.int .i64 (fix (fun f=>decide (f.name=n)&&decide (f.desc=d)) x.methods)) []:=by
 refine jbS Tryz.func273 11 fun X hX=> ?_
 refine jq [3,4,5] ?_
 refine Q0 [6] (jt 3 (k:=(jB (c:=(by apply Q5s<;>exact Z6)) (a:=Q5t) (k:=jr)))) ?_
 refine Q5 (je0 ?_)
 simp_all
theorem Qkh:Q6 Tryz.prog 194:=jcb Tryz.func194
theorem Qk4{x:Cls}(h:Q1r x≤1099511627776):Ct Tryz.prog 194 [eC x] [] (.bool (Q3l x)) []:=by
 simp only[Q1r] at h
 refine jbS Tryz.func194 102 fun X hX=> ?_
 refine jq [1] ?_
 refine Q4 (Q0 [1,43] (jt 2 (k:=(jc [] (c:=Z1w) (a:=Q43) (k:=(jt 2 (k:=(jm 5 11 [1,16] (p:=Zcb) (q:=by intro b;(try simp at b);exact (js hX 2 Z1 (Q8.call [] rfl Z3 rfl Z1 Z7 Z1w Q43 Z3 Z3 Z1 (jh hX Z1)))) (k:=(jt 1 (k:=(jm 6 17 [1,23] (p:=Zcb) (q:=Zcb) (k:=(jt 1 (k:=(jm 7 24 [1,31] (p:=Zcb) (q:=by intro b;(try simp at b);exact (js hX 3 Z1 (jm 3 27 [1,24,30] (p:=Zcb) (q:=Zcb) (k:=(jh hX Z1))))) (k:=(jt 1 (k:=(jm 5 32 [1,37] (p:=Zcb) (q:=Zcb) (k:=(jt 1 (k:=(jm 5 38 [1,43] (p:=fun b1_32=>by (try simp at b1_32);exact (jh hX Z1)) (q:=fun b1_32=>by (try simp at b1_32);exact (jh hX (by simp[-Qr,-Qa,b1_32];rfl))) (k:=jf)))))))))))))))))))))))) ?_)
 refine jd (fun h1=> ?_) (fun h1=> ?_)
 ·try simp at h1
  have hh:Q9l x=false:=by unfold Q9l;grind
  refine jq [2] ?_
  refine Q5 (je Zs ?_)
  simp[Q3l,hh]
 ·try simp at h1
  have hh:Q9l x=true:=by unfold Q9l;grind
  rw[show Q3l x=(Qc3 [] x.fields&&Qbx x.abstr [] x.methods) from by simp[Q3l,hh]]
  refine Q3 (Q4 (Q0 [1,45,46,47] (jh hX Zs) ?_))
  refine Q7 (Qh (α:=Nat) [1,45,46,47] (fun i=>[(47,.int .i64 i)]) (fun i=>[]) (fun i=>i≤x.fields.length∧Qc3 (x.fields.take i) (x.fields.drop i)=Qc3 [] x.fields) (fun i=>x.fields.length-i) (0) (fun i=>by simp;rfl) Z3 ?_ ?_)
  ·simp
  rintro i ⟨hi,hI⟩
  refine jq [1,45,46,47,48] ?_
  refine Q4 (jd (fun h4=> ?_) (fun h4=> ?_))
  ·try simp at h4
   rw[List.drop_eq_getElem_cons h4] at hI
   simp only[Qc3] at hI
   have hfx:=Qu8 (p:=fun f:Fld=>decide (f.name=x.fields[i].name)) h4 Z3
   refine Q3 (Q4 (Q7 (Q0 [1,3,4,45,46,47] (jh hX Z5r) ?_)))
   refine Q0 [1,45,46,47,69] (js hX 2 Z5r (jc [] (c:=Z1w) (a:=Q43) (k:=(jt 2 (k:=(jm 5 56 [1,3,4,45,46,47,61] (p:=Zcb) (q:=by intro b;(try simp at b);exact (js hX 2 Zae (Q8.call [] rfl Z3 rfl Z1 Z7 (by apply Qc8<;>exact Zx) Q4v Z3 Z3 Z1 (jh hX Z1)))) (k:=(jt 1 (k:=(jm 7 62 [1,45,46,47,69] (p:=Zcb) (q:=by intro b;(try simp at b);exact (js hX 3 Zae (Q8.call [] rfl Z3 rfl Z1 Z7 (by apply Q94<;>exact Zx) Q97 Z3 Z3 Z1 (jh hX Z1)))) (k:=jf))))))))))) ?_
   refine jd (fun h6=> ?_) (fun h6=> ?_)
   ·try simp at h6
    refine jq [2] ?_
    refine Q5 (je Z5r ?_)
    have h6b:(Q2j x.fields[i].name&&Q1n x.fields[i].type&&(x.fields.take i).all (fun g=> !decide (g.name=x.fields[i].name)))=false:=by rw[←hfx];grind
    rw[←hI,h6b];rfl
   ·try simp at h6
    have h6b:(Q2j x.fields[i].name&&Q1n x.fields[i].type&&(x.fields.take i).all (fun g=> !decide (g.name=x.fields[i].name)))=true:=by rw[←hfx];grind
    refine Q3 (Qb (jh hX Z9) ?_)
    refine Qm (i+1) [1,45,46,47] 1 Z1r Z3 Z9y ?_ ?_
    ·exact ⟨by omega,by rw[List.take_succ_eq_append_getElem h4,←hI,h6b];simp⟩
    ·omega
  ·try simp at h4
   rw[List.drop_eq_nil_of_le h4] at hI
   simp only[Qc3] at hI
   rw[←hI,Bool.true_and]
   refine Ql (Q4 (Q0 [1,72,73,74] (jh hX Z5r) ?_))
   refine Q7 (Qh (α:=Nat) [1,72,73,74] (fun i=>[(74,.int .i64 i)]) (fun i=>[]) (fun i=>i≤x.methods.length∧Qbx x.abstr (x.methods.take i) (x.methods.drop i)=Qbx x.abstr [] x.methods) (fun i=>x.methods.length-i) (0) (fun i=>by simp;rfl) Z3 ?_ ?_)
   ·simp
   rintro i ⟨hi2,hI2⟩
   refine jq [1,72,73,74,75] ?_
   refine Q4 (jd (fun h10=> ?_) (fun h10=> ?_))
   ·try simp at h10
    rw[List.drop_eq_getElem_cons h10] at hI2
    simp only[Qbx] at hI2
    have hfx:=Qu8 (p:=fun m:Mth=>decide (m.name=x.methods[i].name)&&decide (m.desc=x.methods[i].desc)) h10 Z3
    refine Q3 (Q4 (Q7 (Q0 [1,5,6,72,73,74] (jh hX Zbd) ?_)))
    refine Q0 [1,72,73,74,100] (js hX 1 Zbd (jc [] (c:=(by apply Qix<;>exact Zx)) (a:=Qj5) (k:=(jt 2 (k:=(jm 8 82 [1,5,6,72,73,74,90] (p:=Zcb) (q:=by intro b;(try simp at b);exact (js hX 3 Z9c (jm 4 85 [1,5,6,72,73,74,82,89] (p:=by intro b;(try simp at b);exact (jh hX Z9c)) (q:=Zcb) (k:=(jh hX Z1))))) (k:=(jt 1 (k:=(jm 9 91 [1,72,73,74,100] (p:=Zcb) (q:=by intro b;(try simp at b);exact (js hX 5 Z9c (Q8.call [] rfl Z3 rfl Z1 Z7 (by apply Q8k<;>exact Zx) Q4b Z3 Z3 Z1 (jh hX Z1)))) (k:=jf))))))))))) ?_
    refine jd (fun h12=> ?_) (fun h12=> ?_)
    ·try simp at h12
     refine jq [2] ?_
     refine Q5 (je Zbd ?_)
     have h12b:(Q2t x.methods[i]&& !(x.methods[i].abstr&& !x.abstr)&&(x.methods.take i).all (fun g=> !(decide (g.name=x.methods[i].name)&&decide (g.desc=x.methods[i].desc))))=false:=by rw[←hfx];grind
     rw[←hI2,h12b];rfl
    ·try simp at h12
     have h12b:(Q2t x.methods[i]&& !(x.methods[i].abstr&& !x.abstr)&&(x.methods.take i).all (fun g=> !(decide (g.name=x.methods[i].name)&&decide (g.desc=x.methods[i].desc))))=true:=by rw[←hfx];grind
     refine Q3 (Qb (jh hX Z9) ?_)
     refine Qm (i+1) [1,72,73,74] 1 Z1r Z3 (by simp[h1,h4,h10];try (simp (disch:=omega) only[Qc])) ?_ ?_
     ·exact ⟨by omega,by rw[List.take_succ_eq_append_getElem h10,←hI2,h12b];simp⟩
     ·omega
   ·try simp at h10
    rw[List.drop_eq_nil_of_le h10] at hI2
    simp only[Qbx] at hI2
    rw[←hI2]
    refine Ql (jq [2] ?_)
    refine Q5 (je Zbd ?_)
    simp
theorem Q9v:Q6 Tryz.prog 292:=jcb Tryz.func292
theorem Q9r{l:List Str}{t:Str}(hl:l.length≤1099511627776):Ct Tryz.prog 292 [.lst false 1 (l.map V.str),.str t] [] (.int .i64 (fix (fun x=>decide (t=x)) l)) []:=by
 refine jbS Tryz.func292 19 fun X hX=> ?_
 refine jq [0,1] ?_
 refine Q4 (jq [0,1,7,8] ?_)
 refine Q7 (Qh (α:=Nat) [0,1,7,8] (fun i=>[(8,.int .i64 i)]) (fun i=>[]) (fun i=>i≤l.length∧ ∀x∈l.take i,(fun x=>decide (t=x)) x=false) (fun i=>l.length-i) (0) (fun i=>by simp;rfl) Z3 ?_ ?_)
 ·simp
 rintro i ⟨hi,hI⟩
 refine jq [0,1,7,8,9] ?_
 refine Q4 (jd (fun h2=> ?_) (fun h2=> ?_))
 ·try simp at h2
  refine Q3 (Q4 (Q7 (jq [0,1,5,7,8] ?_)))
  refine Q0 [0,1,5,7,8,16] (jh hX Zw) ?_
  refine jd (fun h4=> ?_) (fun h4=> ?_)
  ·try simp at h4
   refine jq [4] ?_
   refine Q5 (je Zw ?_)
   rw[Q5y h2 hI Z4j]
  ·try simp at h4
   refine Q3 (Qb (jh hX Z9) ?_)
   refine Qo (i+1) [0,1,7,8] Z1x ?_ ?_
   ·exact ⟨by omega,Q7d h2 hI Z4j⟩
   ·omega
 ·try simp at h2
  refine Ql (jq [4] ?_)
  refine Q5 (je Zw ?_)
  rw[Q5h (p:=fun x=>decide (t=x)) (fun x hx=>hI x Z41)]
theorem Q29:Q6 Tryz.prog 225:=jcb Tryz.func225
theorem Q3a{l:List Str}{t:Str}(hl:l.length≤1099511627776):Ct Tryz.prog 225 [.lst false 1 (l.map V.str),.str t] [] (.bool (l.any (fun x=>decide (t=x)))) []:=by
 refine jbS Tryz.func225 9 fun X hX=> ?_
 refine jq [0,1] ?_
 refine Q0 [4] (jt 2 (k:=(jc [] (c:=(by apply Q9r<;>exact Z6)) (a:=Q9v) (k:=jr)))) ?_
 refine Q5 (je0 ?_)
 rw[←Qn1]
theorem Qa5:Q6 Tryz.prog 274:=jcb Tryz.func274
theorem Qpl:Ct Tryz.prog 274 [] [] (.lst true 1 (Q3k.map V.str)) []:=by
 refine jbS Tryz.func274 2 fun X hX=> ?_
 refine jq [] ?_
 refine jq [0] ?_
 refine Q5 (je0 ?_)
 simp[Q3k]
theorem Q6d:Q6 Tryz.prog 195:=jcb Tryz.func195
theorem Qca{n:Str}:Ct Tryz.prog 195 [.str n] [] (.bool (bIn n)) []:=by
 refine jbS Tryz.func195 6 fun X hX=> ?_
 refine jq [0] ?_
 refine Q0 [2] (jc [] (c:=Z59) (a:=Qa5) (k:=(jt 1 (k:=(jB (c:=(by apply (Q3a (l:=Q3k))<;>first|decide|simp)) (a:=Q29) (k:=jr)))))) ?_
 refine Q5 (je0 ?_)
 rw[Qzy]
theorem Qg2:Q6 Tryz.prog 193:=jcb Tryz.func193
theorem Qfq{l:List Cls}(hl:l.length≤1099511627776){c:Cls}{k:Int}(h:Q1r c≤1099511627776):Ct Tryz.prog 193 [.int .i64 k,eC c,.fp [wv l]] [] (.int .i64 (pI1 l c k)) []:=by
 refine jbS Tryz.func193 25 fun X hX=> ?_
 refine jq [0,2,4] ?_
 refine Q4 (Q7 (Q0 [0,2,4,6] (jt 1 (k:=(jc [] (c:=(by apply Qk4<;>exact Z6)) (a:=Qkh) (k:=jr)))) ?_))
 refine jd (fun h1=> ?_) (fun h1=> ?_)
 ·try simp at h1
  refine jq [5] ?_
  refine Q5 (je0 ?_)
  simp only[pI1]
  simp_all
 ·try simp at h1
  refine jD [10] (jS 2 Z7 (jC (c:=Z55) (a:=Q6d) (k:=(jS 1 Z7 (jM 10 14 [24] (p:=Zcj) (q:=Zcj) (k:=(jQ Z7))))))) ?_
  refine jd (fun h3=> ?_) (fun h3=> ?_)
  ·try simp at h3
   refine jq [5] ?_
   refine Q5 (je0 ?_)
   simp only[pI1]
   simp_all
  ·try simp at h3
   refine Q3 (jq [5] ?_)
   refine Q5 (je0 ?_)
   simp only[pI1]
   simp_all
theorem Q1z:Q6 Tryz.prog 220:=jcb Tryz.func220
theorem Qac{l:List Cls}{n:Str}(hl:l.length≤1099511627776):Ct Tryz.prog 220 [wv l,.str n] [] (.bool (isKnown l n)) []:=by
 refine jbS Tryz.func220 21 fun X hX=> ?_
 refine jq [0,1] ?_
 refine jq [1,6] ?_
 refine Q0 [4] (jt 2 (k:=(jm 3 17 [20] (p:=Zcb) (q:=by intro b;(try simp at b);exact (js hX 1 Z1 (Q8.call [] rfl Z3 rfl Z1 Z7 Z55 Q6d Z3 Z3 Z1 (jh hX Z1)))) (k:=jr)))) ?_
 refine Q5 (je0 ?_)
 unfold isKnown
 simp_all[bIn,Bool.or_comm]
theorem Q26:Q6 Tryz.prog 258:=jcb Tryz.func258
theorem Q49{l:List Cls}{n:Str}(hl:l.length≤1099511627776):Ct Tryz.prog 258 [wv l,.str n] [] (.tup [eC (Q1q l n),.bool (decide (0≤Qi n l 0))]) []:=by
 refine jbS Tryz.func258 27 fun X hX=> ?_
 refine jq [0,1,4] ?_
 refine jq [0,4,6,7] ?_
 refine Q4 (jq [0,4,6,18] ?_)
 refine jd (fun h2=> ?_) (fun h2=> ?_)
 ·try simp at h2
  refine jq [4,5] ?_
  refine Q5 (Q1b Z7 ?_ rfl)
  rw[Q50 Zb,decide_eq_false (p:=0≤Qi n l 0) Zb]
  exact Wk.tup (.cons Q175 (.cons (Wk.refl _) .nil))
 ·try simp at h2
  obtain ⟨i,hi,hf,hp,hcl,_⟩:=Q3w h2
  refine Q3 (Q0 [4,5] (jh hX (by simp[hi,hp];rfl)) ?_)
  refine Q5 (Q1b (by simp[hi,hp];rfl) ?_ rfl)
  rw[hcl,decide_eq_true h2]
  exact Wk.refl _
theorem Qdu:Q6 Tryz.prog 197:=jcb Tryz.func197
theorem Qdi{l:List Cls}(hl:l.length≤1099511627776){c:Cls}:Ct Tryz.prog 197 [wv l,eC c] [] (.int .i64 (Q7u l c)) []:=by
 have hcase:((decide (0≤Qi c.super l 0))=true∧(Q1q l c.super).final=true)∨((decide (0≤Qi c.super l 0))=true∧(Q1q l c.super).final=false)∨((decide (0≤Qi c.super l 0))=false∧True):=by
  cases decide (0≤Qi c.super l 0)<;>cases (Q1q l c.super).final<;>simp
 rcases hcase with ⟨hc1,hc2⟩|⟨hc1,hc2⟩|⟨hc1,hc2⟩
 all_goals
  refine jbS Tryz.func197 33 fun X hX=> ?_
  refine jq [0,3] ?_
  refine Q0 [0,3,5,6] (js hX 3 Z5p (jF (c:=Z76) (a:=Q26) (k:=(jh hX Z5p)))) ?_
  refine Q4 (Q7 (Q0 [3,5,6,14] (js hX 3 Z5p (jc [] (c:=Z3n) (a:=Q1z) (k:=jr))) ?_))
  refine jd (fun h2=> ?_) (fun h2=> ?_)
  ·try simp at h2
   refine jq [4] ?_
   refine Q5 (je Z5p ?_)
   simp only[Q7u]
   (try simp_all)<;>grind
  ·try simp at h2
   first|(refine jL 10 [0,1,2,3,4,5,8,9] [6,7] [20] ([0,1]) hX Z5p (jH (p:=fun X hX=>jr) (k:=(jH (p:=fun X hX=>jr) (k:=.nil)))) jr ?_)|(refine jL 10 [0,1,2,3,4,5,8,9] [6,7] [20] ([0,1]) hX Z5p (jH (p:=fun X hX=>(jc [] (c:=Z59) (a:=Qa5) (k:=jf))) (k:=(jH (p:=fun X hX=>(jh hX Z5p)) (k:=.nil)))) (jB (c:=Z77) (a:=Q29) (k:=jr)) ?_)|(refine jL 10 [0,1,2,3,4,5,8,9] [6,7] [20] ([0,1]) hX Z5p (jH (p:=fun X hX=>(jc [] (c:=Z59) (a:=Qa5) (k:=jf))) (k:=(jH (p:=fun X hX=>(jh hX Z5p)) (k:=.nil)))) (jB (c:=Z77) (a:=Q29) (k:=jr)) ?_)
   refine jd (fun h4=> ?_) (fun h4=> ?_)
   ·try simp at h4
    all_goals
     refine jq [4] ?_
     refine Q5 (je Z5p ?_)
     simp only[Q7u]
     (try simp_all)<;>grind
   ·try simp at h4
    all_goals
     refine Q3 (jq [4] ?_)
     refine Q5 (je Z5p ?_)
     simp only[Q7u]
     (try simp_all)<;>grind
theorem Qg1:Q6 Tryz.prog 196:=jcb Tryz.func196
theorem Qfp{l:List Cls}(hl:l.length≤1099511627776){c:Cls}{k:Int}:Ct Tryz.prog 196 [.int .i64 k,eC c,.fp [wv l]] [] (.int .i64 (Q7u l c)) []:=by
 refine jbS Tryz.func196 9 fun X hX=> ?_
 refine jq [2,4] ?_
 refine Q0 [5] (jt 2 (k:=(jc [] (c:=(by apply Qdi<;>exact Z6)) (a:=Qdu) (k:=jr)))) ?_
 refine Q5 (je0 ?_)
 simp_all
theorem Q1d:Q6 Tryz.prog 117:=jcb Tryz.func117
theorem Q7r{b:Bool}{n:Int}:Ct Tryz.prog 117 [.bool b,.int .i64 n] [] (.int .i64 (if b=true then 0 else n)) []:=by
 refine jbS Tryz.func117 7 fun X hX=> ?_
 refine jq [0,1] ?_
 refine Q4 (jq [1,5] ?_)
 refine jd (fun h1=> ?_) (fun h1=> ?_)
 ·try simp at h1
  refine jq [4] ?_
  refine Q5 (je0 ?_)
  simp_all
 ·try simp at h1
  refine Q3 (jq [4] ?_)
  refine Q5 (je0 ?_)
  simp_all
theorem Q6c:Q6 Tryz.prog 233:=jcb Tryz.func233
theorem Qc9{t:Str}(ht:t.length≤1099511627776):Ct Tryz.prog 233 [.str t] [] (.str (Q1c t)) []:=by
 refine jbS Tryz.func233 29 fun X hX=> ?_
 refine jq [0] ?_
 refine Q4 (Q7 (Q0 [0,3] (jt 3 (k:=(jm 3 6 [0,9] (p:=Zcb) (q:=Zcb) (k:=(jt 1 (k:=(jm 4 10 [0,14] (p:=Zcb) (q:=by intro b;(try simp at b);exact (js hX 1 Z1 (Q8.call [] rfl Z3 rfl Z1 Z7 Z3r Q4v Z3 Z3 Z1 (jh hX Z1)))) (k:=jr)))))))) ?_))
 refine jd (fun h1=> ?_) (fun h1=> ?_)
 ·try simp at h1
  have hx:Q1c t=[]:=Qko (fun e=>by
   rcases h1 with (h1|h1)|h1
   ·exact .inl h1
   ·exact .inr h1
   ·rw[h1] at e;cases e)
  refine jq [2] ?_
  refine Q5 (je0 ?_)
  rw[hx]
 ·try simp at h1
  obtain ⟨hl1,hl2,hx⟩:=Qkp h1.2 h1.1.1 h1.1.2
  rw[hx]
  have hl0:0<t.length:=by omega
  have hat:=Q2r (n:=91) hl0
  have hs1:0≤(t.length:Int)-1:=by omega
  have hs2:((t.length:Int)-1).toNat=t.length-1:=by omega
  have hs3:t.length-1≤t.length:=by omega
  have hs4:1≤t.length-1:=by omega
  have hs6:1≤t.length:=by omega
  refine Q0 [0,15] (jh hX (by simp[hl0,hs1,hs2,hs3,hs4,hs6];rfl)) ?_
  refine jd (fun h3=> ?_) (fun h3=> ?_)
  ·try simp at h3
   have h3b:Q23 t 0 91=true:=by rw[hat];simpa using h3
   have hs5:2≤t.length-1:=by have:=hl2 h3b;omega
   rw[if_pos h3b]
   refine Q0 [2] (jh hX (by simp[hl0,hs1,hs2,hs3,hs4,hs6,hs5];(try (simp (disch:=omega) only[Qc];(try simp[hl0,hs1,hs2,hs3,hs4,hs6,hs5])));rfl)) ?_
   refine Q5 (je (by simp[hl0,hs1,hs2,hs3,hs4,hs6,hs5];rfl) ?_)
   simp[seg]
  ·try simp at h3
   have h3b:Q23 t 0 91=false:=by rw[hat];simpa using h3
   rw[if_neg (by simp[h3b])]
   refine Q3 (Q0 [2] (jh hX (by simp[hl0,hs1,hs2,hs3,hs4,hs6];(try (simp (disch:=omega) only[Qc];(try simp[hl0,hs1,hs2,hs3,hs4,hs6])));rfl)) ?_)
   refine Q5 (je (by simp[hl0,hs1,hs2,hs3,hs4,hs6];rfl) ?_)
   simp[seg]
theorem Q5q:Q6 Tryz.prog 275:=jcb Tryz.func275
theorem Q5m{l:List Cls}(hl:l.length≤1099511627776){t:Str}(ht:t.length≤1099511627776):Ct Tryz.prog 275 [.str t,.fp [wv l]] [] (.bool (Q53 l t)) []:=by
 refine jbS Tryz.func275 14 fun X hX=> ?_
 refine jq [0,1] ?_
 refine Q0 [1,4] (jt 1 (k:=(jc [] (c:=Z52) (a:=Q6c) (k:=jr)))) ?_
 refine Q0 [3] (jt 3 (k:=(jm 4 9 [13] (p:=Zcb) (q:=by intro b;(try simp at b);exact (js hX 2 Z1 (Q8.call [] rfl Z3 rfl Z1 Z7 Z3n Q1z Z3 Z3 Z1 (jh hX Z1)))) (k:=jr)))) ?_
 refine Q5 (je0 ?_)
 rw[←Q11p]
theorem Qdv:Q6 Tryz.prog 277:=jcb Tryz.func277
theorem Qdj{l:List Cls}(hl:l.length≤1099511627776){t:Str}(ht:t.length≤1099511627776):Ct Tryz.prog 277 [.str t,.fp [.clo (.func 275) [] [.fp [wv l]]]] [] (.bool (!Q53 l t)) []:=by
 refine jbS Tryz.func277 8 fun X hX=> ?_
 refine jq [0,1] ?_
 refine Q0 [3] (jt 2 (k:=(jc [] (c:=(by apply Q5m<;>exact Z6)) (a:=Q5q) (k:=jr)))) ?_
 refine Q5 (je0 ?_)
 simp_all
theorem Q83:Q6 Tryz.prog 316:=jcb Tryz.func316
theorem Q80{cs:List Cls}(hc:cs.length≤1099511627776){l:List Str}(hl:l.length≤1099511627776)(hs: ∀x∈l,x.length≤1099511627776):Ct Tryz.prog 316 [.lst false 1 (l.map V.str),.clo (.func 277) [] [.fp [.clo (.func 275) [] [.fp [wv cs]]]]] [] (.int .i64 (fix (fun t=> !Q53 cs t) l)) []:=by
 refine jbS Tryz.func316 19 fun X hX=> ?_
 refine jq [0,1] ?_
 refine Q4 (jq [0,1,7,8] ?_)
 refine Q7 (Qh (α:=Nat) [0,1,7,8] (fun i=>[(8,.int .i64 i)]) (fun i=>[]) (fun i=>i≤l.length∧ ∀x∈l.take i,(fun t=> !Q53 cs t) x=false) (fun i=>l.length-i) (0) (fun i=>by simp;rfl) Z3 ?_ ?_)
 ·simp
 rintro i ⟨hi,hI⟩
 refine jq [0,1,7,8,9] ?_
 refine Q4 (jd (fun h2=> ?_) (fun h2=> ?_))
 ·try simp at h2
  refine Q3 (Q4 (Q7 (jq [0,1,5,7,8] ?_)))
  refine Q0 [0,1,5,7,8,16] (js hX 5 Zw (jc [] (c:=(by apply Qdj<;>exact Z4b)) (a:=Qdv) (k:=jf))) ?_
  refine jd (fun h4=> ?_) (fun h4=> ?_)
  ·try simp at h4
   refine jq [4] ?_
   refine Q5 (je Zw ?_)
   rw[Q5y h2 hI Z4j]
  ·try simp at h4
   refine Q3 (Qb (jh hX Z9) ?_)
   refine Qo (i+1) [0,1,7,8] Z1x ?_ ?_
   ·exact ⟨by omega,Q7d h2 hI Z4j⟩
   ·omega
 ·try simp at h2
  refine Ql (jq [4] ?_)
  refine Q5 (je Zw ?_)
  rw[Q5h (p:=fun t=> !Q53 cs t) (fun x hx=>hI x Z41)]
theorem Q79:Q6 Tryz.prog 276:=jcb Tryz.func276
theorem Q76{cs:List Cls}(hc:cs.length≤1099511627776){l:List Str}(hl:l.length≤1099511627776)(hs: ∀x∈l,x.length≤1099511627776):Ct Tryz.prog 276 [.lst false 1 (l.map V.str),.clo (.func 277) [] [.fp [.clo (.func 275) [] [.fp [wv cs]]]]] [] (.bool (l.any (fun t=> !Q53 cs t))) []:=by
 refine jbS Tryz.func276 9 fun X hX=> ?_
 refine jq [0,1] ?_
 refine Q0 [4] (jt 2 (k:=(jc [] (c:=(by apply Q80<;>exact Z6)) (a:=Q83) (k:=jr)))) ?_
 refine Q5 (je0 ?_)
 rw[←Qn1]
theorem Qfx:Q6 Tryz.prog 199:=jcb Tryz.func199
theorem Qfl{l:List Cls}(hl:l.length≤1099511627776){c:Cls}(h:Q1r c≤1099511627776):Ct Tryz.prog 199 [wv l,eC c] [] (.bool (Qs7 l c)) []:=by
 simp only[Q1r] at h
 refine jbS Tryz.func199 48 fun X hX=> ?_
 refine jq [2,3] ?_
 refine jq [3,5] ?_
 refine Q4 (jq [3,5,13,14,15] ?_)
 refine Q7 (Qh (α:=Nat) [3,5,13,14,15] (fun i=>[(15,.int .i64 i)]) (fun i=>[]) (fun i=>i≤c.fields.length∧(c.fields.drop i).all (fun f=>Q53 l f.type)=c.fields.all (fun f=>Q53 l f.type)) (fun i=>c.fields.length-i) (0) (fun i=>by simp;rfl) Z3 ?_ ?_)
 ·simp
 rintro i ⟨hi,hI⟩
 refine jq [3,5,13,14,15,16] ?_
 refine Q4 (jd (fun h3=> ?_) (fun h3=> ?_))
 ·try simp at h3
  rw[Q5r h3] at hI
  refine Q3 (Q4 (Q7 (Q0 [3,5,7,13,14,15] (jh hX Z3i) ?_)))
  refine Q0 [3,5,13,14,15,23] (js hX 3 Z3i (jB (c:=(by apply Q5m<;>exact Z2s)) (a:=Q5q) (k:=jr))) ?_
  refine jd (fun h5=> ?_) (fun h5=> ?_)
  ·try simp at h5
   refine jq [4] ?_
   refine Q5 (je Z3i ?_)
   simp[Qs7,←hI,h5]
  ·try simp at h5
   rw[h5,Bool.true_and] at hI
   refine Q3 (Qb (jh hX Z9) ?_)
   refine Qm (i+1) [3,5,13,14,15] 3 Z1r Z3 Z82 ?_ ?_
   ·exact ⟨by omega,hI⟩
   ·omega
 ·try simp at h3
  rw[List.drop_eq_nil_of_le h3] at hI
  refine Ql (Q4 (Q0 [5,26,27,28] (jh hX Z3i) ?_))
  refine Q7 (Qh (α:=Nat) [5,26,27,28] (fun i=>[(28,.int .i64 i)]) (fun i=>[]) (fun i=>i≤c.methods.length∧(c.methods.drop i).all (fun m=>Qeh l m.desc)=c.methods.all (fun m=>Qeh l m.desc)) (fun i=>c.methods.length-i) (0) (fun i=>by simp;rfl) Z3 ?_ ?_)
  ·simp
  rintro i ⟨hi2,hI2⟩
  refine jq [5,26,27,28,29] ?_
  refine Q4 (jd (fun h9=> ?_) (fun h9=> ?_))
  ·try simp at h9
   rw[Q5r h9] at hI2
   have hdp:=Q6l c.methods[i].desc
   have hd8:=Ql9 c.methods[i].desc
   have hdl:c.methods[i].desc.length≤1099511627776:=by have:=Q3j (f:=Q3q) (List.getElem_mem h9);simp only[Q3q] at*;omega
   refine Q3 (Q4 (Q7 (Q0 [5,9,26,27,28] (jh hX Za3) ?_)))
   refine Q0 [5,10,26,27,28] (js hX 2 Za3 (jF (c:=(by apply Q6x<;>exact Z2s)) (a:=Q1v) (k:=(jh hX Za3)))) ?_
   refine Q0 [5,26,27,28,46] (js hX 3 Za3 (jB (c:=(by apply Q5m<;>first|assumption|exact Nat.le_trans hdp.1 hdl)) (a:=Q5q) (k:=(jt 2 (k:=(jm 5 41 [5,26,27,28,46] (p:=Zcb) (q:=by intro b;(try simp at b);exact (js hX 3 (by simp[-Qr,-Qa,h3,h9];rfl) (Q8.callB2 rfl Z3 rfl Z1 (by apply Q76<;>first|assumption|omega|exact fun x hx=>Nat.le_trans (hdp.2 x hx) hdl) Q79 Z3 Z1 (jh hX Z1)))) (k:=jf))))))) ?_
   refine jd (fun h12=> ?_) (fun h12=> ?_)
   ·try simp at h12
    refine jq [4] ?_
    refine Q5 (je Za3 ?_)
    have h12b:Qeh l c.methods[i].desc=false:=by
     rw[Bool.eq_false_iff]
     intro e
     simp only[Qeh,Bool.and_eq_true,List.all_eq_true] at e
     rcases h12 with h|⟨x,hx,h⟩
     ·rw[e.1] at h;cases h
     ·rw[e.2 x hx] at h;cases h
    simp[Qs7,←hI2,h12b]
   ·try simp at h12
    have h12b:Qeh l c.methods[i].desc=true:=by
     simp only[Qeh,Bool.and_eq_true,List.all_eq_true]
     exact h12
    rw[h12b,Bool.true_and] at hI2
    refine Q3 (Qb (jh hX Z9) ?_)
    refine Qm (i+1) [5,26,27,28] 3 Z1r Z3 (by simp[h3,h9];try (simp (disch:=omega) only[Qc])) ?_ ?_
    ·exact ⟨by omega,hI2⟩
    ·omega
  ·try simp at h9
   rw[List.drop_eq_nil_of_le h9] at hI2
   refine Ql (jq [4] ?_)
   refine Q5 (je Za3 ?_)
   simp[Qs7,←hI,←hI2]
theorem Qg0:Q6 Tryz.prog 198:=jcb Tryz.func198
theorem Qfo{l:List Cls}(hl:l.length≤1099511627776){c:Cls}{k:Int}(h:Q1r c≤1099511627776):Ct Tryz.prog 198 [.int .i64 k,eC c,.fp [wv l]] [] (.int .i64 (pI3 l c)) []:=by
 refine jbS Tryz.func198 10 fun X hX=> ?_
 refine jq [2,4] ?_
 refine Q0 [5] (jt 2 (k:=(jc [] (c:=(by apply Qfl<;>exact Z6)) (a:=Qfx) (k:=(jc [] (c:=Z4v) (a:=Q1d) (k:=jr)))))) ?_
 refine Q5 (je0 ?_)
 unfold pI3
 rfl
theorem Qah:Q6 Tryz.prog 278:=jcb Tryz.func278
theorem Qab{l:List Cls}(hl:l.length≤1099511627776){n:Str}:Ct Tryz.prog 278 [wv l,.str n] [] (.str (Q2b l n)) []:=by
 refine jbS Tryz.func278 28 fun X hX=> ?_
 refine jq [0,1] ?_
 refine Q0 [1,5,6] (jt 2 (k:=(jF (c:=Z76) (a:=Q26) (k:=jr)))) ?_
 refine Q4 (Q7 (jq [1,5,13] ?_))
 refine jd (fun h2=> ?_) (fun h2=> ?_)
 ·try simp at h2
  refine jq [4] ?_
  refine Q5 (je0 ?_)
  simp only[Q2b,Qt,Q16]
  (try simp_all)<;>grind
 ·try simp at h2
  refine Q0 [1,17] (jt 1 (k:=(jc [] (c:=Z55) (a:=Q6d) (k:=(jt 2 (k:=(jm 3 21 [1,24] (p:=Zcb) (q:=Zcb) (k:=jr)))))))) ?_
  refine jd (fun h4=> ?_) (fun h4=> ?_)
  ·try simp at h4
   refine jq [4] ?_
   refine Q5 (je0 ?_)
   simp only[Q2b,Qt,Q16]
   (try simp_all)<;>grind
  ·try simp at h4
   refine jq [25] ?_
   refine jd (fun h6=> ?_) (fun h6=> ?_)
   ·try simp at h6
    refine jq [4] ?_
    refine Q5 (je0 ?_)
    simp only[Q2b,Qt,Q16]
    (try simp_all)<;>grind
   ·try simp at h6
    refine Q3 (jq [4] ?_)
    refine Q5 (je0 ?_)
    simp only[Q2b,Qt,Q16]
    (try simp_all)<;>grind
theorem Q2n:Q6 Tryz.prog 226:=jcb Tryz.func226
theorem Q59{l:List Cls}(hl:l.length≤1048576){n:Str}:Ct Tryz.prog 226 [wv l,.str n] [] (.lst true 1 ((Qq l n).map V.str)) []:=by
 refine jbS Tryz.func226 24 fun X hX=> ?_
 refine Q0 [0,1] (jh hX Z53) ?_
 refine Q0 [0,1,5] (jh hX Z53) ?_
 refine Q4 (Q7 (Qh (α:=List Str×Str) [0,1,5] (fun a=>[(1,.str a.2),(5,.arr 0 0 a.1.length)]) (fun a=>[(0,some (1,a.1.map V.str))]) (fun a=>a.1.length+cMu l a.1≤8+l.length∧chn l a.1 a.2=Qq l n) (fun a=>cMu l a.1) (([],n)) (fun a=>by simp;rfl) Z3 ?_ ?_))
 ·exact ⟨by simpa using Q13d l [],rfl⟩
 rintro ⟨o,s⟩ ⟨hn,hI⟩
 simp only at hn hI
 have w0:o.length≤1099511627776:=by omega
 have w1:(o.length+1)*16≤140737488355328:=by omega
 have w2:o.length≤1099511627775:=by omega
 refine Q4 (Q0 [0,1,5,15] (js hX 2 Z53 (Q8.call [] rfl Z3 rfl Z53 Z7 Z3n Q1z Z3 Z3 Z53 (js hX 1 Z53 (jm 5 10 [0,1,5,15] (p:=by intro b;(try simp at b);exact (js hX 2 Z6l (Q8.callB rfl Z3 rfl Z6l Z6p Q29 Z3 Z6l (jh hX Z6l)))) (q:=by intro b;(try simp at b);exact (jh hX Z6l)) (k:=jf))))) ?_)
 refine jd (fun h2=> ?_) (fun h2=> ?_)
 ·try simp at h2
  have h2b:out o s=false:=by
   rw[Bool.eq_false_iff];intro e
   exact h2.2 _ (Q89.1 e) rfl
  have hlt:=Qki h2.1 h2b
  rw[Q9c h2.1 h2b] at hI
  refine Q3 (Q7 (Q0 [0,1,5] (jh hX (by simp[w1,w2,Go.Ev.seen];rfl)) ?_))
  refine Qb (js hX 2 Z53 (Q8.call [] rfl Z3 rfl Z53 Z7 (by apply Qab<;>exact Z6) Qah Z3 Z3 Z53 (jh hX Z53))) ?_
  refine Qm ((o++[s],Q2b l s)) [0,1,5] 1 Z1r Z3 (by simp[w1,w2];try (simp (disch:=omega) only[Qc])) ?_ ?_
  ·exact ⟨by simp;omega,hI⟩
  ·exact hlt
 ·try simp at h2
  have h2b: ¬(isKnown l s=true∧out o s=false):=fun e=>by have h3:=h2 e.1;rw[Q89.2 h3] at e;cases e.2
  rw[Q3x h2b] at hI
  refine Ql (Q0 [4] (jh hX Z53) ?_)
  refine Q5 (Q1b (by simp[w1,w2,Go.Ev.seen];rfl) ?_ rfl)
  rw[←hI]
  exact Wk.refl _
theorem Qhl:Q6 Tryz.prog 201:=jcb Tryz.func201
theorem Qh3{l:List Cls}(hl:l.length≤1048576){n:Str}(hk:isKnown l n=true):Ct Tryz.prog 201 [wv l,.str n] [] (.bool (Qvo l n)) []:=by
 obtain ⟨ys,hy⟩:=Qk5 hk
 have hcl:=Q6z l n
 have hc1:0<(Qq l n).length:=by rw[hy];simp
 have hw:((Qq l n).length:Int)-1=(((Qq l n).length-1:Nat):Int):=by omega
 have hc2:(Qq l n).length-1<(Qq l n).length:=by omega
 have hc3:IntKind.i64.wrap ((((Qq l n).length-1:Nat):Int))=(((Qq l n).length-1:Nat):Int):=Qc Zb Zb
 refine jbS Tryz.func201 19 fun X hX=> ?_
 refine Q0 [0,1] (jh hX Z6n) ?_
 refine Q0 [0,1,5] (js hX 2 Z6n (Q8.callF rfl Z3 rfl Z6n Za9 Q2n (by (try simp[hw,hc2,hc3]);rfl) (jh hX Z6n))) ?_
 refine Q0 [4] (js hX 7 (by simp[hw,hc2,hc3];(try (simp (disch:=omega) only[Qc];(try simp[hw,hc2,hc3])));rfl) (Q8.call [] rfl Z3 rfl Z6n Z7 (by apply Qab<;>exact Z1i) Qah Z3 Z3 Z6n (jh hX Z6n))) ?_
 refine Q5 (je Z6n ?_)
 simp[Qvo,hc2]
theorem Qfz:Q6 Tryz.prog 200:=jcb Tryz.func200
theorem Qfn{l:List Cls}(hl:l.length≤1048576){c:Cls}{k:Int}(hk:isKnown l c.name=true):Ct Tryz.prog 200 [.int .i64 k,eC c,.fp [wv l]] [] (.int .i64 (pI4 l c)) []:=by
 refine jbS Tryz.func200 12 fun X hX=> ?_
 refine jq [2,4] ?_
 refine Q0 [5] (jt 3 (k:=(jc [] (c:=(by apply Qh3<;>exact Z6)) (a:=Qhl) (k:=(jt 1 (k:=(jc [] (c:=Z4v) (a:=Q1d) (k:=jr)))))))) ?_
 refine Q5 (je0 ?_)
 simp only[pI4]
 cases Qvo l c.name<;>simp
theorem Qet:Q6 Tryz.prog 279:=jcb Tryz.func279
theorem Qem{l:List Cls}(hl:l.length≤1048576)(hs:Q1w l≤1099511627776){c n d:Str}:Ct Tryz.prog 279 [wv l,.str c,.str n,.str d] [] (.tup [eM ((mUp l n d (Qq l c)).getD zM),.bool (mUp l n d (Qq l c)).isSome]) []:=by
 have hcl:=Q6z l c
 refine jbS Tryz.func279 42 fun X hX=> ?_
 refine Q0 [0,1,2,3,8] (jh hX Z2h) ?_
 refine Q4 (Q0 [0,2,3,8,17,18,19] (js hX 2 Z2h (Q8.callF rfl Z3 rfl Z2h Z5n Q2n Zap (jh hX Z2h))) ?_)
 refine Q7 (Qh (α:=Nat) [0,2,3,8,17,18,19] (fun i=>[(19,.int .i64 i)]) (fun i=>[]) (fun i=>i≤(Qq l c).length∧mUp l n d ((Qq l c).drop i)=mUp l n d (Qq l c)) (fun i=>(Qq l c).length-i) (0) (fun i=>by simp;rfl) Z3 ?_ ?_)
 ·simp
 rintro i ⟨hi,hI⟩
 refine Q0 [0,2,3,8,17,18,19,20] (jh hX Z2h) ?_
 refine Q4 (jd (fun h2=> ?_) (fun h2=> ?_))
 ·try simp at h2
  rw[List.drop_eq_getElem_cons h2] at hI
  simp only[mUp] at hI
  refine Q3 (Q4 (Q7 (Q0 [0,2,3,8,11,17,18,19] (jh hX Z5k) ?_)))
  refine Q0 [0,2,3,8,12,17,18,19] (js hX 2 Z2h (Q8.callF rfl Z3 rfl Z2h Z5o Q26 Zap (jh hX Z5k))) ?_
  refine Q0 [0,2,3,8,12,14,17,18,19] (js hX 3 Z5k (Q8.call [] rfl Z3 rfl Z2h Z7 Z5h Q4b Z3 Z3 Z2h (jh hX Z2h))) ?_
  refine Q0 [0,2,3,8,12,14,17,18,19,34] (jh hX Z2h) ?_
  refine jd (fun h6=> ?_) (fun h6=> ?_)
  ·try simp at h6
   rw[if_pos h6] at hI
   rw[←hI]
   obtain ⟨j,hj,hjm⟩:=Qos h6
   refine Q0 [8,9] (jh hX Z64) ?_
   refine Q5 (Q1b Z64 ?_ rfl)
   simp only[hjm]
   simp[hj]
   exact Wk.refl _
  ·try simp at h6
   rw[if_neg Zb] at hI
   refine Q3 (Qb (jh hX Z78) ?_)
   refine Qm (i+1) [0,2,3,8,17,18,19] 1 Z1r Z3 Z79 ?_ ?_
   ·exact ⟨by omega,hI⟩
   ·omega
 ·try simp at h2
  rw[List.drop_eq_nil_of_le h2] at hI
  simp only[mUp] at hI
  rw[←hI]
  refine Ql (Q0 [8,9] (jh hX Z5k) ?_)
  refine Q5 (Q1b Z5k ?_ rfl)
  exact Wk.tup (.cons Q11n (.cons (Wk.refl _) .nil))
theorem Qew:Q6 Tryz.prog 203:=jcb Tryz.func203
theorem Qep{l:List Cls}(hl:l.length≤1048576)(hs:Q1w l≤1099511627776){c:Cls}(hc:Q1r c≤1099511627776)(hk:isKnown l c.name=true):Ct Tryz.prog 203 [wv l,eC c] [] (.bool (accI l c)) []:=by
 have hcl:=Q6z l c.name
 obtain ⟨us,hy⟩:=Qk5 hk
 have hul:us.length≤8+l.length:=by rw[hy] at hcl;simp at hcl;omega
 have hcm:c.methods.length≤1099511627776:=by simp only[Q1r] at hc;omega
 have hac:accI l c=us.all (fun u=>(Q1q l u).methods.all (okI l c)):=by simp only[accI,hy];rfl
 rw[hac]
 refine jbS Tryz.func203 91 fun X hX=> ?_
 refine Q0 [0,3] (jh hX Z2w) ?_
 refine Q0 [0,3,5] (js hX 3 Z2w (Q8.callF rfl Z3 rfl Z2w Z5n Q2n Zbr (jh hX Z2w))) ?_
 refine Q4 (Q0 [0,3,20,21,22] (jh hX Z2w) ?_)
 refine Q7 (Qh (α:=Nat) [0,3,20,21,22] (fun i=>[(22,.int .i64 i)]) (fun i=>[]) (fun i=>i≤us.length∧(us.drop i).all (fun u=>(Q1q l u).methods.all (okI l c))=us.all (fun u=>(Q1q l u).methods.all (okI l c))) (fun i=>us.length-i) (0) (fun i=>by simp;rfl) Z3 ?_ ?_)
 ·simp
 rintro i ⟨hi,hI⟩
 refine Q0 [0,3,20,21,22,23] (jh hX Z2w) ?_
 refine Q4 (jd (fun h3=> ?_) (fun h3=> ?_))
 ·try simp at h3
  rw[Q5r h3] at hI
  have hms:(Q1q l us[i]).methods.length≤1099511627776:=Q9u hs
  refine Q3 (Q4 (Q7 (Q0 [0,3,7,20,21,22] (jh hX Zaa) ?_)))
  refine Q0 [0,3,8,20,21,22] (js hX 2 Z2w (Q8.callF rfl Z3 rfl Z2w Z5o Q26 Zbr (jh hX Zaa))) ?_
  refine Q0 [0,3,20,21,22,33,34,35] (jh hX Zaa) ?_
  refine Q7 (Qh (α:=Nat) [0,3,20,21,22,33,34,35] (fun j=>[(35,.int .i64 j)]) (fun j=>[]) (fun j=>j≤(Q1q l us[i]).methods.length∧((Q1q l us[i]).methods.drop j).all (okI l c)=(Q1q l us[i]).methods.all (okI l c)) (fun j=>(Q1q l us[i]).methods.length-j) (0) (fun j=>by simp;rfl) Z3 ?_ ?_)
  ·simp
  rintro j ⟨hj,hJ⟩
  refine Q0 [0,3,20,21,22,33,34,35,36] (jh hX Z2w) ?_
  refine Q4 (jd (fun h7=> ?_) (fun h7=> ?_))
  ·try simp at h7
   rw[Q5r h7] at hJ
   refine Q3 (Q4 (Q7 (Q0 [0,3,11,20,21,22,33,34,35] (jh hX Zbg) ?_)))
   refine Q4 (Q0 [0,3,11,12,20,21,22,33,34,35] (js hX 5 Zbg (Q8.call [] rfl Z3 rfl Z2w Z7 Z5h Q4b Z3 Z3 Z2w (jh hX Z2w))) ?_)
   refine jD [0,3,11,20,21,22,33,34,35,66] (jS 4 Zbg (jM 3 48 [0,3,11,12,20,21,22,33,34,35,51] (p:=Zd9) (q:=Zd9) (k:=(jS 1 Z2w (jM 14 52 [0,3,11,20,21,22,33,34,35,66] (p:=fun b10_8=>by (try simp at b10_8);(have hk0:=b10_8.2;have hk1:=Qea hk0);exact (jS 3 Z94 (jM 10 55 [0,3,11,20,21,22,33,34,35,52,65] (p:=Zd9) (q:=by intro b;(try simp at b);exact (jQ Z94)) (k:=(jQ Z4d))))) (q:=fun b10_8=>by (try simp at b10_8);exact (jQ Z4d)) (k:=(Q18.fin Z22))))))) ?_
   refine jd (fun h10=> ?_) (fun h10=> ?_)
   ·try simp at h10
    refine Q0 [4] (jh hX Z2w) ?_
    refine Q5 (je Z70 ?_)
    have ho:okI l c (Q1q l us[i]).methods[j]=false:=by unfold okI Qn;grind
    rw[←hI,←hJ,ho];simp
   ·try simp at h10
    refine Q3 (Q0 [0,3,11,13,20,21,22,33,34,35] (js hX 7 Z70 (Q8.callF rfl Z3 rfl Z2w (by apply Qem<;>exact Z30) Qet Zbr (jh hX Z70))) ?_)
    refine Q0 [0,3,20,21,22,33,34,35,88] (js hX 3 Z70 (jm 4 80 [0,3,13,20,21,22,33,34,35,84] (p:=by intro b;(try simp at b);exact (jh hX Zaj)) (q:=by intro b;(try simp at b);exact (jh hX Z4d)) (k:=(js hX 1 Z2w (jm 3 85 [0,3,20,21,22,33,34,35,88] (p:=by intro b;(try simp at b);exact (jh hX Zaj)) (q:=by intro b;(try simp at b);exact (jh hX Z4d)) (k:=jf)))))) ?_
    refine jd (fun h13=> ?_) (fun h13=> ?_)
    ·try simp at h13
     refine Q0 [4] (jh hX Z2w) ?_
     refine Q5 (je Z70 ?_)
     have ho:okI l c (Q1q l us[i]).methods[j]=false:=by unfold okI Qn;simp only[hy];grind
     rw[←hI,←hJ,ho];simp
    ·try simp at h13
     have ho:okI l c (Q1q l us[i]).methods[j]=true:=Q12c h10 (by rw[hy];exact h13)
     rw[ho,Bool.true_and] at hJ
     refine Q3 (Qb (jh hX Z6v) ?_)
     refine Qm (j+1) [0,3,20,21,22,33,34,35] 2 Z1r Z3 (by simp[h3,h7,h10];try (simp (disch:=omega) only[Qc])) ?_ ?_
     ·exact ⟨by omega,hJ⟩
     ·omega
  ·try simp at h7
   rw[List.drop_eq_nil_of_le h7] at hJ
   rw[←hJ,List.all_nil,Bool.true_and] at hI
   refine Ql (Qb (jh hX Z6v) ?_)
   refine Qm (i+1) [0,3,20,21,22] 1 Z1r Z3 (by simp[h3,h7];try (simp (disch:=omega) only[Qc])) ?_ ?_
   ·exact ⟨by omega,hI⟩
   ·omega
 ·try simp at h3
  rw[List.drop_eq_nil_of_le h3] at hI
  refine Ql (Q0 [4] (jh hX Z2w) ?_)
  refine Q5 (je Zaa ?_)
  rw[←hI];rfl
end Go.Proofs
