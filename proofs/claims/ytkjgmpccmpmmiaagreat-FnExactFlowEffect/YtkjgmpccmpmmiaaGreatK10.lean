/- Part 11 of what the proofs lean on: what the functions of the program and of the reference compute. Conditions: none. -/
import Derived.Test.YtkjgmpccmpmmiaaGreatK09
set_option linter.all false
set_option linter.unusedVariables false
set_option linter.unusedSimpArgs false
set_option maxHeartbeats 2000000
set_option maxRecDepth 100000
namespace Go.Proofs
open Go Go.Ev
theorem Qku:Q6 Tryz.prog 179:=jcb Tryz.func179
theorem Qkb{F:SF}{st lo tk:List Typ}(hs:st.length≤1000)(hs2:lo.length≤1000)(ht:tk.length≤1000)(hl:F.l.length≤1048576)(hia:F.i.op=3∨F.i.op=4→0≤F.i.a)(k4:F.i.op=4→0<tk.length)(k6:F.i.op=6→0<tk.length)(k7:F.i.op=7→1<tk.length)(k30:F.i.op=30→1<tk.length):Ct Tryz.prog 179 [.ptr 0 0 0,eI F.i] [some (20,[oFl F st lo tk])] (.int .i64 (Q39 F st lo tk).k) [some (20,[oFl F ((Q39 F st lo tk).st) ((Q39 F st lo tk).lo) tk])]:=by
 refine jbS Tryz.func179 130 fun X hX=> ?_
 refine jq [0,3] ?_
 refine jq [0,3,5] ?_
 refine Q5 (jq [0,3,5,11] ?_)
 refine Q9 (jq [0,3,5,11,12] ?_)
 refine jd (fun h3=> ?_) (fun h3=> ?_)
 ·try simp at h3
  refine Q0 [4] (jt 1 (k:=(jc [] (c:=(by apply Q4i<;>exact Z0)) (a:=Q4k) (k:=(jFz (k:=(jc [0] (c:=(by apply Q1p (ys:=[⟨1,[],0⟩])<;>exact Z0)) (a:=Q1h) (k:=jr)))))))) ?_
  refine Q4 (Qq Z8 Z17 (.of_eq ?_) ?_)
  all_goals clear hX
  ·skip
   first
   |(simp_all[Q39,Qm];done)
   |(have hA:F.i.a<(lo.length:Int):=by omega
     have e:Q39 F st lo tk=⟨0,st,lo.set F.i.a.toNat (atL tk 0)⟩:=by rw[Q39,if_neg h3,if_neg h5,if_neg h7,if_pos h11,if_pos hA,if_neg (by simpa[Qm] using h14)]
     rw[e])
  ·skip
   first
   |(simp_all[Q39,Qm];done)
   |(have hA:F.i.a<(lo.length:Int):=by omega
     have e:Q39 F st lo tk=⟨0,st,lo.set F.i.a.toNat (atL tk 0)⟩:=by rw[Q39,if_neg h3,if_neg h5,if_neg h7,if_pos h11,if_pos hA,if_neg (by simpa[Qm] using h14)]
     rw[e]
     simp[k])
 ·try simp at h3
  refine jq [0,3,5,11,18] ?_
  refine jd (fun h5=> ?_) (fun h5=> ?_)
  ·try simp at h5
   refine Q0 [4] (jt 1 (k:=(jc [] (c:=(by apply Q4i<;>exact Z0)) (a:=Q4k) (k:=(jFz (k:=(jc [0] (c:=(by apply Q1p (ys:=[⟨2,[],0⟩])<;>exact Z0)) (a:=Q1h) (k:=jr)))))))) ?_
   refine Q4 (Qq Z8 Z17 (.of_eq ?_) ?_)
   all_goals clear hX
   ·skip
    first
    |(simp_all[Q39,Qm];done)
    |(have hA:F.i.a<(lo.length:Int):=by omega
      have e:Q39 F st lo tk=⟨0,st,lo.set F.i.a.toNat (atL tk 0)⟩:=by rw[Q39,if_neg h3,if_neg h5,if_neg h7,if_pos h11,if_pos hA,if_neg (by simpa[Qm] using h14)]
      rw[e])
   ·skip
    first
    |(simp_all[Q39,Qm];done)
    |(have hA:F.i.a<(lo.length:Int):=by omega
      have e:Q39 F st lo tk=⟨0,st,lo.set F.i.a.toNat (atL tk 0)⟩:=by rw[Q39,if_neg h3,if_neg h5,if_neg h7,if_pos h11,if_pos hA,if_neg (by simpa[Qm] using h14)]
      rw[e]
      simp[k])
  ·try simp at h5
   refine jq [0,3,5,11,24] ?_
   refine jd (fun h7=> ?_) (fun h7=> ?_)
   ·try simp at h7
    refine Q21 (Le.expose 0 0 18 Z24) ?_
    refine Q5 ?_
    have ha:=hia (.inl h7)
    by_cases hA:(lo.length:Int)≤F.i.a
    all_goals first|have hAt:F.i.a.toNat<lo.length:=by omega|have hAt:=trivial
    all_goals
     first|(refine jV 17 (.pur 0 (.pur 2 (.pur 3 (.pur 4 (.pur 5 (.two 1 6 (.one 6 (.one 7 (.pur 8 (.pur 9 (.pur 10 (.pur 11 (.pur 12 (.pur 13 (.pur 14 (.pur 15 (.pur 16 .tail))))))))))) (.two 1 7 (.one 7 (.pur 8 (.pur 9 (.pur 10 (.pur 11 (.pur 12 (.pur 13 (.pur 14 (.pur 15 (.pur 16 .tail)))))))))) (.one 1 (.pur 8 (.pur 9 (.pur 10 (.pur 11 (.pur 12 (.pur 13 (.pur 14 (.pur 15 (.pur 16 .tail))))))))))))))))) [0,3,47] hX (jVp Z1w (jVp Z1w (jVp Z1w (jVp Z1w (jVp Z1w (jVt (jVo (p:=fun X hX=>(jh hX Z1w)) (k:=(jVo (p:=fun X hX=>(jh hX Z1w)) (k:=(jVo (p:=fun X hX=>(jB (c:=Z1c) (a:=Qi) (k:=jf))) (k:=(jVp Z1w (jVp Z1w (jVp Z1w (jVp Z1w (jVp Z1w (jVp Z1w (jVp Z1w (jVp Z1w (jVp Z1w .tail))))))))))))))) (jVo (p:=fun X hX=>(jh hX Z15)) (k:=(jVt (jVo (p:=fun X hX=>(jh hX Z15)) (k:=(jVo (p:=fun X hX=>(jB (c:=Z1c) (a:=Qi) (k:=jf))) (k:=(jVp Z15 (jVp Z15 (jVp Z15 (jVp Z15 (jVp Z15 (jVp Z15 (jVp Z15 (jVp Z15 (jVp Z15 .tail))))))))))))) (jVo (p:=fun X hX=>(jB (c:=Z1c) (a:=Qi) (k:=jf))) (k:=(jVo (p:=fun X hX=>(jh hX Z15)) (k:=(jVp Z15 (jVp Z15 (jVp Z15 (jVp Z15 (jVp Z15 (jVp Z15 (jVp Z15 (jVp Z15 (jVp Z15 .tail)))))))))))))))))))))) (jh hX Z1w) ?_)|(refine jV 17 (.pur 0 (.pur 2 (.pur 3 (.pur 4 (.pur 5 (.two 1 6 (.one 6 (.one 7 (.pur 8 (.pur 9 (.pur 10 (.pur 11 (.pur 12 (.pur 13 (.pur 15 (.two 14 16 (.one 16 .tail) (.one 14 .tail))))))))))) (.two 1 7 (.one 7 (.pur 8 (.pur 9 (.pur 10 (.pur 11 (.pur 12 (.pur 13 (.pur 15 (.two 14 16 (.one 16 .tail) (.one 14 .tail)))))))))) (.one 1 (.pur 8 (.pur 9 (.pur 10 (.pur 11 (.pur 12 (.pur 13 (.pur 15 (.two 14 16 (.one 16 .tail) (.one 14 .tail))))))))))))))))) [0,3,47] hX (jVp Z1w (jVp Z1w (jVp Z1w (jVp Z1w (jVp Z1w (jVt (jVo (p:=fun X hX=>(jh hX Z1w)) (k:=(jVo (p:=fun X hX=>(jh hX Z1w)) (k:=(jVo (p:=fun X hX=>(jB (c:=Z1c) (a:=Qi) (k:=jf))) (k:=(jVp Z1w (jVp Z1w (jVp Z1w (jVp Z1w (jVp Z1w (jVp Z1w (jVp Z1w (jVt (jVo (p:=fun X hX=>(jh hX Z1w)) (k:=(jVo (p:=fun X hX=>(jh hX Z1w)) (k:=.tail)))) (jVo (p:=fun X hX=>(jh hX Z15)) (k:=(jVo (p:=fun X hX=>(jh hX Z15)) (k:=.tail)))))))))))))))))) (jVo (p:=fun X hX=>(jh hX Z15)) (k:=(jVt (jVo (p:=fun X hX=>(jh hX Z15)) (k:=(jVo (p:=fun X hX=>(jB (c:=Z1c) (a:=Qi) (k:=jf))) (k:=(jVp Z15 (jVp Z15 (jVp Z15 (jVp Z15 (jVp Z15 (jVp Z15 (jVp Z15 (jVt (jVo (p:=fun X hX=>(jh hX Z15)) (k:=(jVo (p:=fun X hX=>(jh hX Z15)) (k:=.tail)))) (jVo (p:=fun X hX=>(jh hX Z15)) (k:=(jVo (p:=fun X hX=>(jh hX Z15)) (k:=.tail)))))))))))))))) (jVo (p:=fun X hX=>(jB (c:=Z1c) (a:=Qi) (k:=jf))) (k:=(jVo (p:=fun X hX=>(jh hX Z15)) (k:=(jVp Z15 (jVp Z15 (jVp Z15 (jVp Z15 (jVp Z15 (jVp Z15 (jVp Z15 (jVt (jVo (p:=fun X hX=>(jh hX Z15)) (k:=(jVo (p:=fun X hX=>(jh hX Z15)) (k:=.tail)))) (jVo (p:=fun X hX=>(jh hX Z15)) (k:=(jVo (p:=fun X hX=>(jh hX Z15)) (k:=.tail))))))))))))))))))))))))) (jh hX Z1w) ?_)
     refine jd (fun h8=> ?_) (fun h8=> ?_)
     ·try simp at h8
      all_goals
       refine Q21 (Le.absorb 0 0 18 Z8) ?_
       refine Q0 [4] (jh hX (by simp[ha,hA,hAt,h8];rfl)) ?_
       refine Q4 (Qq (by simp[ha,hA,hAt,h8];rfl) Z17 (.of_eq ?_) ?_)
       all_goals clear hX
       ·skip
        have e:Q39 F st lo tk=⟨10,st,lo⟩:=by
         rw[Q39,if_neg h3,if_neg h5,if_pos h7,if_neg (fun e=>by first|omega|(have e2:=e.2;rw[Qb hAt] at e2;simp_all))]
        rw[e]
       ·skip
        have e:Q39 F st lo tk=⟨10,st,lo⟩:=by
         rw[Q39,if_neg h3,if_neg h5,if_pos h7,if_neg (fun e=>by first|omega|(have e2:=e.2;rw[Qb hAt] at e2;simp_all))]
        rw[e]
        simp
     ·try simp at h8
      all_goals
       refine Q3 (jP 11 (Q20 [0,1,2,3,4,5,6,7,8,9] (.alt 10 .tail .stop)) [4] [0,1,2] hX (jPp [0,1,2,3,4,5,6,7,8,9] _ (by simp[ha,hA,hAt,h8];try rfl) (jPa 10 3 (p:=fun X hX=>(jFz (k:=jf))) (k:=.tail) (kr:=.stop))) (Q8.weak (jc [0,2] (c:=(by apply Qj4 (ys:=[lo[F.i.a.toNat]'Za])<;>exact Z0)) (a:=Q1h) (k:=(jh hX (by simp[ha,hA,hAt,h8];rfl)))) (Le.absorb 0 0 18 Z8)) ?_)
       refine Q4 (Qq (by simp[ha,hA,hAt,h8];rfl) Z17 (.of_eq ?_) ?_)
       all_goals clear hX
       ·skip
        first
        |(simp_all[Q39,Qm];done)
        |(have hA:F.i.a<(lo.length:Int):=by omega
          have e:Q39 F st lo tk=⟨0,st,lo.set F.i.a.toNat (atL tk 0)⟩:=by rw[Q39,if_neg h3,if_neg h5,if_neg h7,if_pos h11,if_pos hA,if_neg (by simpa[Qm] using h14)]
          rw[e])
       ·skip
        first
        |(simp_all[Q39,Qm];done)
        |(have hA:F.i.a<(lo.length:Int):=by omega
          have e:Q39 F st lo tk=⟨0,st,lo.set F.i.a.toNat (atL tk 0)⟩:=by rw[Q39,if_neg h3,if_neg h5,if_neg h7,if_pos h11,if_pos hA,if_neg (by simpa[Qm] using h14)]
          rw[e]
          simp[k])
   ·try simp at h7
    refine jq [0,3,5,11,60] ?_
    refine jd (fun h11=> ?_) (fun h11=> ?_)
    ·try simp at h11
     have ha:=hia (.inr h11)
     have k:=k4 h11
     refine Q21 (Le.expose 0 0 18 Z24) ?_
     refine Q5 (Q9 (jL 8 [0,1,2,3,4,5,6] [7] [0,3,5,62] ([0,1]) hX (by simp[ha,k];rfl) (jH (p:=fun X hX=>(jB (c:=Z1c) (a:=Qi) (k:=jf))) (k:=.nil)) (jh hX (by simp[ha,k];rfl)) ?_))
     refine jd (fun h12=> ?_) (fun h12=> ?_)
     ·try simp at h12
      refine Q21 (Le.absorb 0 0 18 Z8) ?_
      refine Q0 [4] (jh hX (by simp[ha,k,h12];rfl)) ?_
      refine Q4 (Qq (by simp[ha,k,h12];rfl) Z17 (.of_eq ?_) ?_)
      all_goals clear hX
      ·skip
       have e:Q39 F st lo tk=⟨10,st,lo⟩:=by
        rw[Q39,if_neg h3,if_neg h5,if_neg h7,if_pos h11,if_neg Za]
       rw[e]
      ·skip
       have e:Q39 F st lo tk=⟨10,st,lo⟩:=by
        rw[Q39,if_neg h3,if_neg h5,if_neg h7,if_pos h11,if_neg Za]
       rw[e]
       simp
     ·try simp at h12
      have hA:F.i.a<(lo.length:Int):=by omega
      have hAt:F.i.a.toNat<lo.length:=by omega
      refine Q0 [0,3,5,72] (js hX 4 (by simp[ha,k,h12,hA,hAt];rfl) (jm 3 76 [0,3,5,79] (p:=by intro b;(try simp at b);exact (js hX 1 (by simp[-Qc,-Qb,ha,k,h12,hA,hAt];rfl) (Q8.callB rfl Z3 rfl Z1 (by apply Q41<;>exact Z0) Q43 Z3 Z1 (jh hX (by simp[-Qc,-Qb,ha,k,h12,hA,hAt];rfl))))) (q:=by intro b;(try simp at b);exact (jh hX (by simp[-Qc,-Qb,ha,k,h12,hA,hAt];rfl))) (k:=(jh hX (by simp[ha,k,h12,hA,hAt];rfl))))) ?_
      refine jd (fun h14=> ?_) (fun h14=> ?_)
      ·try simp at h14
       refine Q21 (Le.absorb 0 0 18 Z8) ?_
       refine Q0 [4] (jh hX (by simp[ha,k,h12,hA,hAt];rfl)) ?_
       refine Q4 (Qq (by simp[ha,k,h12,hA,hAt];rfl) Z17 (.of_eq ?_) ?_)
       all_goals clear hX
       ·skip
        first
        |(simp_all[Q39,Qm];done)
        |(have hA:F.i.a<(lo.length:Int):=by omega
          have e:Q39 F st lo tk=⟨0,st,lo.set F.i.a.toNat (atL tk 0)⟩:=by rw[Q39,if_neg h3,if_neg h5,if_neg h7,if_pos h11,if_pos hA,if_neg (by simpa[Qm] using h14)]
          rw[e])
       ·skip
        first
        |(simp_all[Q39,Qm];done)
        |(have hA:F.i.a<(lo.length:Int):=by omega
          have e:Q39 F st lo tk=⟨0,st,lo.set F.i.a.toNat (atL tk 0)⟩:=by rw[Q39,if_neg h3,if_neg h5,if_neg h7,if_pos h11,if_pos hA,if_neg (by simpa[Qm] using h14)]
          rw[e]
          simp[k])
      ·try simp at h14
       refine Q3 (Q2q (n:=10) (A:=[0,1,2,3,4,5,6,7,8,9]) (B:=[]) (L:=[0,1]) hmo (by kernel_rfl) tok hX (by simp[ha,k,h12,hA,hAt];rfl) .nil (jh hX (by simp[ha,k,h12,hA,hAt];rfl)) ?_)
       refine Q21 (Le.absorb 0 0 18 Z8) ?_
       refine Q0 [4] (jh hX (by simp[ha,k,h12,hA,hAt];rfl)) ?_
       refine Q4 (Qq (by simp[ha,k,h12,hA,hAt];rfl) Z17 (.of_eq ?_) ?_)
       all_goals clear hX
       ·skip
        first
        |(simp_all[Q39,Qm];done)
        |(have hA:F.i.a<(lo.length:Int):=by omega
          have e:Q39 F st lo tk=⟨0,st,lo.set F.i.a.toNat (atL tk 0)⟩:=by rw[Q39,if_neg h3,if_neg h5,if_neg h7,if_pos h11,if_pos hA,if_neg (by simpa[Qm] using h14)]
          rw[e])
       ·skip
        first
        |(simp_all[Q39,Qm];done)
        |(have hA:F.i.a<(lo.length:Int):=by omega
          have e:Q39 F st lo tk=⟨0,st,lo.set F.i.a.toNat (atL tk 0)⟩:=by rw[Q39,if_neg h3,if_neg h5,if_neg h7,if_pos h11,if_pos hA,if_neg (by simpa[Qm] using h14)]
          rw[e]
          simp[k])
    ·try simp at h11
     refine jq [0,5,11,91] ?_
     refine jd (fun h17=> ?_) (fun h17=> ?_)
     ·try simp at h17
      have k:=k6 h17
      refine jP 8 (Q20 [0,1,2,3,4,5,6] (.alt 7 .tail .stop)) [4] [0,1] hX (jPp [0,1,2,3,4,5,6] _ (by simp[k];try rfl) (jPa 7 2 (p:=fun X hX=>(jFz (k:=jf))) (k:=.tail) (kr:=.stop))) (jc [0] (c:=(by apply Q1p (ys:=[tk[0]'Za,tk[0]'Za])<;>exact Z0)) (a:=Q1h) (k:=(jh hX (by simp[k];rfl)))) ?_
      refine Q4 (Qq (by simp[k];rfl) Z17 (.of_eq ?_) ?_)
      all_goals clear hX
      ·skip
       first
       |(simp_all[Q39,Qm];done)
       |(have hA:F.i.a<(lo.length:Int):=by omega
         have e:Q39 F st lo tk=⟨0,st,lo.set F.i.a.toNat (atL tk 0)⟩:=by rw[Q39,if_neg h3,if_neg h5,if_neg h7,if_pos h11,if_pos hA,if_neg (by simpa[Qm] using h14)]
         rw[e])
      ·skip
       first
       |(simp_all[Q39,Qm];done)
       |(have hA:F.i.a<(lo.length:Int):=by omega
         have e:Q39 F st lo tk=⟨0,st,lo.set F.i.a.toNat (atL tk 0)⟩:=by rw[Q39,if_neg h3,if_neg h5,if_neg h7,if_pos h11,if_pos hA,if_neg (by simpa[Qm] using h14)]
         rw[e]
         simp[k])
     ·try simp at h17
      refine jq [0,5,11,102] ?_
      refine jd (fun h19=> ?_) (fun h19=> ?_)
      ·try simp at h19
       have k:=k7 h19
       have k0:0<tk.length:=by omega
       refine jP 8 (Q20 [0,1,2,3,4,5,6] (.alt 7 .tail .stop)) [4] [0,1] hX (jPp [0,1,2,3,4,5,6] _ (by simp[k,k0];try rfl) (jPa 7 2 (p:=fun X hX=>(jFz (k:=jf))) (k:=.tail) (kr:=.stop))) (jc [0] (c:=(by apply Q1p (ys:=[tk[1]'Za,tk[0]'Za])<;>exact Z0)) (a:=Q1h) (k:=(jh hX (by simp[k,k0];rfl)))) ?_
       refine Q4 (Qq (by simp[k,k0];rfl) Z17 (.of_eq ?_) ?_)
       all_goals clear hX
       ·skip
        first
        |(simp_all[Q39,Qm];done)
        |(have hA:F.i.a<(lo.length:Int):=by omega
          have e:Q39 F st lo tk=⟨0,st,lo.set F.i.a.toNat (atL tk 0)⟩:=by rw[Q39,if_neg h3,if_neg h5,if_neg h7,if_pos h11,if_pos hA,if_neg (by simpa[Qm] using h14)]
          rw[e])
       ·skip
        first
        |(simp_all[Q39,Qm];done)
        |(have hA:F.i.a<(lo.length:Int):=by omega
          have e:Q39 F st lo tk=⟨0,st,lo.set F.i.a.toNat (atL tk 0)⟩:=by rw[Q39,if_neg h3,if_neg h5,if_neg h7,if_pos h11,if_pos hA,if_neg (by simpa[Qm] using h14)]
          rw[e]
          simp[k])
      ·try simp at h19
       refine jq [0,5,113] ?_
       refine jd (fun h21=> ?_) (fun h21=> ?_)
       ·try simp at h21
        have k:=k30 h21
        have k0:0<tk.length:=by omega
        refine jP 14 (Q20 [0,1,2,3,4,5,6,7,8,9,10,11,12] (.alt 13 .tail .stop)) [4] [0,1] hX (jPp [0,1,2,3,4,5,6,7,8,9,10,11,12] _ (by simp[k,k0];try rfl) (jPa 13 2 (p:=fun X hX=>(jFz (k:=jf))) (k:=.tail) (kr:=.stop))) (jc [0] (c:=(by apply Q1p (ys:=[tk[0]'Za,tk[1]'Za,tk[0]'Za,tk[1]'Za])<;>exact Z0)) (a:=Q1h) (k:=(jh hX (by simp[k,k0];rfl)))) ?_
        refine Q4 (Qq (by simp[k,k0];rfl) Z17 (.of_eq ?_) ?_)
        all_goals clear hX
        ·skip
         first
         |(simp_all[Q39,Qm];done)
         |(have hA:F.i.a<(lo.length:Int):=by omega
           have e:Q39 F st lo tk=⟨0,st,lo.set F.i.a.toNat (atL tk 0)⟩:=by rw[Q39,if_neg h3,if_neg h5,if_neg h7,if_pos h11,if_pos hA,if_neg (by simpa[Qm] using h14)]
           rw[e])
        ·skip
         first
         |(simp_all[Q39,Qm];done)
         |(have hA:F.i.a<(lo.length:Int):=by omega
           have e:Q39 F st lo tk=⟨0,st,lo.set F.i.a.toNat (atL tk 0)⟩:=by rw[Q39,if_neg h3,if_neg h5,if_neg h7,if_pos h11,if_pos hA,if_neg (by simpa[Qm] using h14)]
           rw[e]
           simp[k])
       ·try simp at h21
        refine Q3 (jq [4] ?_)
        refine Q4 (Qq Z8 Z17 (.of_eq ?_) ?_)
        all_goals clear hX
        ·skip
         first
         |(simp_all[Q39,Qm];done)
         |(have hA:F.i.a<(lo.length:Int):=by omega
           have e:Q39 F st lo tk=⟨0,st,lo.set F.i.a.toNat (atL tk 0)⟩:=by rw[Q39,if_neg h3,if_neg h5,if_neg h7,if_pos h11,if_pos hA,if_neg (by simpa[Qm] using h14)]
           rw[e])
        ·skip
         first
         |(simp_all[Q39,Qm];done)
         |(have hA:F.i.a<(lo.length:Int):=by omega
           have e:Q39 F st lo tk=⟨0,st,lo.set F.i.a.toNat (atL tk 0)⟩:=by rw[Q39,if_neg h3,if_neg h5,if_neg h7,if_pos h11,if_pos hA,if_neg (by simpa[Qm] using h14)]
           rw[e]
           simp[k])
end Go.Proofs
namespace Go.Proofs
open Go Go.Ev
theorem Qmr:Q6 Tryz.prog 254:=jcb Tryz.func254
theorem Qm8{t:Typ}:Ct Tryz.prog 254 [eT t] [] (.bool (!decide (t.k=1))) []:=by
 refine jbS Tryz.func254 6 fun X hX=> ?_
 refine jq [1] ?_
 refine jq [2] ?_
 refine Q4 (je0 ?_)
 simp
end Go.Proofs
namespace Go.Proofs
open Go Go.Ev
theorem Q6b{l:List Typ}(hl:l.length≤1099511627776):Ct Tryz.prog 221 [.lst false 3 (l.map eT),.clo (.func 254) [] []] [] (.int .i64 (fix (fun t=> !decide (t.k=1)) l)) []:=by
 refine jbS Tryz.func221 19 fun X hX=> ?_
 refine jq [0,1] ?_
 refine Q5 (jq [0,1,7,8] ?_)
 refine Q9 (Qo (α:=Nat) [0,1,7,8] (fun i=>[(8,.int .i64 i)]) (fun i=>[]) (fun i=>i≤l.length∧ ∀x∈l.take i,(fun t=> !decide (t.k=1)) x=false) (fun i=>l.length-i) (0) (fun i=>by simp;rfl) Z3 ?_ ?_)
 ·simp
 rintro i ⟨hi,hI⟩
 refine jq [0,1,7,8,9] ?_
 refine Q5 (jd (fun h2=> ?_) (fun h2=> ?_))
 ·try simp at h2
  refine Q3 (Q5 (Q9 (jq [0,1,5,7,8] ?_)))
  refine Q0 [0,1,5,7,8,16] (js hX 5 Zy (jc [] (c:=(by apply Qm8<;>first|assumption|exact hs _ (List.getElem_mem h2)|omega)) (a:=Qmr) (k:=jf))) ?_
  refine jd (fun h4=> ?_) (fun h4=> ?_)
  ·try simp at h4
   refine jq [4] ?_
   refine Q4 (je Zy ?_)
   rw[Q77 h2 hI (by simpa using h4)]
  ·try simp at h4
   refine Q3 (Qd (jh hX Z6) ?_)
   refine Qp (i+1) [0,1,7,8] Z2a ?_ ?_
   ·exact ⟨by omega,Q97 h2 hI (by simpa using h4)⟩
   ·omega
 ·try simp at h2
  refine Qr (jq [4] ?_)
  refine Q4 (je Zy ?_)
  rw[Q6y (p:=fun t=> !decide (t.k=1)) (fun x hx=>hI x (by rw[List.take_of_length_le h2];exact hx))]
end Go.Proofs
namespace Go.Proofs
open Go Go.Ev
theorem Q5m{l:List Typ}(hl:l.length≤1099511627776):Ct Tryz.prog 152 [.lst false 3 (l.map eT),.clo (.func 254) [] []] [] (.bool (l.any (fun t=> !decide (t.k=1)))) []:=by
 refine jbS Tryz.func152 9 fun X hX=> ?_
 refine jq [0,1] ?_
 refine Q0 [4] (jt 2 (k:=(jc [] (c:=(by apply Q6b<;>exact Z4)) (a:=Q38) (k:=jr)))) ?_
 refine Q4 (je0 ?_)
 rw[←Qk0]
end Go.Proofs
namespace Go.Proofs
open Go Go.Ev
theorem Q5i:Q6 Tryz.prog 180:=jcb Tryz.func180
theorem Q5h{l:List Typ}(hl:l.length≤1099511627776):Ct Tryz.prog 180 [.lst false 3 (l.map eT)] [] (.bool (Q3g l)) []:=by
 refine jbS Tryz.func180 6 fun X hX=> ?_
 refine jq [0] ?_
 refine Q0 [2] (jt 1 (k:=(jc [] (c:=(by apply Q5m<;>exact Z4)) (a:=Q24) (k:=jr)))) ?_
 refine Q4 (je0 ?_)
 simp only[Q3g,Qi6,Bool.not_not]
end Go.Proofs
namespace Go.Proofs
open Go Go.Ev
theorem Q75:Q6 Tryz.prog 159:=jcb Tryz.func159
theorem Q74{t:Typ}:Ct Tryz.prog 159 [eT t] [] (.bool (Q76 t)) []:=by
 refine jbS Tryz.func159 6 fun X hX=> ?_
 refine jq [1] ?_
 refine Q0 [2] (jt 2 (k:=(jc [] (c:=(by apply Q22<;>exact Z4)) (a:=Q1q) (k:=jr)))) ?_
 refine Q4 (je0 ?_)
 simp[Q76]
end Go.Proofs
namespace Go.Proofs
open Go Go.Ev
theorem Qhz:Q6 Tryz.prog 255:=jcb Tryz.func255
theorem Qhk{t:Typ}:Ct Tryz.prog 255 [eT t] [] (.bool (!Q76 t)) []:=by
 refine jbS Tryz.func255 6 fun X hX=> ?_
 refine jq [1] ?_
 refine Q0 [2] (jt 1 (k:=(jc [] (c:=(by apply Q74<;>exact Z4)) (a:=Q75) (k:=jr)))) ?_
 refine Q4 (je0 ?_)
 simp
end Go.Proofs
namespace Go.Proofs
open Go Go.Ev
theorem Q6a{l:List Typ}(hl:l.length≤1099511627776):Ct Tryz.prog 221 [.lst false 3 (l.map eT),.clo (.func 255) [] []] [] (.int .i64 (fix (fun t=> !Q76 t) l)) []:=by
 refine jbS Tryz.func221 19 fun X hX=> ?_
 refine jq [0,1] ?_
 refine Q5 (jq [0,1,7,8] ?_)
 refine Q9 (Qo (α:=Nat) [0,1,7,8] (fun i=>[(8,.int .i64 i)]) (fun i=>[]) (fun i=>i≤l.length∧ ∀x∈l.take i,(fun t=> !Q76 t) x=false) (fun i=>l.length-i) (0) (fun i=>by simp;rfl) Z3 ?_ ?_)
 ·simp
 rintro i ⟨hi,hI⟩
 refine jq [0,1,7,8,9] ?_
 refine Q5 (jd (fun h2=> ?_) (fun h2=> ?_))
 ·try simp at h2
  refine Q3 (Q5 (Q9 (jq [0,1,5,7,8] ?_)))
  refine Q0 [0,1,5,7,8,16] (js hX 5 Zy (jc [] (c:=(by apply Qhk<;>first|assumption|exact hs _ (List.getElem_mem h2)|omega)) (a:=Qhz) (k:=jf))) ?_
  refine jd (fun h4=> ?_) (fun h4=> ?_)
  ·try simp at h4
   refine jq [4] ?_
   refine Q4 (je Zy ?_)
   rw[Q77 h2 hI (by simpa using h4)]
  ·try simp at h4
   refine Q3 (Qd (jh hX Z6) ?_)
   refine Qp (i+1) [0,1,7,8] Z2a ?_ ?_
   ·exact ⟨by omega,Q97 h2 hI (by simpa using h4)⟩
   ·omega
 ·try simp at h2
  refine Qr (jq [4] ?_)
  refine Q4 (je Zy ?_)
  rw[Q6y (p:=fun t=> !Q76 t) (fun x hx=>hI x (by rw[List.take_of_length_le h2];exact hx))]
end Go.Proofs
namespace Go.Proofs
open Go Go.Ev
theorem Q5l{l:List Typ}(hl:l.length≤1099511627776):Ct Tryz.prog 152 [.lst false 3 (l.map eT),.clo (.func 255) [] []] [] (.bool (l.any (fun t=> !Q76 t))) []:=by
 refine jbS Tryz.func152 9 fun X hX=> ?_
 refine jq [0,1] ?_
 refine Q0 [4] (jt 2 (k:=(jc [] (c:=(by apply Q6a<;>exact Z4)) (a:=Q38) (k:=jr)))) ?_
 refine Q4 (je0 ?_)
 rw[←Qk0]
end Go.Proofs
namespace Go.Proofs
open Go Go.Ev
theorem Qcf:Q6 Tryz.prog 182:=jcb Tryz.func182
theorem Qc9{l:List Typ}(hl:l.length≤1099511627776):Ct Tryz.prog 182 [.lst false 3 (l.map eT)] [] (.bool (Qet l)) []:=by
 refine jbS Tryz.func182 6 fun X hX=> ?_
 refine jq [0] ?_
 refine Q0 [2] (jt 1 (k:=(jc [] (c:=(by apply Q5l<;>exact Z4)) (a:=Q24) (k:=jr)))) ?_
 refine Q4 (je0 ?_)
 simp only[Qet,Qi6,Bool.not_not]
end Go.Proofs
namespace Go.Proofs
open Go Go.Ev
theorem Q6n:Q6 Tryz.prog 149:=jcb Tryz.func149
theorem Q6l{c:Str}:Ct Tryz.prog 149 [.str c] [] (eT ⟨3,c,0⟩) []:=by
 refine jbS Tryz.func149 5 fun X hX=> ?_
 refine jq [0,2] ?_
 refine jq [2] ?_
 refine Q4 (je0 ?_)
 simp
end Go.Proofs
namespace Go.Proofs
open Go Go.Ev
theorem Qja:Q6 Tryz.prog 160:=jcb Tryz.func160
theorem Qj0{l:List Cls}{a b:Str}(hl:l.length≤1048576):Ct Tryz.prog 160 [wv l,.str a,.str b] [] (.bool (isKnown l b&&out (Qu l a) b)) []:=by
 have hcl:=Q8x l a
 refine jbS Tryz.func160 17 fun X hX=> ?_
 refine jq [0,1,2] ?_
 refine Q0 [6] (jt 2 (k:=(jc [] (c:=(by apply Q1x<;>exact Z4)) (a:=Q1y) (k:=(jt 1 (k:=(jm 6 10 [16] (p:=by intro b;(try simp at b);exact (js hX 2 Z1 (Q8.callF rfl Z3 rfl Z1 (by apply Q3j<;>exact Z4) Q3k (by (try simp[-Qc,-Qb]);rfl) (js hX 1 Z1 (Q8.callB rfl Z3 rfl Z1 (by apply Q2i<;>exact Z4) Q2j Z3 Z1 (jh hX Z1)))))) (q:=Z1p) (k:=jr)))))))) ?_
 refine Q4 (je0 ?_)
 simp[out]
end Go.Proofs
namespace Go.Proofs
open Go Go.Ev
theorem Qar:Q6 Tryz.prog 95:=jcb Tryz.func95
theorem Qan{l:List Cls}(hl:l.length≤1048576){a b:Typ}:Ct Tryz.prog 95 [wv l,eT a,eT b] [] (.bool (leI l a b)) []:=by
 refine jbS Tryz.func95 60 fun X hX=> ?_
 refine jq [0,4,5] ?_
 refine Q5 (Q9 (Q0 [0,4,5,7] (jt 4 (k:=(jm 4 11 [0,4,5,15] (p:=Z1p) (q:=Z1p) (k:=jr)))) ?_))
 refine jd (fun h1=> ?_) (fun h1=> ?_)
 ·try simp at h1
  refine jq [6] ?_
  refine Q4 (je0 ?_)
  cases a;cases b;simp only[leI,Q76,objT,Qz] at*
  (try simp_all)<;>grind
 ·try simp at h1
  refine jq [0,4,5,16] ?_
  refine jd (fun h3=> ?_) (fun h3=> ?_)
  ·try simp at h3
   refine Q0 [6] (jt 1 (k:=(jc [] (c:=(by apply Q74<;>exact Z4)) (a:=Q75) (k:=jr)))) ?_
   refine Q4 (je0 ?_)
   cases a;cases b;simp only[leI,Q76,objT,Qz] at*
   (try simp_all)<;>grind
  ·try simp at h3
   refine Q0 [0,4,5,22] (jt 4 (k:=(jm 4 26 [0,4,5,30] (p:=Z1p) (q:=Z1p) (k:=(jt 1 (k:=(jm 9 31 [0,4,5,40] (p:=Z1p) (q:=by intro b;(try simp at b);exact (js hX 4 Z1 (jm 4 35 [0,4,5,31,39] (p:=Z1p) (q:=Z1p) (k:=(jh hX Z1))))) (k:=jr)))))))) ?_
   refine jd (fun h5=> ?_) (fun h5=> ?_)
   ·try simp at h5
    refine Q0 [6] (jt 5 (k:=(jc [] (c:=(by apply Qj0<;>exact Z4)) (a:=Qja) (k:=jr)))) ?_
    refine Q4 (je0 ?_)
    cases a;cases b;simp only[leI,Q76,objT,Qz] at*
    (try simp_all)<;>grind
   ·try simp at h5
    refine Q3 (jD [6] (jS 4 Z8 (jM 4 50 [5,54] (p:=Z2e) (q:=Z2e) (k:=(jS 1 Z8 (jM 4 55 [59] (p:=by intro b;(try simp at b);exact (jS 1 Z1 (jC (c:=by apply Q6l<;>exact Z4) (a:=Q6n) (k:=(jQ Z1))))) (q:=Z2e) (k:=(jQ Z8))))))) ?_)
    refine Q4 (je0 ?_)
    cases a;cases b;simp only[leI,Q76,objT,Qz] at*
    (try simp_all)<;>grind
end Go.Proofs
namespace Go.Proofs
open Go Go.Ev
theorem Qv:Q6 Tryz.prog 256:=jcb Tryz.func256
theorem Qhj{F:SF}{x y z:V}(hl:F.l.length≤1048576){t:Typ}{c:Str}:Ct Tryz.prog 256 [pFl F x y z,eT t,.str c] [] (.bool (leI F.l t (Qy c))) []:=by
 refine jbS Tryz.func256 15 fun X hX=> ?_
 refine jq [0,2,4] ?_
 refine jD [6] (jS 6 Z8 (jC (c:=by apply Q6l<;>exact Z0) (a:=Q6n) (k:=(jC (c:=by apply (Qan (b:=⟨3,c,0⟩))<;>exact Z0) (a:=Qar) (k:=(jQ Z8)))))) ?_
 refine Q4 (je0 ?_)
 simp[Qy]
end Go.Proofs
namespace Go.Proofs
open Go Go.Ev
theorem Q95:Q6 Tryz.prog 295:=jcb Tryz.func295
theorem Q92{s p:Str}:Ct Tryz.prog 295 [.str s,.str p] [] (.bool (decide (p.length≤s.length)&&decide (s.take p.length=p))) []:=by
 refine jbS Tryz.func295 18 fun X hX=> ?_
 refine jq [0,1] ?_
 refine Q0 [4] (jt 6 (k:=(jm 7 10 [17] (p:=fun b1_6=>by (try simp at b1_6);exact (jh hX (by simp[-Qc,-Qb,b1_6];rfl))) (q:=fun b1_6=>by (try simp at b1_6);exact (jh hX (by simp[-Qc,-Qb,b1_6];rfl))) (k:=jr)))) ?_
 refine Q4 (je0 ?_)
 simp
end Go.Proofs
namespace Go.Proofs
open Go Go.Ev
theorem Qhp:Q6 Tryz.prog 232:=jcb Tryz.func232
theorem Qh9{s p:Str}:Ct Tryz.prog 232 [.str s,.str p] [] (.bool (decide (p.length≤s.length)&&decide (s.take p.length=p))) []:=by
 refine jbS Tryz.func232 8 fun X hX=> ?_
 refine jq [0,1] ?_
 refine Q0 [4] (jt 2 (k:=(jc [] (c:=(by apply Q92<;>exact Z4)) (a:=Q95) (k:=jr)))) ?_
 refine Q4 (je0 ?_)
 simp
end Go.Proofs
namespace Go.Proofs
open Go Go.Ev
theorem Qa8:Q6 Tryz.prog 163:=jcb Tryz.func163
theorem Qa6{t:Str}(ht:t.length≤1099511627776):Ct Tryz.prog 163 [.str t] [] (eT (Q3c t)) []:=by
 refine jbS Tryz.func163 25 fun X hX=> ?_
 refine jq [0,2] ?_
 refine Q5 (Q9 (Q0 [0,2,3] (jt 1 (k:=(jc [] (c:=(by apply Q5n<;>exact Z4)) (a:=Q5q) (k:=jr)))) ?_))
 refine jd (fun h1=> ?_) (fun h1=> ?_)
 ·try simp at h1
  refine jq [2] ?_
  refine Q4 (je0 ?_)
  simp[Q3c,h1,zT]
 ·try simp at h1
  refine jq [0,2,8] ?_
  refine jd (fun h3=> ?_) (fun h3=> ?_)
  ·try simp at h3
   refine Q0 [2] (jc [] (c:=(by apply Q4i<;>exact Z4)) (a:=Q4k) (k:=jr)) ?_
   refine Q4 (je0 ?_)
   rw[h3];simp[Q3c,Qyj]
  ·try simp at h3
   refine jq [0,2,12] ?_
   refine jd (fun h5=> ?_) (fun h5=> ?_)
   ·try simp at h5
    refine Q0 [2] (jc [] (c:=(by apply Q4i<;>exact Z4)) (a:=Q4k) (k:=jr)) ?_
    refine Q4 (je0 ?_)
    rw[h5];simp[Q3c,Qyk]
   ·try simp at h5
    refine Q0 [0,2,16] (jt 1 (k:=(jc [] (c:=(by apply Qh9<;>exact Z4)) (a:=Qhp) (k:=jr)))) ?_
    refine jd (fun h7=> ?_) (fun h7=> ?_)
    ·try simp at h7
     refine Q0 [2] (jt 1 (k:=(jc [] (c:=(by apply Q7a<;>exact Z4)) (a:=Q7e) (k:=jr)))) ?_
     refine Q4 (je0 ?_)
     rw[Q3c,if_pos h1,if_neg h3,if_neg h5,if_pos (Q14j.1 h7)];rfl
    ·try simp at h7
     refine Q3 (Q0 [2] (jt 1 (k:=(jc [] (c:=(by apply Q7a<;>exact Z4)) (a:=Q7e) (k:=(jc [] (c:=(by apply Q6l<;>exact Z4)) (a:=Q6n) (k:=jr)))))) ?_)
     refine Q4 (je0 ?_)
     rw[Q3c,if_pos h1,if_neg h3,if_neg h5,if_neg (fun e=>absurd (Q14j.2 e) (fun e2=>h7 e2.1 e2.2))];rfl
end Go.Proofs
namespace Go.Proofs
open Go Go.Ev
theorem Q9t:Q6 Tryz.prog 257:=jcb Tryz.func257
theorem Q9n{F:SF}{x y z:V}(hl:F.l.length≤1048576){t:Typ}{of:Str}(ho:of.length≤1099511627776):Ct Tryz.prog 257 [pFl F x y z,eT t,.str of] [] (.bool (leI F.l t (Q3c of))) []:=by
 refine jbS Tryz.func257 15 fun X hX=> ?_
 refine jq [0,2,4] ?_
 refine jD [6] (jS 6 Z8 (jC (c:=by apply Qa6<;>exact Z0) (a:=Qa8) (k:=(jC (c:=by apply Qan<;>exact Z0) (a:=Qar) (k:=(jQ Z8)))))) ?_
 refine Q4 (je0 ?_)
 simp
end Go.Proofs
namespace Go.Proofs
open Go Go.Ev
theorem Qoi:Q6 Tryz.prog 183:=jcb Tryz.func183
theorem Qnt{F:SF}{x:V}{st lo tk:List Typ}(hl:F.l.length≤1048576)(ht:tk.length≤1000)(hs2:lo.length≤1000)(hd:F.m.desc.length≤1099511627776)(k1: ¬F.i.op=26→0<tk.length):Ct Tryz.prog 183 [pFl F x (.lst false 3 (lo.map eT)) (.lst false 3 (tk.map eT)),eI F.i] [] (.int .i64 (Qfp F lo tk)) []:=by
 have hdl:=Nat.le_trans (Q8v F.m.desc).1 hd
 refine jbS Tryz.func183 86 fun X hX=> ?_
 refine jq [0,3] ?_
 refine Q0 [0,3,5] (jt 5 (k:=(jF (c:=(by apply Q2e<;>exact Z0)) (a:=Q2g) (k:=jr)))) ?_
 refine Q5 (jq [0,5,15] ?_)
 refine Q9 (jq [0,5,15,16] ?_)
 refine jd (fun h3=> ?_) (fun h3=> ?_)
 ·try simp at h3
  have k:=k1 Za
  refine Q0 [4] (js hX 7 (by simp[k];rfl) (jB (c:=Zw) (a:=Qv) (k:=(jc [] (c:=(by apply Q1d<;>exact Z0)) (a:=Q1f) (k:=(jh hX (by simp[k];rfl))))))) ?_
  refine Q4 (je (by simp[k];rfl) ?_)
  first|(simp_all[Qfp,cu,Qm,Qy,Q1i];done)|(simp_all[Qfp,cu,Qm,Qy,Q1i]<;>first|rfl|simp[Q7h])
 ·try simp at h3
  refine jq [0,5,15,27] ?_
  refine jd (fun h5=> ?_) (fun h5=> ?_)
  ·try simp at h5
   refine Q5 (jq [0,30] ?_)
   refine jd (fun h6=> ?_) (fun h6=> ?_)
   ·try simp at h6
    refine jq [4] ?_
    refine Q4 (je0 ?_)
    first|(simp_all[Qfp,cu,Qm,Qy,Q1i];done)|(simp_all[Qfp,cu,Qm,Qy,Q1i]<;>first|rfl|simp[Q7h])
   ·try simp at h6
    refine Q3 ?_
    by_cases hn:F.m.name=[60,105,110,105,116,62]
    all_goals by_cases h0:0<lo.length
    all_goals first|have en:(F.m.name=[60,105,110,105,116,62])=(true=true):=by simp[hn]|have en:(F.m.name=[60,105,110,105,116,62])=(false=true):=by simp[hn]
    all_goals clear hn
    all_goals
     first|(refine jD [4] (jS 1 (by simp[en,h0];rfl) (jC (c:=by apply Q41<;>exact Z0) (a:=Q43) (k:=(jS 26 (by simp[en,h0];rfl) (jC (c:=by apply Q1d<;>exact Z0) (a:=Q1f) (k:=(jQ (by simp[en,h0];rfl)))))))) ?_)|(refine jD [4] (jS 1 (by simp[en,h0];rfl) (jC (c:=by apply Q41<;>exact Z0) (a:=Q43) (k:=(jS 22 (by simp[en,h0];rfl) (jC (c:=by apply Q6l<;>exact Z0) (a:=Q6n) (k:=(jS 3 (by simp[en,h0];rfl) (jC (c:=by apply Q1d<;>exact Z0) (a:=Q1f) (k:=(jQ (by simp[en,h0];rfl))))))))))) ?_)|(refine jD [4] (jS 1 (by simp[en,h0];rfl) (jC (c:=by apply Q41<;>exact Z0) (a:=Q43) (k:=(jS 26 (by simp[en,h0];rfl) (jC (c:=by apply Q1d<;>exact Z0) (a:=Q1f) (k:=(jQ (by simp[en,h0];rfl)))))))) ?_)
     refine Q4 (je (by simp[en,h0];rfl) ?_)
     first|(simp_all[Qfp,cu,Qm,Qy,Q1i];done)|(simp_all[Qfp,cu,Qm,Qy,Q1i]<;>first|rfl|simp[Q7h])
  ·try simp at h5
   refine jq [0,5,60] ?_
   refine jd (fun h9=> ?_) (fun h9=> ?_)
   ·try simp at h9
    have k:=k1 Za
    refine Q5 (Q0 [0,63] (jh hX (by simp[k];rfl)) ?_)
    refine jd (fun h10=> ?_) (fun h10=> ?_)
    ·try simp at h10
     refine Q0 [4] (jh hX (by simp[k];rfl)) ?_
     refine Q4 (je (by simp[k];rfl) ?_)
     first|(simp_all[Qfp,cu,Qm,Qy,Q1i];done)|(simp_all[Qfp,cu,Qm,Qy,Q1i]<;>first|rfl|simp[Q7h])
    ·try simp at h10
     refine Q3 (Q0 [4] (js hX 4 (by simp[k];rfl) (jc [] (c:=(by apply Q5h<;>exact Z0)) (a:=Q5i) (k:=(jc [] (c:=(by apply Q1d<;>exact Z0)) (a:=Q1f) (k:=(jh hX (by simp[k];rfl))))))) ?_)
     refine Q4 (je (by simp[k];rfl) ?_)
     first|(simp_all[Qfp,cu,Qm,Qy,Q1i];done)|(simp_all[Qfp,cu,Qm,Qy,Q1i]<;>first|rfl|simp[Q7h])
   ·try simp at h9
    have k:=k1 Za
    refine Q3 (Q5 (Q0 [0,5,75] (js hX 3 (by simp[k];rfl) (jm 3 72 [0,5,75] (p:=by intro b;(try simp at b);exact (jh hX (by simp[-Qc,-Qb,k];rfl))) (q:=by intro b;(try simp at b);exact (jh hX (by simp[-Qc,-Qb,k];rfl))) (k:=jf))) ?_))
    refine jd (fun h13=> ?_) (fun h13=> ?_)
    ·try simp at h13
     refine Q0 [4] (jh hX (by simp[k];rfl)) ?_
     refine Q4 (je (by simp[k];rfl) ?_)
     first|(simp_all[Qfp,cu,Qm,Qy,Q1i];done)|(simp_all[Qfp,cu,Qm,Qy,Q1i]<;>first|rfl|simp[Q7h])
    ·try simp at h13
     refine Q3 (Q0 [4] (js hX 8 (by simp[k];rfl) (jB (c:=(by apply Q9n<;>exact Z0)) (a:=Q9t) (k:=(jc [] (c:=(by apply Q1d<;>exact Z0)) (a:=Q1f) (k:=(jh hX (by simp[k];rfl))))))) ?_)
     refine Q4 (je (by simp[k];rfl) ?_)
     first|(simp_all[Qfp,cu,Qm,Qy,Q1i];done)|(simp_all[Qfp,cu,Qm,Qy,Q1i]<;>first|rfl|simp[Q7h])
end Go.Proofs
namespace Go.Proofs
open Go Go.Ev
theorem Q8f:Q6 Tryz.prog 302:=jcb Tryz.func302
theorem Q8e{l:List Typ}{t:Typ}(hl:l.length≤1099511627776):Ct Tryz.prog 302 [.lst false 3 (l.map eT),eT t] [] (.int .i64 (fix (fun x=>decide (t=x)) l)) []:=by
 refine jbS Tryz.func302 19 fun X hX=> ?_
 refine jq [0,3] ?_
 refine Q5 (jq [0,3,7,8] ?_)
 refine Q9 (Qo (α:=Nat) [0,3,7,8] (fun i=>[(8,.int .i64 i)]) (fun i=>[]) (fun i=>i≤l.length∧ ∀x∈l.take i,(fun x=>decide (t=x)) x=false) (fun i=>l.length-i) (0) (fun i=>by simp;rfl) Z3 ?_ ?_)
 ·simp
 rintro i ⟨hi,hI⟩
 refine jq [0,3,7,8,9] ?_
 refine Q5 (jd (fun h2=> ?_) (fun h2=> ?_))
 ·try simp at h2
  refine Q3 (Q5 (Q9 (jq [0,3,5,7,8] ?_)))
  refine jL 5 [0,1,2,3,4] [] [0,3,5,7,8,16] ([0]) hX Zy .nil jr ?_
  refine jd (fun h4=> ?_) (fun h4=> ?_)
  ·try simp at h4
   refine jq [4] ?_
   refine Q4 (je Zy ?_)
   rw[Q77 h2 hI (decide_eq_true (Q7h.2 (by simp_all)))]
  ·try simp at h4
   refine Q3 (Qd (jh hX Z6) ?_)
   refine Qp (i+1) [0,3,7,8] Z2a ?_ ?_
   ·exact ⟨by omega,Q97 h2 hI (decide_eq_false (fun e=>by have:=Q7h.1 e;simp_all))⟩
   ·omega
 ·try simp at h2
  refine Qr (jq [4] ?_)
  refine Q4 (je Zy ?_)
  rw[Q6y (p:=fun x=>decide (t=x)) (fun x hx=>hI x (by rw[List.take_of_length_le h2];exact hx))]
end Go.Proofs
namespace Go.Proofs
open Go Go.Ev
theorem Q7l:Q6 Tryz.prog 259:=jcb Tryz.func259
theorem Q7j{l:List Typ}{t:Typ}(hl:l.length≤1099511627776):Ct Tryz.prog 259 [.lst false 3 (l.map eT),eT t] [] (.bool (l.any (fun x=>decide (t=x)))) []:=by
 refine jbS Tryz.func259 9 fun X hX=> ?_
 refine jq [0,3] ?_
 refine Q0 [4] (jt 2 (k:=(jc [] (c:=(by apply Q8e<;>exact Z4)) (a:=Q8f) (k:=jr)))) ?_
 refine Q4 (je0 ?_)
 rw[←Qk0]
end Go.Proofs
namespace Go.Proofs
open Go Go.Ev
theorem Q9s:Q6 Tryz.prog 260:=jcb Tryz.func260
theorem Q9m{F:SF}{st lo tk:List Typ}{a b:Typ}(hs:st.length≤1000)(hs2:lo.length≤1000):Ct Tryz.prog 260 [.ptr 0 0 0,eT a,eT b] [some (20,[oFl F st lo tk])] (.tup []) [some (20,[oFl F (st.map (swT a b)) (lo.map (swT a b)) tk])]:=by
 refine jbS Tryz.func260 42 fun X hX=> ?_
 refine jq [0,4,5] ?_
 refine Q21 (Le.expose 0 0 17 Z24) ?_
 refine Q21 (Le.expose 0 0 18 Z24) ?_
 refine jZ (Q20 [0,1,2,3,4,5,6,7,8,9,12] (.alt 10 (Q20 [11] .tail) .stop)) [4,5,20,21,22] [0] hX (jPp [0,1,2,3,4,5,6,7,8,9,12] _ (by simp;try rfl) (jPa 10 5 (p:=fun X hX=>jr) (k:=(jPp [11] _ (by simp;try rfl) .tail)) (kr:=.stop))) ?_
 refine Q9 (Qo (α:=Nat) [4,5,20,21,22] (fun i=>[(22,.int .i64 (i:Nat))]) (fun i=>[(3,some (3,(if 0<i then st.map (swT a b) else st).map eT)),(4,some (3,(if 1<i then lo.map (swT a b) else lo).map eT))]) (fun i=>i≤2) (fun i=>2-i) (0) (fun i=>by simp;rfl) Z3 ?_ ?_)
 ·simp
 rintro i hi
 have hi3:(i=0∧ ∃xs,xs=st)∨(i=1∧ ∃xs,xs=lo)∨(i=2∧ ∃xs:List Typ,xs=[]):=by
  rcases (by omega:i=0∨i=1∨i=2) with h|h|h
  ·exact .inl ⟨h,_,rfl⟩
  ·exact .inr (.inl ⟨h,_,rfl⟩)
  ·exact .inr (.inr ⟨h,_,rfl⟩)
 rcases hi3 with ⟨rfl,xs,hxs⟩|⟨rfl,xs,hxs⟩|⟨rfl,xs,hxs⟩
 all_goals have hxl:xs.length≤1000:=by rw[hxs];first|assumption|simp
 all_goals first|have hxe:xs.length=st.length:=by rw[hxs]|have hxe:xs.length=lo.length:=by rw[hxs]|have hxe:=trivial
 all_goals first|have hxg: ∀(i:Nat) (h:i<xs.length) (h2:i<st.length),xs[i]=st[i]:=by subst hxs;exact fun _ _ _=>rfl|have hxg: ∀(i:Nat) (h:i<xs.length) (h2:i<lo.length),xs[i]=lo[i]:=by subst hxs;exact fun _ _ _=>rfl|have hxg:=trivial
 all_goals obtain ⟨ws,hws⟩: ∃ws,ws=xs.map (swT a b):=⟨_,rfl⟩
 all_goals have wsl:ws.length=xs.length:=by rw[hws];simp
 all_goals have wsg: ∀i (h:i<xs.length) (h2:i<ws.length),ws[i]=swT a b xs[i]:=by subst hws;simp
 all_goals
  refine jq [4,5,20,21,22,23] ?_
  refine Q5 (jd (fun h2=> ?_) (fun h2=> ?_))
  ·try simp at h2
   all_goals
    refine Q3 (Q5 (Q9 (Q0 [4,5,7,20,21,22] (jh hX Zy) ?_)))
    refine Q0 [4,5,7,20,21,22,26,27,28] (jh hX Zy) ?_
    refine Q9 ?_
    first
    |refine Qo (α:=Nat) [4,5,7,20,21,22,26,27,28] (fun j=>[(28,.int .i64 (j:Nat))]) (fun j=>[(3,some (3,(ws.map eT).take j++(xs.map eT).drop j))]) (fun j=>j≤xs.length) (fun j=>xs.length-j) (0) (fun j=>by simp;rfl) (by first|(simp[hxs];done)|fail) ?_ ?_
    |refine Qo (α:=Nat) [4,5,7,20,21,22,26,27,28] (fun j=>[(28,.int .i64 (j:Nat))]) (fun j=>[(4,some (3,(ws.map eT).take j++(xs.map eT).drop j))]) (fun j=>j≤xs.length) (fun j=>xs.length-j) (0) (fun j=>by simp;rfl) (by first|(simp[hxs];done)|fail) ?_ ?_
    ·simp
    rintro j hj
    refine Q0 [4,5,7,20,21,22,26,27,28,29] (jh hX Zy) ?_
    refine Q5 (jd (fun h5=> ?_) (fun h5=> ?_))
    ·try simp at h5
     have h5x:j<xs.length:=by omega
     rw[List.drop_eq_getElem_cons (show j<(xs.map eT).length by simpa using h5x),List.getElem_map]
     obtain ⟨Z,hZ⟩: ∃Z,Z=(xs.map eT).drop (j+1):=⟨_,rfl⟩
     rw[←hZ]
     obtain ⟨Y,hY⟩: ∃Y,Y=(ws.map eT).take j:=⟨_,rfl⟩
     rw[←hY]
     have h5w:j<ws.length:=by omega
     have hYl:Y.length=j:=by rw[hY,List.length_take,List.length_map];omega
     have hYZ: ∀x,j<(Y++x::Z).length:=fun x=>by simp[hYl]
     have m1:=fun x=>Qxp hYl x Z
     have m2:=fun x y=>Qxo hYl x y Z
     have m3:=fun p x=>Qxn (p:=p) (x:=x) (Y:=Y) (Z:=Z) (by rw[hY,←List.map_take];exact jkL_eT p _) (by rw[hZ,←List.map_drop];exact jkL_eT p _)
     have hnext:(ws.map eT).take (j+1)++(xs.map eT).drop (j+1)=Y++eT ws[j]::Z:=by
      rw[List.take_succ_eq_append_getElem (by simpa using h5w),List.getElem_map,←hZ,←hY]
      simp
     refine Q3 (Q5 (Q9 (Q0 [4,5,7,8,9,20,21,22,26,27,28] (jh hX (by simp[h2,h5,m1,m2,hYl,hYZ,h5x];rfl)) ?_)))
     refine Q0 [4,5,7,8,20,21,22,26,27,28,35] (jh hX (by simp[h2,h5,m1,m2,hYl,hYZ,h5x];rfl)) ?_
     refine jd (fun h7=> ?_) (fun h7=> ?_)
     ·try simp at h7
      have hv:ws[j]=b:=by
       rw[wsg j h5x h5w]
       have e:xs[j]=a:=by
        exact Q7h.2 h7
       rw[e,swT,if_pos rfl]
      refine Qd (jh hX (by simp[h2,h5,m1,m2,hYl,hYZ,h5x,hv];rfl)) ?_
      refine Qd (jh hX (by simp[h2,h5,m1,m2,hYl,hYZ,h5x,hv];(try (simp (disch:=omega) only[Q7];(try simp[h2,h5,m1,m2,hYl,hYZ,h5x,hv])));rfl)) ?_
      refine Q13 (j+1) [4,5,7,20,21,22,26,27,28] 6 (by simp[hX]) Z3 (by simp[hnext,hv,m1,m2,m3];try (simp (disch:=omega) only[Q7])) ?_ ?_
      ·omega
      ·omega
     ·try simp at h7
      have hv:ws[j]=xs[j]:=by
       rw[wsg j h5x h5w]
       have e: ¬xs[j]=a:=fun e=>by have:=Q7h.1 e;exact absurd this.2.2 (h7 this.1 this.2.1)
       rw[swT,if_neg e]
      refine Q3 (Qd (jh hX (by simp[h2,h5,m1,m2,hYl,hYZ,h5x,hv];(try (simp (disch:=omega) only[Q7];(try simp[h2,h5,m1,m2,hYl,hYZ,h5x,hv])));rfl)) ?_)
      refine Q13 (j+1) [4,5,7,20,21,22,26,27,28] 6 (by simp[hX]) Z3 (by simp[hnext,hv,m1,m2,m3];try (simp (disch:=omega) only[Q7])) ?_ ?_
      ·omega
      ·omega
    ·try simp at h5
     obtain rfl:j=xs.length:=by omega
     rw[List.take_of_length_le (show (ws.map eT).length≤xs.length by rw[List.length_map];omega),List.drop_eq_nil_of_le Z3,List.append_nil]
     refine Qr (Qd (jh hX (by simp[h2,h5];(try (simp (disch:=omega) only[Q7];(try simp[h2,h5])));rfl)) ?_)
     first
     |(refine Q13 (1) [4,5,20,21,22] 6 (by simp[hX]) Z3 (by first|(simp[hws,hxs];(try (simp (disch:=omega) only[Q7]));done)|fail) ?_ ?_<;>omega)
     |(refine Q13 (2) [4,5,20,21,22] 6 (by simp[hX]) Z3 (by first|(simp[hws,hxs];(try (simp (disch:=omega) only[Q7]));done)|fail) ?_ ?_<;>omega)
  ·try simp at h2
   all_goals
    refine Q21 (Le.absorb 0 0 17 Z8) ?_
    refine Q21 (Le.absorb 0 0 18 Z8) ?_
    refine Qr (Ql Zy Z17 (.of_eq ?_) ?_)
    all_goals clear hX
    ·skip
     rfl
    ·skip
     simp
end Go.Proofs
namespace Go.Proofs
open Go Go.Ev
theorem Qkv:Q6 Tryz.prog 184:=jcb Tryz.func184
theorem Qkc{F:SF}{st lo tk:List Typ}(hs:st.length≤1000)(hs2:lo.length≤1000)(ht:tk.length≤1000)(hl:F.l.length≤1048576)(hc:F.i.cls.length≤1099511627776):Ct Tryz.prog 184 [.ptr 0 0 0,eI F.i] [some (20,[oFl F st lo tk])] (.int .i64 (Qll F st lo).k) [some (20,[oFl F ((Qll F st lo).st) ((Qll F st lo).lo) tk])]:=by
 refine jbS Tryz.func184 53 fun X hX=> ?_
 refine jq [0,3] ?_
 refine jT 12 (Q20 [0,1,2,3,4,5] (.alt 6 (Q20 [7,8,9] (.alt 10 (.alt 11 .tail .stop) .stop)) (.alt 10 (.alt 6 (Q20 [7,8,9] (.alt 11 .tail .stop)) .stop) .stop))) [0,3,5] [0,1] hX (jTp [0,1,2,3,4,5] _ (by simp;try rfl) (jTa 6 (p:=fun X hX=>(jF (c:=(by apply Q2a<;>exact Z0)) (a:=Q2b) (k:=jf))) (k:=(jTp [7,8,9] _ (by simp;try rfl) (jTa 10 (p:=fun X hX=>jr) (k:=(jTa 11 (p:=fun X hX=>jr) (k:=.tail) (kr:=.stop))) (kr:=.stop)))) (kr:=(jTa 10 (p:=fun X hX=>jr) (k:=(jTa 6 (p:=fun X hX=>(jF (c:=(by apply Q2a<;>exact Z0)) (a:=Q2b) (k:=jf))) (k:=(jTp [7,8,9] _ (by simp;try rfl) (jTa 11 (p:=fun X hX=>jr) (k:=.tail) (kr:=.stop)))) (kr:=.stop))) (kr:=.stop))))) jr ?_
 refine jL 8 [0,1,2,3,4,5,6] [7] [0,3,5,7] ([0,1]) hX Z8 (jH (p:=fun X hX=>jr) (k:=.nil)) jr ?_
 refine Q5 (Q9 (jL 6 [0,1,2,3,4,5] [] [0,5,7,25] ([0,1]) hX Z8 .nil (jc [] (c:=(by apply Q1x<;>exact Z0)) (a:=Q1y) (k:=jr)) ?_))
 refine jd (fun h3=> ?_) (fun h3=> ?_)
 ·try simp at h3
  refine jq [4] ?_
  refine Q4 (Qq Z8 Z17 (.of_eq ?_) ?_)
  all_goals clear hX
  ·skip
   simp_all[Qll,Qb8]
  ·skip
   simp_all[Qll,Qb8]
 ·try simp at h3
  refine jq [0,7,34] ?_
  refine jd (fun h5=> ?_) (fun h5=> ?_)
  ·try simp at h5
   refine jq [4] ?_
   refine Q4 (Qq Z8 Z17 (.of_eq ?_) ?_)
   all_goals clear hX
   ·skip
    simp_all[Qll,Qb8]
   ·skip
    simp_all[Qll,Qb8]
  ·try simp at h5
   refine Q21 (Le.expose 0 0 17 Z24) ?_
   refine jL 6 [0,1,2,3,4,5] [] [0,7,37] ([0,1,2,3]) hX Z8 .nil (jB (c:=(by apply (Q7j (t:=Qb8 F))<;>exact Z0)) (a:=Q7l) (k:=jr)) ?_
   refine jd (fun h7=> ?_) (fun h7=> ?_)
   ·try simp at h7
    refine Q21 (Le.absorb 0 0 17 Z8) ?_
    refine jq [4] ?_
    refine Q4 (Qq Z8 Z17 (.of_eq ?_) ?_)
    all_goals clear hX
    ·skip
     rw[Qll,if_pos h3,if_neg (by simp[h5]),if_pos (List.any_eq_true.2 ⟨_,h7,decide_eq_true rfl⟩)]
    ·skip
     rw[Qll,if_pos h3,if_neg (by simp[h5]),if_pos (List.any_eq_true.2 ⟨_,h7,decide_eq_true rfl⟩)]
     simp
   ·try simp at h7
    refine Q21 (Le.absorb 0 0 17 Z8) ?_
    refine Q3 (Q0 [0,7] (jt 3 (k:=(jc [0] (c:=(by apply (Q9m (a:=Qb8 F) (b:=zT))<;>exact Z0)) (a:=Q9s) (k:=jf)))) ?_)
    refine Q0 [4] (jt 2 (k:=(jFz (k:=(jc [0] (c:=(by simp only[←List.map_map];apply Q1p (ys:=[Qb8 F])<;>exact Z0)) (a:=Q1h) (k:=jr)))))) ?_
    refine Q4 (Qq Z8 Z17 (.of_eq ?_) ?_)
    all_goals clear hX
    ·skip
     rw[Qll,if_pos h3,if_neg (by simp[h5]),if_neg (fun e=>by obtain ⟨x,hx,e2⟩:=List.any_eq_true.1 e;exact h7 x hx (of_decide_eq_true e2))]
    ·skip
     rw[Qll,if_pos h3,if_neg (by simp[h5]),if_neg (fun e=>by obtain ⟨x,hx,e2⟩:=List.any_eq_true.1 e;exact h7 x hx (of_decide_eq_true e2))]
     simp[Qb8]
end Go.Proofs
namespace Go.Proofs
open Go Go.Ev
theorem Qjr:Q6 Tryz.prog 321:=jcb Tryz.func321
theorem Qjq{b:Bool}:Ct Tryz.prog 321 [.lst false 1 [.bool b]] [] (.int .i64 (b.toNat:Int)) []:=by
 refine jbS Tryz.func321 20 fun X hX=> ?_
 refine jq [0] ?_
 refine jq [0,3] ?_
 refine Q5 (jq [3,6,7,8] ?_)
 refine Q9 (Qo (α:=Nat) [3,6,7,8] (fun i=>[(3,.int .i64 (if i=0 then 0 else (b.toNat:Int))),(8,.int .i64 i)]) (fun i=>[]) (fun i=>i≤1) (fun i=>1-i) (0) (fun i=>by simp;rfl) Z3 ?_ ?_)
 ·simp
 rintro i hI
 refine jq [3,6,7,8,9] ?_
 refine Q5 (jd (fun h3=> ?_) (fun h3=> ?_))
 ·try simp at h3
  obtain rfl:i=0:=by omega
  refine Q3 (Q5 (Q9 (Q0 [3,4,5,6,7,8] (jh hX (by simp[h3];rfl)) ?_)))
  refine Q0 [3,4,6,7,8,13] (jh hX (by simp[h3];rfl)) ?_
  refine jd (fun h5=> ?_) (fun h5=> ?_)
  ·try simp at h5
   refine Qd (jh hX (by simp[h3];rfl)) ?_
   refine Qd (jh hX (by simp[h3];(try (simp (disch:=omega) only[Q7];(try simp[h3])));rfl)) ?_
   refine Qp (1) [3,6,7,8] (by simp[h5];try rfl) ?_ ?_
   ·exact Nat.le_refl _
   ·omega
  ·try simp at h5
   refine Q3 (Qd (jh hX (by simp[h3];(try (simp (disch:=omega) only[Q7];(try simp[h3])));rfl)) ?_)
   refine Qp (1) [3,6,7,8] (by simp[h5];try rfl) ?_ ?_
   ·exact Nat.le_refl _
   ·omega
 ·try simp at h3
  obtain rfl:i=1:=by omega
  refine Qr (Q0 [2] (jh hX (by simp[h3];rfl)) ?_)
  refine Q4 (je (by simp[h3];rfl) ?_)
  simp_all
end Go.Proofs
namespace Go.Proofs
open Go Go.Ev
theorem Qec:Q6 Tryz.prog 322:=jcb Tryz.func322
theorem Qe4{l:List Fld}:Ct Tryz.prog 322 [.lst false 3 (l.map eF)] [] (.int .i64 l.length) []:=by
 refine jbS Tryz.func322 5 fun X hX=> ?_
 refine jq [0] ?_
 refine jq [2] ?_
 refine Q4 (je0 ?_)
 simp
end Go.Proofs
namespace Go.Proofs
open Go Go.Ev
theorem Qfa:Q6 Tryz.prog 323:=jcb Tryz.func323
theorem Qf4{l:List Cls}(hl:l.length≤1000)(hs:Q1r l≤1048576){n:Str}:Ct Tryz.prog 323 [wv l,.str n] [] (.lst true 3 ((Q9g l n).map eF)) []:=by
 have hcl:=Q8x l n
 refine Q10q tok Tryz.func323 rfl 41 (by kernel_rfl) (by kernel_rfl) fun X hX=> ?_
 refine Qx6 [1,2,18] jr ?_
 refine Qx6 [1,2,5,18] jr ?_
 refine Q12z (q:=7) (xs:=Qu l n) (fo:=fun k=>[some (1,[wv l]),none,some (1,[.arr 3 0 (Qfm l (Qu l n) k).length]),some (3,(Qfm l (Qu l n) k).map eF)]) 3 tok (jt 2 (k:=(jF (c:=(by apply Q3j<;>exact Z20)) (a:=Q3k) (k:=(jF (c:=(by apply Q9k<;>exact Z20)) (a:=Q9r) (k:=jf)))))) (Le.trans (Le.keep [2,5,16,18] _) (Le.trans (Le.absorb 2 0 0 Z8) (Le.trans (Le.expose 2 0 0 Z24) (Le.of_eq (by simp[Qfm];rfl))))) (enters_of Tryz.func334 (by kernel_rfl) rfl) Q13x (by first|(simp;done)|(simp;rfl)|rfl) Za ?ha Z17 (by intro k;first|(simp;done)|exact Nat.le_of_ble_eq_true rfl) (by simp[hX]) ?body Z8 ?done
 case ha=>
  intro r W a0 K hK
  exact Q10k hK Z17 Z17 Z17
 case body=>
  intro r k hk X hX
  refine Q12y (Le.trans (Le.of_eq (by simp[tmR];rfl)) .refl) ?_
  obtain ⟨c,hcd⟩: ∃c,c=Q1u l ((Qu l n)[(Qu l n).length-1-k]):=⟨_,rfl⟩
  have hfl:=Qro (l:=l) (ch:=Qu l n) k
  have hkl:k*Q1r l≤1008*1048576:=Nat.mul_le_mul Za hs
  have hcs:Q1n c≤Q1r l:=by rw[hcd];exact Qf6
  have hcf:c.fields.length≤1048576:=by simp only[Q1n] at hcs;omega
  refine Qsm (Qi7 [5,8] (jt 2 (k:=(jF (c:=(by apply Q2a<;>exact Z20)) (a:=Q2b) (k:=jr)))) ?_)
  rw[←hcd]
  refine Qi7 [5,26,27,28] jr ?_
  refine Qsm (Q12w (α:=List Fld×Nat) [5,26,27,28] (fun p=>[(28,.int .i64 p.2)]) (fun p=>[(2,some (1,[.arr 3 0 p.1.length])),(3,some (3,p.1.map eF))]) (fun p=>p.2≤c.fields.length∧p.1=Qfm l (Qu l n) k++(c.fields.take p.2).filter (fun f=> !f.static)) (fun p=>c.fields.length-p.2) ((Qfm l (Qu l n) k,0)) (fun p=>by simp;rfl) Z3 ?_ ?_)
  ·simp
  rintro ⟨o,i⟩ ⟨hi,hI⟩
  simp only at hi hI
  have ho:o.length≤1100000000:=by
   rw[hI,List.length_append]
   have h1:=List.length_filter_le (fun f:Fld=> !f.static) (c.fields.take i)
   rw[List.length_take] at h1
   omega
  have w1:(o.length+1)*40≤140737488355328:=by omega
  have w2:o.length≤1099511627775:=by omega
  refine Qi7 [5,26,27,28,29] (jh hX (by simp[w1,w2];rfl)) ?_
  refine Qy9 (Qx5 (fun h6=> ?_) (fun h6=> ?_))
  ·try simp at h6
   refine Qzf (Qy9 (Qsm (Qi7 [5,11,26,27,28] (jh hX (by simp[w1,w2,h6];rfl)) ?_)))
   refine Qi7 [5,11,26,27,28,34] (jh hX (by simp[w1,w2,h6];rfl)) ?_
   refine Qx5 (fun h8=> ?_) (fun h8=> ?_)
   ·try simp at h8
    refine Qvm (jh hX (by simp[w1,w2,h6];rfl)) ?_
    refine Qvm (jh hX (by simp[w1,w2,h6];(try (simp (disch:=omega) only[Q7];(try simp[w1,w2,h6])));rfl)) ?_
    refine Q13 (if c.fields[i].static=true then (o,i+1) else (o++[c.fields[i]],i+1)) [5,26,27,28] 5 (by simp[hX]) Z3 (by simp[h6,h8];try (simp (disch:=omega) only[Q7])) ?_ ?_
    ·(simp only[h8,Bool.false_eq_true,if_false,if_true];refine ⟨by omega,?_⟩;rw[Qdy h6,h8,hI];simp)
    ·(simp only[h8,Bool.false_eq_true,if_false,if_true];omega)
   ·try simp at h8
    refine Qzf (Qvm (jh hX (by simp[w1,w2,h6];(try (simp (disch:=omega) only[Q7];(try simp[w1,w2,h6])));rfl)) ?_)
    refine Q13 (if c.fields[i].static=true then (o,i+1) else (o++[c.fields[i]],i+1)) [5,26,27,28] 5 (by simp[hX]) Z3 (by simp[h6,h8];try (simp (disch:=omega) only[Q7])) ?_ ?_
    ·(simp only[h8,Bool.false_eq_true,if_false,if_true];refine ⟨by omega,?_⟩;rw[Qdy h6,h8,hI];simp)
    ·(simp only[h8,Bool.false_eq_true,if_false,if_true];omega)
  ·try simp at h6
   refine Q14d ?_
   simp only[Ql7,Qsi,if_true]
   have hil:i=c.fields.length:=by omega
   subst hil
   rw[List.take_of_length_le (Nat.le_refl _)] at hI
   have hg:(Qu l n).getD ((Qu l n).length-1-k) []=(Qu l n)[(Qu l n).length-1-k]:=by rw[List.getD_eq_getElem?_getD,List.getElem?_eq_getElem Za];rfl
   have hfk:Qfm l (Qu l n) (k+1)=o:=by rw[Qfm,hg,←hcd,hI];rfl
   refine ⟨trivial,_,Le.trim 4 (by simp[hX]) _ Z3,?_⟩
   simp[hfk]
 case done=>
  refine je Z8 ?_
  simp[Q9g]
end Go.Proofs
namespace Go.Proofs
open Go Go.Ev
theorem Qg7:Q6 Tryz.prog 303:=jcb Tryz.func303
theorem Qfw{l:List Cls}(hl:l.length≤1000)(hs:Q1r l≤1048576)(hw:Qx l=true){k i:Nat}(hk:k<l.length)(hi:i<l[k].fields.length):Ct Tryz.prog 303 [wv l,.str l[k].name,eF l[k].fields[i]] [] (.int .i64 (fpl l k i)) []:=by
 have hsz: ∀{k:Nat} (h:k<l.length),l[k].fields.length≤1048576:=fun h=>by
  have:=Nat.le_trans (Q4v h) hs
  simp only[Q1n] at this;omega
 have hik:=hsz hk
 have hcl:=Qe7 (Q1s hw) hk
 rw[Q2c hk] at hcl
 have hfl:=Qrn (n:=l[k].super) hw
 refine jbS Tryz.func303 82 fun X hX=> ?_
 refine Q0 [0,1,5] (jh hX (by simp[hk,hi,hcl];rfl)) ?_
 refine Q0 [0,1,5,7] (jh hX (by simp[hk,hi,hcl];rfl)) ?_
 refine Q5 (Q0 [0,1,5,7,17] (jh hX (by simp[hk,hi,hcl];rfl)) ?_)
 refine jd (fun h2=> ?_) (fun h2=> ?_)
 ·try simp at h2
  refine Q0 [0,1,5,7,21,22,23] (jh hX (by simp[hk,hi,hcl];rfl)) ?_
  refine Q9 (Qo (α:=Nat×Nat) [0,1,5,7,21,22,23] (fun p=>[(7,.int .i64 p.1),(23,.int .i64 p.2)]) (fun p=>[]) (fun p=>p.2≤k∧p.1=Q7w (l.take p.2)) (fun p=>l.length-p.2) ((0,0)) (fun p=>by simp;rfl) Z3 ?_ ?_)
  ·simp[Q7w]
  rintro ⟨q,c⟩ ⟨hc,hI⟩
  simp only at hc hI
  refine Q0 [0,1,5,7,21,22,23,24] (jh hX (by simp[hk,hi,hcl];rfl)) ?_
  refine Q5 (jd (fun h4=> ?_) (fun h4=> ?_))
  ·try simp at h4
   refine Q3 (Q5 (Q9 (Q0 [0,1,5,7,9,21,22,23] (jh hX (by simp[hk,hi,h4,hcl];rfl)) ?_)))
   refine Q0 [0,1,5,7,9,21,22,23,28,29,30] (jh hX (by simp[hk,hi,h4,hcl];rfl)) ?_
   refine Q9 (Qo (α:=Nat×Nat) [0,1,5,7,9,21,22,23,28,29,30] (fun p=>[(7,.int .i64 p.1),(30,.int .i64 p.2)]) (fun p=>[]) (fun p=>p.2≤l[c].fields.length∧(c=k→p.2≤i)∧p.1=Q7w (l.take c)+Q7v (l[c].fields.take p.2)) (fun p=>l[c].fields.length-p.2) ((q,0)) (fun p=>by simp;rfl) Z3 ?_ ?_)
   ·exact ⟨by simp,by simp,by simp[Q7v,hI]⟩
   rintro ⟨q2,j⟩ ⟨hj,hjk,hJ⟩
   simp only at hj hjk hJ
   have hB1:=Qjh l c
   have hB2:=Qvt l
   have hB3:=Qd9 l[c].fields j
   have hB4:=Qql l[c].fields
   have hcf:=hsz h4
   refine Q0 [0,1,5,7,9,21,22,23,28,29,30,31] (jh hX (by simp[hk,hi,h4,hcl];rfl)) ?_
   refine Q5 (jd (fun h7=> ?_) (fun h7=> ?_))
   ·try simp at h7
    refine Q3 (Q5 (Q9 (Q0 [0,1,5,7,9,11,21,22,23,28,29,30] (jh hX (by simp[hk,hi,h4,h7,hcl];rfl)) ?_)))
    refine Q5 (Q0 [0,1,5,7,9,11,21,22,23,28,29,30,42] (js hX 5 (by simp[hk,hi,h4,h7,hcl];rfl) (jm 4 38 [0,1,5,7,9,11,21,22,23,28,29,30,42] (p:=by intro b;(try simp at b);exact (jh hX (by simp[-Qc,-Qb,hk,hi,h4,h7,hcl];rfl))) (q:=by intro b;(try simp at b);exact (jh hX (by simp[-Qc,-Qb,hk,hi,h4,h7,hcl];rfl))) (k:=jf))) ?_)
    refine jd (fun h9=> ?_) (fun h9=> ?_)
    ·try simp at h9
     refine Q0 [6] (jh hX (by simp[hk,hi,h4,h7,hcl];rfl)) ?_
     refine Q4 (je (by simp[hk,hi,h4,h7,hcl];rfl) ?_)
     obtain ⟨e1,e2,e3,e4⟩:l[c].name=l[k].name∧l[c].fields[j].name=l[k].fields[i].name∧l[c].fields[j].type=l[k].fields[i].type∧l[c].fields[j].static=l[k].fields[i].static:=by simpa using h9
     obtain rfl:=Qgj hw h4 hk e1
     obtain rfl:=Qyc hw hk h7 hi e2
     rw[Qwl hk hi h2,hJ]
    ·try simp at h9
     have hne:c=k→j≠i:=fun e e2=>by subst e;subst e2;simp at h9
     refine Q3 (Qd (js hX 4 (by simp[hk,hi,h4,h7,hcl];rfl) (Q8.callB rfl Z3 rfl (by simp[hcl];rfl) (by apply Qjq<;>exact Z20) Qjr Z3 (by simp[hcl];rfl) (jh hX (by simp[hk,hi,h4,h7,hcl];(try (simp (disch:=omega) only[Q7];(try simp[hk,hi,h4,h7,hcl])));rfl)))) ?_)
     refine Qd (jh hX (by simp[hk,hi,h4,h7,hcl];(try (simp (disch:=omega) only[Q7];(try simp[hk,hi,h4,h7,hcl])));rfl)) ?_
     refine Q13 ((q2+l[c].fields[j].static.toNat,j+1)) [0,1,5,7,9,21,22,23,28,29,30] 2 (by simp[hX]) Z3 (by simp[h7];try (simp (disch:=omega) only[Q14g,Q7])) ?_ ?_
     ·exact ⟨by simp only;omega,fun e=>by have:=hjk e;have:=hne e;simp only;omega,by simp only;rw[Qgm h7,hJ];omega⟩
     ·simp only;omega
   ·try simp at h7
    have hil:j=l[c].fields.length:=by omega
    subst hil
    rw[List.take_of_length_le (Nat.le_refl _)] at hJ
    have hck:c≠k:=fun e=>by subst e;have:=hjk rfl;omega
    refine Qr (Qd (jh hX (by simp[hk,hi,h4,h7,hcl];(try (simp (disch:=omega) only[Q7];(try simp[hk,hi,h4,h7,hcl])));rfl)) ?_)
    refine Q13 ((q2,c+1)) [0,1,5,7,21,22,23] 1 (by simp[hX]) Z3 (by simp[hk,hi,h4,h7];try (simp (disch:=omega) only[Q7])) ?_ ?_
    ·exact ⟨by simp only;omega,by simp only;rw[hJ,Qqm h4]⟩
    ·simp only;omega
  ·try simp at h4
   exfalso;omega
 ·try simp at h2
  refine Q3 (Q0 [0,5,12] (js hX 2 (by simp[hk,hi,hcl];rfl) (Q8.callF rfl Z3 rfl (by simp[hcl];rfl) (by apply Q2a<;>exact Z20) Q2b (by (try simp[hcl]);rfl) (jh hX (by simp[hk,hi,hcl];rfl)))) ?_)
  refine Q0 [5,7,12] (js hX 3 (by simp[hk,hi,hcl];rfl) (Q8.callF rfl Z3 rfl (by simp[hcl];rfl) (by apply Qf4<;>exact Z20) Qfa (by (try simp[hcl]);rfl) (Q8.call [] rfl Z3 rfl (by simp[hcl];rfl) Z8 (by apply Qe4<;>exact Z20) Qec Z3 Z3 (by simp[hcl];rfl) (jh hX (by simp[hk,hi,hcl];rfl))))) ?_
  refine Q5 (Q0 [5,7,64,65,66] (jh hX (by simp[hk,hi,hcl];rfl)) ?_)
  refine Q9 (Qo (α:=Nat×Nat) [5,7,64,65,66] (fun p=>[(7,.int .i64 p.1),(66,.int .i64 p.2)]) (fun p=>[]) (fun p=>p.2≤i∧p.1=(Q9g l l[k].super).length+Qsu (l[k].fields.take p.2)) (fun p=>i-p.2) (((Q9g l l[k].super).length,0)) (fun p=>by simp;rfl) Z3 ?_ ?_)
  ·exact ⟨by simp,by simp[Qsu]⟩
  rintro ⟨q,j⟩ ⟨hj,hJ⟩
  simp only at hj hJ
  have hB1:=Qyr (l[k].fields.take j)
  rw[List.length_take] at hB1
  refine Q0 [5,7,64,65,66,67] (jh hX (by simp[hk,hi,hcl];rfl)) ?_
  refine Q5 (jd (fun h17=> ?_) (fun h17=> ?_))
  ·try simp at h17
   refine Q3 (Q5 (Q9 (Q0 [5,7,15,64,65,66] (jh hX (by simp[hk,hi,h17,hcl];rfl)) ?_)))
   refine Q5 (Q0 [5,7,15,64,65,66,72] (jh hX (by simp[hk,hi,h17,hcl];rfl)) ?_)
   refine jd (fun h19=> ?_) (fun h19=> ?_)
   ·try simp at h19
    obtain ⟨e2,e3,e4⟩:l[k].fields[j].name=l[k].fields[i].name∧l[k].fields[j].type=l[k].fields[i].type∧l[k].fields[j].static=l[k].fields[i].static:=by simpa using h19
    obtain rfl:=Qyc hw hk h17 hi e2
    refine Qr (Q0 [6] (jh hX (by simp[hk,hi,h17,hcl];rfl)) ?_)
    refine Q4 (je (by simp[hk,hi,h17,hcl];rfl) ?_)
    rw[Qyy hk hi (by simp[h2]),hJ]
   ·try simp at h19
    have hne:j≠i:=fun e2=>by subst e2;simp at h19
    refine Q3 (Qd (js hX 5 (by simp[hk,hi,h17,hcl];rfl) (Q8.callB rfl Z3 rfl (by simp[hcl];rfl) (by apply Qjq<;>exact Z20) Qjr Z3 (by simp[hcl];rfl) (jh hX (by simp[hk,hi,h17,hcl];(try (simp (disch:=omega) only[Q7];(try simp[hk,hi,h17,hcl])));rfl)))) ?_)
    refine Qd (jh hX (by simp[hk,hi,h17,hcl];(try (simp (disch:=omega) only[Q7];(try simp[hk,hi,h17,hcl])));rfl)) ?_
    refine Q13 ((q+(!l[k].fields[j].static).toNat,j+1)) [5,7,64,65,66] 2 (by simp[hX]) Z3 (by simp[h17];try (simp (disch:=omega) only[Q14g,Q7])) ?_ ?_
    ·exact ⟨by simp only;omega,by simp only;rw[Qn3 h17,hJ];omega⟩
    ·simp only;omega
  ·try simp at h17
   exfalso;omega
end Go.Proofs
namespace Go.Proofs
open Go Go.Ev
theorem Q3y:Q6 Tryz.prog 261:=jcb Tryz.func261
theorem Q3x{l:List Cls}(hl:l.length≤1000)(hs:Q1r l≤1048576)(hw:Qx l=true){c n t:Str}:Ct Tryz.prog 261 [wv l,.str c,.str n,.str t] [] (.tup [eFd (ffL l n t (Qu l c)).1,eF (ffL l n t (Qu l c)).2]) []:=by
 have hcl:=Q8x l c
 have hsz: ∀x,(Q1u l x).fields.length≤1048576:=fun x=>by
  have:=Nat.le_trans (Qf6 (l:=l) (n:=x)) hs
  simp only[Q1n] at this;omega
 refine jbS Tryz.func261 62 fun X hX=> ?_
 refine jq [0,1,2,3,8,9] ?_
 refine Q5 (Q0 [0,2,3,8,9,17,18,19] (jt 2 (k:=(jF (c:=(by apply Q3j<;>first|assumption|omega|exact Nat.le_trans (hsz _) Za)) (a:=Q3k) (k:=jr)))) ?_)
 refine Q9 (Qo (α:=Nat) [0,2,3,8,9,17,18,19] (fun i=>[(19,.int .i64 i)]) (fun i=>[]) (fun i=>i≤(Qu l c).length∧ffL l n t ((Qu l c).drop i)=ffL l n t (Qu l c)) (fun i=>(Qu l c).length-i) (0) (fun i=>by simp;rfl) Z3 ?_ ?_)
 ·simp
 rintro i ⟨hi,hI⟩
 refine jq [0,2,3,8,9,17,18,19,20] ?_
 refine Q5 (jd (fun h2=> ?_) (fun h2=> ?_))
 ·try simp at h2
  rw[List.drop_eq_getElem_cons h2] at hI
  simp only[ffL] at hI
  refine Q3 (Q5 (Q9 (Q0 [0,2,3,8,9,11,17,18,19] (jh hX Zy) ?_)))
  refine Q0 [0,2,3,8,9,11,12,17,18,19] (jt 2 (k:=(jF (c:=(by apply Q2a<;>first|assumption|omega|exact Nat.le_trans (hsz _) Za)) (a:=Q2b) (k:=(jh hX Zy))))) ?_
  refine Q0 [0,2,3,8,9,11,12,14,17,18,19] (js hX 2 Zy (jc [] (c:=(by apply Q9y<;>first|assumption|omega|exact Nat.le_trans (hsz _) Za)) (a:=Q9z) (k:=jr))) ?_
  refine Q0 [0,2,3,8,9,11,12,14,17,18,19,43] (jt 3 (k:=(jm 9 34 [0,2,3,8,9,11,12,14,17,18,19,43] (p:=fun b6_3=>by (try simp at b6_3);(have hlt:=(Qrp (p:=fun f:Fld=>decide (f.name=n)) (l:=(Q1u l (Qu l c)[i]).fields)).2);exact (jh hX (by simp[-Qc,-Qb,h2,b6_3,hlt];rfl))) (q:=fun b6_3=>by (try simp at b6_3);exact (jh hX Z1)) (k:=jf)))) ?_
  refine jd (fun h6=> ?_) (fun h6=> ?_)
  ·try simp at h6
   have hx:=(Qz1 (Qx8 hw (Qu l c)[i]) n t).1 (by simpa using h6)
   rw[if_pos hx] at hI
   obtain ⟨k,hk,j,hj,e1,e2,e3,e4,e5⟩:=Q126 hw hx
   rw[e5,e4,e2] at hI
   simp only[Int.toNat_natCast,Qb hj] at hI
   rw[e3,e2,←e1]
   refine jL 16 [0,1,2,3,4,5,6,7,10,11,12,13,14] [8,9,15] [8,9] ([2]) hX (by simp[h2,h6,hk,hj];rfl) (jH (p:=fun X hX=>(jc [] (c:=(by apply Qfw<;>first|assumption|omega|exact Nat.le_trans (hsz _) Za)) (a:=Qg7) (k:=jf))) (k:=(jH (p:=fun X hX=>jr) (k:=(jH (p:=fun X hX=>(jh hX (by simp[h2,h6,hk,hj];rfl))) (k:=.nil)))))) (jh hX (by simp[h2,h6,hk,hj];rfl)) ?_
   refine Q4 (je (by simp[h2,h6,hk,hj];rfl) ?_)
   rw[←hI,←e1];rfl
  ·try simp at h6
   have hx: ¬0≤fix (ndt n t) (Q1u l (Qu l c)[i]).fields:=fun hx=>by
    obtain ⟨y1,y2⟩:=(Qz1 (Qx8 hw (Qu l c)[i]) n t).2 hx
    exact h6 y1 y2
   rw[if_neg hx] at hI
   refine Q3 (Qd (jh hX Z6) ?_)
   refine Q13 (i+1) [0,2,3,8,9,17,18,19] 2 (by simp[hX]) Z3 (by simp[h2,h6];try (simp (disch:=omega) only[Q7])) ?_ ?_
   ·exact ⟨by omega,hI⟩
   ·omega
 ·try simp at h2
  rw[List.drop_eq_nil_of_le h2] at hI
  simp only[ffL] at hI
  rw[←hI]
  refine Qr (Q0 [8,9] (jh hX Zy) ?_)
  refine Q4 (je Zy ?_)
  rfl
end Go.Proofs
namespace Go.Proofs
open Go Go.Ev
theorem Qkx:Q6 Tryz.prog 185:=jcb Tryz.func185
theorem Qke{F:SF}{st lo tk:List Typ}(hs:st.length≤1000)(hs2:lo.length≤1000)(ht:tk.length≤1000)(hl:F.l.length≤1048576)(h9:Qx F.l=true)(hz:Q1r F.l≤1048576)(hd:F.i.desc.length≤1099511627776)(k1:F.i.op=32∨F.i.op=33∨F.i.op=35→0<tk.length)(hop:32≤F.i.op∧F.i.op≤35):Ct Tryz.prog 185 [.ptr 0 0 0,eI F.i] [some (20,[oFl F st lo tk])] (.int .i64 (Qfn F st lo tk).k) [some (20,[oFl F ((Qfn F st lo tk).st) ((Qfn F st lo tk).lo) tk])]:=by
 have hl4:=Qa1 h9
 rcases (by omega:F.i.op=32∨F.i.op=33∨F.i.op=34∨F.i.op=35) with h|h|h|h
 all_goals first|have e32:(F.i.op=32)=(true=true):=by simp[h]|have e32:(F.i.op=32)=(false=true):=by simp[h]
 all_goals first|have e34:(F.i.op=34)=(true=true):=by simp[h]|have e34:(F.i.op=34)=(false=true):=by simp[h]
 all_goals first|have e35:(F.i.op=35)=(true=true):=by simp[h]|have e35:(F.i.op=35)=(false=true):=by simp[h]
 all_goals first|have hk:0<tk.length:=k1 Za|have hk:=trivial
 all_goals first|(have w1:IntKind.i64.wrap ((tk.length:Int)-1)=(tk.length:Int)-1:=Q7 Za Za;have w2:0≤(tk.length:Int)-1:=Za;have w3:((tk.length:Int)-1).toNat=tk.length-1:=Za;have w4:tk.length-1<tk.length:=Za;have w5:1≤tk.length:=Za)|(have w1:=trivial;have w2:=trivial;have w3:=trivial;have w4:=trivial;have w5:=trivial)
 all_goals clear h
 all_goals
  refine jbS Tryz.func185 97 fun X hX=> ?_
  refine Q0 [0,3] (jh hX Zb) ?_
  first|(refine Q0 [0,3,5] (jh hX Zb) ?_)|(refine Q0 [0,3,5] (jh hX Zb) ?_)|(refine Q0 [0,3,5] (js hX 4 Zb (jm 4 11 [0,3,15] (p:=by intro b;(try simp at b);exact (jh hX (by simp[-Qc,-Qb,e32,e34,e35,hk,w1,w2,w3,w4,w5];rfl))) (q:=by intro b;(try simp at b);exact (jh hX (by simp[-Qc,-Qb,e32,e34,e35,hk,w1,w2,w3,w4,w5];rfl))) (k:=(jh hX Zb)))) ?_)
  refine Q5 (jL 6 [0,1,2,3,4,5] [] [0,3,5,23] ([0,1]) hX Zb .nil (Q8.call [] rfl Z3 rfl Zb Z8 (by apply Q1x<;>exact Z0) Q1y Z3 Z3 Zb (jh hX Zb)) ?_)
  refine jd (fun h2=> ?_) (fun h2=> ?_)
  ·try simp at h2
   refine Q0 [4] (jh hX Zb) ?_
   refine Q4 (Qq Zb Z17 (.of_eq ?_) ?_)
   all_goals clear hX
   ·skip
    simp_all[Qfn,Qcy,Qdx,cu]
   ·skip
    simp_all[Qfn,Qcy,Qdx,cu]
  ·try simp at h2
   refine Q3 (jT 17 (Q20 [0,1,2,3,4,5,6,7,8,9] (.alt 10 (Q20 [11,12,13] (.alt 14 (.alt 15 (.alt 16 .tail .stop) .stop) (.alt 15 (.alt 14 (.alt 16 .tail .stop) .stop) .stop))) (.alt 14 (.alt 10 (Q20 [11,12,13] (.alt 15 (.alt 16 .tail .stop) .stop)) (.alt 15 (.alt 10 (Q20 [11,12,13] (.alt 16 .tail .stop)) .stop) .stop)) (.alt 15 (.alt 10 (Q20 [11,12,13] (.alt 14 (.alt 16 .tail .stop) .stop)) (.alt 14 (.alt 10 (Q20 [11,12,13] (.alt 16 .tail .stop)) .stop) .stop)) .stop)))) [0,3,5,6,7] [0,1] hX (jTp [0,1,2,3,4,5,6,7,8,9] _ Z1x (jTa 10 (p:=fun X hX=>(Q8.callF rfl Z3 rfl Zb (by apply Q3x<;>exact Z0) Q3y (by (try simp[e32,e34,e35,hk,w1,w2,w3,w4,w5]);rfl) jf)) (k:=(jTp [11,12,13] _ Z1x (jTa 14 (p:=fun X hX=>(jh hX Zb)) (k:=(jTa 15 (p:=fun X hX=>(jh hX Zb)) (k:=(jTa 16 (p:=fun X hX=>(jh hX Zb)) (k:=.tail) (kr:=.stop))) (kr:=.stop))) (kr:=(jTa 15 (p:=fun X hX=>(jh hX Zb)) (k:=(jTa 14 (p:=fun X hX=>(jh hX Zb)) (k:=(jTa 16 (p:=fun X hX=>(jh hX Zb)) (k:=(jTw 2 3 (by simp[];try rfl) .tail)) (kr:=.stop))) (kr:=.stop))) (kr:=.stop)))))) (kr:=(jTa 14 (p:=fun X hX=>(jh hX Zb)) (k:=(jTa 10 (p:=fun X hX=>(Q8.callF rfl Z3 rfl Zb (by apply Q3x<;>exact Z0) Q3y (by (try simp[e32,e34,e35,hk,w1,w2,w3,w4,w5]);rfl) jf)) (k:=(jTp [11,12,13] _ Z1x (jTa 15 (p:=fun X hX=>(jh hX Zb)) (k:=(jTa 16 (p:=fun X hX=>(jh hX Zb)) (k:=.tail) (kr:=.stop))) (kr:=.stop)))) (kr:=(jTa 15 (p:=fun X hX=>(jh hX Zb)) (k:=(jTa 10 (p:=fun X hX=>(Q8.callF rfl Z3 rfl Zb (by apply Q3x<;>exact Z0) Q3y (by (try simp[e32,e34,e35,hk,w1,w2,w3,w4,w5]);rfl) jf)) (k:=(jTp [11,12,13] _ Z1x (jTa 16 (p:=fun X hX=>(jh hX Zb)) (k:=.tail) (kr:=.stop)))) (kr:=.stop))) (kr:=.stop))))) (kr:=(jTa 15 (p:=fun X hX=>(jh hX Zb)) (k:=(jTa 10 (p:=fun X hX=>(Q8.callF rfl Z3 rfl Zb (by apply Q3x<;>exact Z0) Q3y (by (try simp[e32,e34,e35,hk,w1,w2,w3,w4,w5]);rfl) jf)) (k:=(jTp [11,12,13] _ Z1x (jTa 14 (p:=fun X hX=>(jh hX Zb)) (k:=(jTa 16 (p:=fun X hX=>(jh hX Zb)) (k:=(jTw 2 3 (by simp[];try rfl) .tail)) (kr:=.stop))) (kr:=.stop)))) (kr:=(jTa 14 (p:=fun X hX=>(jh hX Zb)) (k:=(jTa 10 (p:=fun X hX=>(Q8.callF rfl Z3 rfl Zb (by apply Q3x<;>exact Z0) Q3y (by (try simp[e32,e34,e35,hk,w1,w2,w3,w4,w5]);rfl) jf)) (k:=(jTp [11,12,13] _ Z1x (jTa 16 (p:=fun X hX=>(jh hX Zb)) (k:=(jTw 2 3 (by simp[];try rfl) .tail)) (kr:=.stop)))) (kr:=.stop))) (kr:=.stop))))) (kr:=.stop))))))) (jh hX Zb) ?_)
   refine Q5 (Q9 (Q0 [0,3,5,6,7,38] (jh hX Zb) ?_))
   refine jd (fun h5=> ?_) (fun h5=> ?_)
   ·try simp at h5
    refine Q0 [4] (jh hX Zb) ?_
    refine Q4 (Qq Zb Z17 (.of_eq ?_) ?_)
    all_goals clear hX
    ·skip
     simp_all[Qfn,Qcy,Qdx,cu]
    ·skip
     simp_all[Qfn,Qcy,Qdx,cu]
   ·try simp at h5
    refine Q0 [0,3,5,44] (jh hX Zb) ?_
    refine jd (fun h7=> ?_) (fun h7=> ?_)
    ·try simp at h7
     refine Q0 [4] (jh hX Zb) ?_
     refine Q4 (Qq Zb Z17 (.of_eq ?_) ?_)
     all_goals clear hX
     ·skip
      simp_all[Qfn,Qcy,Qdx,cu]
     ·skip
      simp_all[Qfn,Qcy,Qdx,cu]
    ·try simp at h7
     first|(refine jD [0,3,49] (jS 12 Zb (jC (c:=Zw) (a:=Qv) (k:=(jQ Zb)))) ?_)|(refine jD [0,3,49] (jQ Zb) ?_)|(refine jD [0,3,49] (jS 3 Zb (jM 12 52 [0,3,64] (p:=by intro b;(try simp at b);exact (jS 9 (by simp[-Qc,-Qb,e32,e34,e35,hk,w1,w2,w3,w4,w5];rfl) (jC (c:=Zw) (a:=Qv) (k:=(jQ (by simp[-Qc,-Qb,e32,e34,e35,hk,w1,w2,w3,w4,w5];rfl)))))) (q:=by intro b;(try simp at b);exact (jQ (by simp[-Qc,-Qb,e32,e34,e35,hk,w1,w2,w3,w4,w5];rfl))) (k:=(jQ Zb)))) ?_)
     refine jd (fun h9=> ?_) (fun h9=> ?_)
     ·try simp at h9
      all_goals
       refine Q0 [4] (jh hX Zb) ?_
       refine Q4 (Qq Zb Z17 (.of_eq ?_) ?_)
       all_goals clear hX
       ·skip
        simp_all[Qfn,Qcy,Qdx,cu]
       ·skip
        simp_all[Qfn,Qcy,Qdx,cu]
     ·try simp at h9
      all_goals
       first|(refine Q0 [0,3,65] (jh hX Zb) ?_)|(refine Q0 [0,3,65] (jh hX Zb) ?_)|(refine Q0 [0,3,65] (js hX 4 Zb (jm 4 69 [0,3,73] (p:=by intro b;(try simp at b);exact (jh hX (by simp[-Qc,-Qb,e32,e34,e35,hk,w1,w2,w3,w4,w5];rfl))) (q:=by intro b;(try simp at b);exact (jh hX (by simp[-Qc,-Qb,e32,e34,e35,hk,w1,w2,w3,w4,w5];rfl))) (k:=(jh hX Zb)))) ?_)
       refine jd (fun h11=> ?_) (fun h11=> ?_)
       ·try simp at h11
        all_goals
         refine Q0 [4] (js hX 3 Zb (Q8.call [] rfl Z3 rfl Zb Z8 (by apply Qa6<;>exact Z0) Qa8 Z3 Z3 Zb (jFz (k:=(Q8.call [0] rfl Z3 rfl Zb Z8 (by apply Q1p (ys:=[Q3c F.i.desc])<;>exact Z0) Q1h Z3 Z3 Zb (jh hX Zb)))))) ?_
         refine Q4 (Qq Zb Z17 (.of_eq ?_) ?_)
         all_goals clear hX
         ·skip
          simp_all[Qfn,Qcy,Qdx,cu]
         ·skip
          simp_all[Qfn,Qcy,Qdx,cu]
       ·try simp at h11
        all_goals
         refine Q3 (jT 15 (Q20 [0,1,2,3,5,6,7,13] (.alt 4 (.alt 8 (Q20 [9,10,11] (.alt 12 (.alt 14 .tail .stop) (.alt 14 (.alt 12 .tail .stop) .stop))) (.alt 14 (.alt 8 (Q20 [9,10,11] (.alt 12 .tail .stop)) .stop) .stop)) (.alt 8 (Q20 [9,10] (.alt 4 (Q20 [11] (.alt 12 (.alt 14 .tail .stop) (.alt 14 (.alt 12 .tail .stop) .stop))) (.alt 14 (.alt 4 (Q20 [11] (.alt 12 .tail .stop)) .stop) .stop))) (.alt 14 (.alt 4 (.alt 8 (Q20 [9,10,11] (.alt 12 .tail .stop)) .stop) (.alt 8 (Q20 [9,10] (.alt 4 (Q20 [11] (.alt 12 .tail .stop)) .stop)) .stop)) .stop)))) [4] [] hX (jTp [0,1,2,3,5,6,7,13] _ Z1x (jTa 4 (p:=fun X hX=>(jh hX Zb)) (k:=(jTa 8 (p:=fun X hX=>(jh hX Zb)) (k:=(jTp [9,10,11] _ Z1x (jTa 12 (p:=fun X hX=>(jh hX Zb)) (k:=(jTa 14 (p:=fun X hX=>(jh hX Zb)) (k:=.tail) (kr:=.stop))) (kr:=(jTa 14 (p:=fun X hX=>(jh hX Zb)) (k:=(jTa 12 (p:=fun X hX=>(jh hX Zb)) (k:=.tail) (kr:=.stop))) (kr:=.stop)))))) (kr:=(jTa 14 (p:=fun X hX=>(jh hX Zb)) (k:=(jTa 8 (p:=fun X hX=>(jh hX Zb)) (k:=(jTp [9,10,11] _ Z1x (jTa 12 (p:=fun X hX=>(jh hX Zb)) (k:=.tail) (kr:=.stop)))) (kr:=.stop))) (kr:=.stop))))) (kr:=(jTa 8 (p:=fun X hX=>(jh hX Zb)) (k:=(jTp [9,10] _ Z1x (jTa 4 (p:=fun X hX=>(jh hX Zb)) (k:=(jTp [11] _ Z1x (jTa 12 (p:=fun X hX=>(jh hX Zb)) (k:=(jTa 14 (p:=fun X hX=>(jh hX Zb)) (k:=.tail) (kr:=.stop))) (kr:=(jTa 14 (p:=fun X hX=>(jh hX Zb)) (k:=(jTa 12 (p:=fun X hX=>(jh hX Zb)) (k:=.tail) (kr:=.stop))) (kr:=.stop)))))) (kr:=(jTa 14 (p:=fun X hX=>(jh hX Zb)) (k:=(jTa 4 (p:=fun X hX=>(jh hX Zb)) (k:=(jTp [11] _ Z1x (jTa 12 (p:=fun X hX=>(jh hX Zb)) (k:=.tail) (kr:=.stop)))) (kr:=.stop))) (kr:=.stop)))))) (kr:=(jTa 14 (p:=fun X hX=>(jh hX Zb)) (k:=(jTa 4 (p:=fun X hX=>(jh hX Zb)) (k:=(jTa 8 (p:=fun X hX=>(jh hX Zb)) (k:=(jTp [9,10,11] _ Z1x (jTa 12 (p:=fun X hX=>(jh hX Zb)) (k:=.tail) (kr:=.stop)))) (kr:=.stop))) (kr:=(jTa 8 (p:=fun X hX=>(jh hX Zb)) (k:=(jTp [9,10] _ Z1x (jTa 4 (p:=fun X hX=>(jh hX Zb)) (k:=(jTp [11] _ Z1x (jTa 12 (p:=fun X hX=>(jh hX Zb)) (k:=.tail) (kr:=.stop)))) (kr:=.stop)))) (kr:=.stop))))) (kr:=.stop))))))) (Q8.callB rfl Z3 rfl Zb (by apply Q9n<;>exact Z0) Q9t Z3 Zb (Q8.call [] rfl Z3 rfl Zb Z8 (by apply Q1d<;>exact Z0) Q1f Z3 Z3 Zb (jh hX Zb))) ?_)
         refine Q4 (Qq Zb Z17 (.of_eq ?_) ?_)
         all_goals clear hX
         ·skip
          simp_all[Qfn,Qcy,Qdx,cu]
         ·skip
          simp_all[Qfn,Qcy,Qdx,cu]
end Go.Proofs
namespace Go.Proofs
open Go Go.Ev
theorem Q1l:Q6 Tryz.prog 262:=jcb Tryz.func262
theorem Qdh{l:List Cls}(hl:l.length≤1048576)(hs:Q1r l≤1099511627776){c n d:Str}:Ct Tryz.prog 262 [wv l,.str c,.str n,.str d] [] (.tup [eFd (fmL l n d (Qu l c)).1,eM (fmL l n d (Qu l c)).2]) []:=by
 have hcl:=Q8x l c
 refine jbS Tryz.func262 58 fun X hX=> ?_
 refine Q0 [0,1,2,3,8,9] (jh hX (by simp[Qn];rfl)) ?_
 refine Q5 (Q0 [0,2,3,8,9,17,18,19] (js hX 2 (by simp[Qn];rfl) (Q8.callF rfl Z3 rfl (by simp[Qn];rfl) (by apply Q3j<;>first|assumption|omega|exact Q46 hs) Q3k (by (try simp[Qn]);rfl) (jh hX (by simp[Qn];rfl)))) ?_)
 refine Q9 (Qo (α:=Nat) [0,2,3,8,9,17,18,19] (fun i=>[(19,.int .i64 i)]) (fun i=>[]) (fun i=>i≤(Qu l c).length∧fmL l n d ((Qu l c).drop i)=fmL l n d (Qu l c)) (fun i=>(Qu l c).length-i) (0) (fun i=>by simp;rfl) Z3 ?_ ?_)
 ·simp
 rintro i ⟨hi,hI⟩
 refine Q0 [0,2,3,8,9,17,18,19,20] (jh hX (by simp[Qn];rfl)) ?_
 refine Q5 (jd (fun h2=> ?_) (fun h2=> ?_))
 ·try simp at h2
  rw[List.drop_eq_getElem_cons h2] at hI
  simp only[fmL] at hI
  refine Q3 (Q5 (Q9 (Q0 [0,2,3,8,9,11,17,18,19] (jh hX (by simp[h2,Qn];rfl)) ?_)))
  refine Q0 [0,2,3,8,9,11,12,17,18,19] (js hX 2 (by simp[Qn];rfl) (Q8.callF rfl Z3 rfl (by simp[Qn];rfl) (by apply Q2a<;>first|assumption|omega|exact Q46 hs) Q2b (by (try simp[Qn]);rfl) (jh hX (by simp[h2,Qn];rfl)))) ?_
  refine Q5 (Q0 [0,2,3,8,9,11,12,14,17,18,19] (js hX 3 (by simp[h2,Qn];rfl) (Q8.call [] rfl Z3 rfl (by simp[Qn];rfl) Z8 (by apply Q4y<;>first|assumption|omega|exact Q46 hs) Q4z Z3 Z3 (by simp[Qn];rfl) (jh hX (by simp[Qn];rfl)))) ?_)
  refine Q0 [0,2,3,8,9,11,12,14,17,18,19,34] (jh hX (by simp[Qn];rfl)) ?_
  refine jd (fun h6=> ?_) (fun h6=> ?_)
  ·try simp at h6
   rw[if_pos h6] at hI
   rw[←hI]
   obtain ⟨j,hj,hjm⟩:=Qox h6
   refine jL 9 [0,1,2,3,4,5,6,7] [8] [8,9] ([2]) hX (by simp[h2,h6,hj,hjm,Qn];rfl) (jH (p:=fun X hX=>(jh hX (by simp[h2,h6,hj,hjm,Qn];rfl))) (k:=.nil)) (jh hX (by simp[h2,h6,hj,hjm,Qn];rfl)) ?_
   refine Q4 (Q1z (by simp[h2,h6,hj,hjm,Qn];rfl) ?_ rfl)
   simp only[hjm]
   simp[hj]
   exact Wk.refl _
  ·try simp at h6
   rw[if_neg Za] at hI
   refine Q3 (Q0 [0,2,3,8,9,11,17,18,19,44] (jh hX (by simp[Qn];rfl)) ?_)
   refine jd (fun h8=> ?_) (fun h8=> ?_)
   ·try simp at h8
    rw[if_pos (by simpa[Qm] using h8)] at hI
    refine Q5 (Q0 [3,8,9,11,50] (js hX 1 (by simp[Qn];rfl) (Q8.call [] rfl Z3 rfl (by simp[Qn];rfl) Z8 (by apply Q7b<;>first|assumption|omega|exact Q46 hs) Q7f Z3 Z3 (by simp[Qn];rfl) (js hX 1 (by simp[Qn];rfl) (jm 3 47 [3,8,9,11,50] (p:=by intro b;(try simp at b);exact (jh hX (by simp[-Qc,-Qb,Qn];rfl))) (q:=by intro b;(try simp at b);exact (jh hX (by simp[-Qc,-Qb,Qn];rfl))) (k:=jf))))) ?_)
    refine jd (fun h9=> ?_) (fun h9=> ?_)
    ·try simp at h9
     rw[if_pos (by simpa[Qh7] using h9)] at hI
     rw[←hI]
     refine Q0 [8,9] (jh hX (by simp[h2,h6,Qn];rfl)) ?_
     refine Q4 (Q1z (by simp[h2,h6,Qn];rfl) ?_ rfl)
     exact Wk.tup (.cons (Wk.refl _) (.cons (Qvo _ _) .nil))
    ·try simp at h9
     rw[if_neg (by simpa[Qh7] using h9)] at hI
     rw[←hI]
     refine Q3 (Qr (Q0 [8,9] (jh hX (by simp[h2,h6,Qn];rfl)) ?_))
     refine Q4 (Q1z (by simp[h2,h6,Qn];rfl) ?_ rfl)
     exact Wk.tup (.cons (Wk.refl _) (.cons Qyb .nil))
   ·try simp at h8
    rw[if_neg (by simpa[Qm] using h8)] at hI
    refine Q3 (Qd (jh hX (by simp[Qn];(try (simp (disch:=omega) only[Q7];(try simp[Qn])));rfl)) ?_)
    refine Q13 (i+1) [0,2,3,8,9,17,18,19] 2 (by simp[hX]) Z3 (by simp[h2,h6];try (simp (disch:=omega) only[Q7])) ?_ ?_
    ·exact ⟨by omega,hI⟩
    ·omega
 ·try simp at h2
  rw[List.drop_eq_nil_of_le h2] at hI
  simp only[fmL] at hI
  rw[←hI]
  refine Qr (Q0 [8,9] (jh hX (by simp[h2,Qn];rfl)) ?_)
  refine Q4 (Q1z (by simp[h2,Qn];rfl) ?_ rfl)
  exact Wk.tup (.cons (Wk.refl _) (.cons Qyb .nil))
end Go.Proofs
namespace Go.Proofs
open Go Go.Ev
theorem Q2v:Q6 Tryz.prog 263:=jcb Tryz.func263
theorem Q42{F:SF}{x y z:V}(hl:F.l.length≤1048576){a:List Typ}{ps:List Str}{r:Str}(ha:ps.length≤a.length)(hp:ps.length≤1000)(ht: ∀p∈ps,p.length≤1099511627776):Ct Tryz.prog 263 [pFl F x y z,.lst false 3 (a.map eT),.agg [.lst false 1 (ps.map .str),.str r]] [] (.bool (Qgr F.l a ps ps.length)) []:=by
 refine jbS Tryz.func263 26 fun X hX=> ?_
 refine jq [0,1,5] ?_
 refine Q5 (jq [0,1,10,11,12] ?_)
 refine Q9 (Qo (α:=Nat) [0,1,10,11,12] (fun j=>[(12,.int .i64 (j:Nat))]) (fun j=>[]) (fun j=>j≤ps.length∧Qgr F.l a ps j=true) (fun j=>ps.length-j) (0) (fun j=>by simp;rfl) Z3 ?_ ?_)
 ·simp[Qgr]
 rintro j ⟨hj,hJ⟩
 refine jq [0,1,10,11,12,13] ?_
 refine Q5 (jd (fun h2=> ?_) (fun h2=> ?_))
 ·try simp at h2
  have hja:j<a.length:=by omega
  have htj:=ht _ (List.getElem_mem h2)
  refine Q3 (Q5 (Q9 (Q0 [0,1,7,8,10,11,12] (jh hX (by simp[h2,hja];rfl)) ?_)))
  refine Q0 [0,1,10,11,12,24] (js hX 6 (by simp[h2,hja];rfl) (jB (c:=(by apply Q9n<;>exact Z0)) (a:=Q9t) (k:=(jh hX (by simp[h2,hja];rfl))))) ?_
  refine jd (fun h4=> ?_) (fun h4=> ?_)
  ·try simp at h4
   refine Q0 [6] (jh hX (by simp[h2,hja];rfl)) ?_
   refine Q4 (je (by simp[h2,hja];rfl) ?_)
   rw[Q13c h2 hja h4]
  ·try simp at h4
   refine Q3 (Qd (jh hX (by simp[h2,hja];(try (simp (disch:=omega) only[Q7];(try simp[h2,hja])));rfl)) ?_)
   refine Qp (j+1) [0,1,10,11,12] (by simp[h2,hja];try (simp (disch:=omega) only[Q7])) ?_ ?_
   ·exact ⟨by omega,by simp only[Qgr];rw[hJ,Qb hja,Qb h2,h4];rfl⟩
   ·omega
 ·try simp at h2
  refine Qr (Q0 [6] (jh hX Zy) ?_)
  refine Q4 (je Zy ?_)
  obtain rfl:j=ps.length:=by omega
  rw[hJ]
end Go.Proofs
namespace Go.Proofs
open Go Go.Ev
theorem Q86:Q6 Tryz.prog 264:=jcb Tryz.func264
theorem Q81{F:SF}{st lo tk:List Typ}(hs:st.length≤1000){ps:List V}{r:Str}(hr:r.length≤1099511627776):Ct Tryz.prog 264 [.ptr 0 0 0,.agg [.lst false 1 ps,.str r]] [some (20,[oFl F st lo tk])] (.int .i64 0) [some (20,[oFl F (Qvw r st) (lo) tk])]:=by
 refine jbS Tryz.func264 14 fun X hX=> ?_
 refine jq [0,3] ?_
 refine Q5 (jq [0,3,7] ?_)
 refine jd (fun h1=> ?_) (fun h1=> ?_)
 ·try simp at h1
  refine jq [4] ?_
  refine Q4 (Qq Z8 Z17 (.of_eq ?_) ?_)
  all_goals clear hX
  ·skip
   rfl
  ·skip
   simp_all[Qvw]
 ·try simp at h1
  refine Q3 (Q0 [4] (jt 3 (k:=(jc [] (c:=(by apply Qa6<;>exact Z0)) (a:=Qa8) (k:=(jFz (k:=(jc [0] (c:=(by apply Q1p (ys:=[Q3c r])<;>exact Z0)) (a:=Q1h) (k:=jr)))))))) ?_)
  refine Q4 (Qq Z8 Z17 (.of_eq ?_) ?_)
  all_goals clear hX
  ·skip
   rfl
  ·skip
   simp_all[Qvw]
end Go.Proofs
namespace Go.Proofs
open Go Go.Ev
theorem Qhy:Q6 Tryz.prog 186:=jcb Tryz.func186
theorem Qhi{F:SF}{st lo tk:List Typ}(hs:st.length≤1000)(hs2:lo.length≤1000)(ht:tk.length≤1000)(hl:F.l.length≤1048576)(h9:Qx F.l=true)(hz:Q1r F.l≤1048576)(hd:F.i.desc.length≤1099511627776)(hop:F.i.op=38)(kl:tk.length=(Q1g F.i.desc).params.length+1):Ct Tryz.prog 186 [.ptr 0 0 0,eI F.i] [some (20,[oFl F st lo tk])] (.int .i64 (spI F st lo tk).k) [some (20,[oFl F ((spI F st lo tk).st) ((spI F st lo tk).lo) tk])]:=by
 have hl4:=Qa1 h9
 have hdr:=Nat.le_trans (Q8v F.i.desc).1 hd
 have hdl:=Qrr F.i.desc
 have hdp: ∀p∈(Q1g F.i.desc).params,p.length≤1099511627776:=fun p hp=>Nat.le_trans ((Q8v F.i.desc).2 p hp) hd
 have hk:0<tk.length:=by omega
 have hk1:1≤tk.length:=by omega
 have d2:List.take tk.length (tk.map eT)=tk.map eT:=List.take_of_length_le Z3
 all_goals by_cases hn:F.i.name=[60,105,110,105,116,62]
 all_goals first|have en:(F.i.name=[60,105,110,105,116,62])=(true=true):=by simp[hn]|have en:(F.i.name=[60,105,110,105,116,62])=(false=true):=by simp[hn]
 all_goals clear hn
 all_goals
  refine jbS Tryz.func186 171 fun X hX=> ?_
  refine Q0 [0,3] (jh hX Zk) ?_
  refine jT 13 (Q20 [0,1,4,5,6,7,8,9] (.alt 2 (Q20 [3] (.alt 10 (.alt 11 (.alt 12 .tail .stop) .stop) (.alt 11 (.alt 10 (.alt 12 .tail .stop) .stop) .stop))) (.alt 10 (.alt 2 (Q20 [3] (.alt 11 (.alt 12 .tail .stop) .stop)) (.alt 11 (.alt 2 (Q20 [3] (.alt 12 .tail .stop)) .stop) .stop)) (.alt 11 (.alt 2 (Q20 [3] (.alt 10 (.alt 12 .tail .stop) .stop)) (.alt 10 (.alt 2 (Q20 [3] (.alt 12 .tail .stop)) .stop) .stop)) .stop)))) [0,3,5,6] [0,1] hX (jTp [0,1,4,5,6,7,8,9] _ (by simp[hk,hk1,d2,en];try rfl) (jTa 2 (p:=fun X hX=>(Q8.callF rfl Z3 rfl Zk (by apply Q2e<;>exact Z0) Q2g (by (try simp[hk,hk1,d2,en]);rfl) jf)) (k:=(jTp [3] _ (by simp[hk,hk1,d2,en];try rfl) (jTa 10 (p:=fun X hX=>(jh hX Zk)) (k:=(jTa 11 (p:=fun X hX=>(jh hX Zk)) (k:=(jTa 12 (p:=fun X hX=>(jh hX Zk)) (k:=.tail) (kr:=.stop))) (kr:=.stop))) (kr:=(jTa 11 (p:=fun X hX=>(jh hX Zk)) (k:=(jTa 10 (p:=fun X hX=>(jh hX Zk)) (k:=(jTa 12 (p:=fun X hX=>(jh hX Zk)) (k:=(jTw 2 3 (by simp[];try rfl) .tail)) (kr:=.stop))) (kr:=.stop))) (kr:=.stop)))))) (kr:=(jTa 10 (p:=fun X hX=>(jh hX Zk)) (k:=(jTa 2 (p:=fun X hX=>(Q8.callF rfl Z3 rfl Zk (by apply Q2e<;>exact Z0) Q2g (by (try simp[hk,hk1,d2,en]);rfl) jf)) (k:=(jTp [3] _ (by simp[hk,hk1,d2,en];try rfl) (jTa 11 (p:=fun X hX=>(jh hX Zk)) (k:=(jTa 12 (p:=fun X hX=>(jh hX Zk)) (k:=.tail) (kr:=.stop))) (kr:=.stop)))) (kr:=(jTa 11 (p:=fun X hX=>(jh hX Zk)) (k:=(jTa 2 (p:=fun X hX=>(Q8.callF rfl Z3 rfl Zk (by apply Q2e<;>exact Z0) Q2g (by (try simp[hk,hk1,d2,en]);rfl) jf)) (k:=(jTp [3] _ (by simp[hk,hk1,d2,en];try rfl) (jTa 12 (p:=fun X hX=>(jh hX Zk)) (k:=.tail) (kr:=.stop)))) (kr:=.stop))) (kr:=.stop))))) (kr:=(jTa 11 (p:=fun X hX=>(jh hX Zk)) (k:=(jTa 2 (p:=fun X hX=>(Q8.callF rfl Z3 rfl Zk (by apply Q2e<;>exact Z0) Q2g (by (try simp[hk,hk1,d2,en]);rfl) jf)) (k:=(jTp [3] _ (by simp[hk,hk1,d2,en];try rfl) (jTa 10 (p:=fun X hX=>(jh hX Zk)) (k:=(jTa 12 (p:=fun X hX=>(jh hX Zk)) (k:=(jTw 2 3 (by simp[];try rfl) .tail)) (kr:=.stop))) (kr:=.stop)))) (kr:=(jTa 10 (p:=fun X hX=>(jh hX Zk)) (k:=(jTa 2 (p:=fun X hX=>(Q8.callF rfl Z3 rfl Zk (by apply Q2e<;>exact Z0) Q2g (by (try simp[hk,hk1,d2,en]);rfl) jf)) (k:=(jTp [3] _ (by simp[hk,hk1,d2,en];try rfl) (jTa 12 (p:=fun X hX=>(jh hX Zk)) (k:=(jTw 2 3 (by simp[];try rfl) .tail)) (kr:=.stop)))) (kr:=.stop))) (kr:=.stop))))) (kr:=.stop))))))) (jh hX Zk) ?_
  refine jT 17 (Q20 [0,1,2,3,4,5,6,7,8,9] (.alt 10 (Q20 [11,12,13] (.alt 14 (.alt 15 (.alt 16 .tail .stop) .stop) (.alt 15 (.alt 14 (.alt 16 .tail .stop) .stop) .stop))) (.alt 14 (.alt 10 (Q20 [11,12,13] (.alt 15 (.alt 16 .tail .stop) .stop)) (.alt 15 (.alt 10 (Q20 [11,12,13] (.alt 16 .tail .stop)) .stop) .stop)) (.alt 15 (.alt 10 (Q20 [11,12,13] (.alt 14 (.alt 16 .tail .stop) .stop)) (.alt 14 (.alt 10 (Q20 [11,12,13] (.alt 16 .tail .stop)) .stop) .stop)) .stop)))) [0,3,5,6,7,8] [0,1] hX (jTp [0,1,2,3,4,5,6,7,8,9] _ (by simp[hk,hk1,d2,en];try rfl) (jTa 10 (p:=fun X hX=>(Q8.callF rfl Z3 rfl Zk Z1o Q1l (by (try simp[hk,hk1,d2,en]);rfl) jf)) (k:=(jTp [11,12,13] _ (by simp[hk,hk1,d2,en];try rfl) (jTa 14 (p:=fun X hX=>(jh hX Zk)) (k:=(jTa 15 (p:=fun X hX=>(jh hX Zk)) (k:=(jTa 16 (p:=fun X hX=>(jh hX Zk)) (k:=.tail) (kr:=.stop))) (kr:=.stop))) (kr:=(jTa 15 (p:=fun X hX=>(jh hX Zk)) (k:=(jTa 14 (p:=fun X hX=>(jh hX Zk)) (k:=(jTa 16 (p:=fun X hX=>(jh hX Zk)) (k:=(jTw 4 5 (by simp[];try rfl) .tail)) (kr:=.stop))) (kr:=.stop))) (kr:=.stop)))))) (kr:=(jTa 14 (p:=fun X hX=>(jh hX Zk)) (k:=(jTa 10 (p:=fun X hX=>(Q8.callF rfl Z3 rfl Zk Z1o Q1l (by (try simp[hk,hk1,d2,en]);rfl) jf)) (k:=(jTp [11,12,13] _ (by simp[hk,hk1,d2,en];try rfl) (jTa 15 (p:=fun X hX=>(jh hX Zk)) (k:=(jTa 16 (p:=fun X hX=>(jh hX Zk)) (k:=.tail) (kr:=.stop))) (kr:=.stop)))) (kr:=(jTa 15 (p:=fun X hX=>(jh hX Zk)) (k:=(jTa 10 (p:=fun X hX=>(Q8.callF rfl Z3 rfl Zk Z1o Q1l (by (try simp[hk,hk1,d2,en]);rfl) jf)) (k:=(jTp [11,12,13] _ (by simp[hk,hk1,d2,en];try rfl) (jTa 16 (p:=fun X hX=>(jh hX Zk)) (k:=.tail) (kr:=.stop)))) (kr:=.stop))) (kr:=.stop))))) (kr:=(jTa 15 (p:=fun X hX=>(jh hX Zk)) (k:=(jTa 10 (p:=fun X hX=>(Q8.callF rfl Z3 rfl Zk Z1o Q1l (by (try simp[hk,hk1,d2,en]);rfl) jf)) (k:=(jTp [11,12,13] _ (by simp[hk,hk1,d2,en];try rfl) (jTa 14 (p:=fun X hX=>(jh hX Zk)) (k:=(jTa 16 (p:=fun X hX=>(jh hX Zk)) (k:=(jTw 4 5 (by simp[];try rfl) .tail)) (kr:=.stop))) (kr:=.stop)))) (kr:=(jTa 14 (p:=fun X hX=>(jh hX Zk)) (k:=(jTa 10 (p:=fun X hX=>(Q8.callF rfl Z3 rfl Zk Z1o Q1l (by (try simp[hk,hk1,d2,en]);rfl) jf)) (k:=(jTp [11,12,13] _ (by simp[hk,hk1,d2,en];try rfl) (jTa 16 (p:=fun X hX=>(jh hX Zk)) (k:=(jTw 4 5 (by simp[];try rfl) .tail)) (kr:=.stop)))) (kr:=.stop))) (kr:=.stop))))) (kr:=.stop))))))) (jh hX Zk) ?_
  refine Q5 (Q0 [0,3,5,6,7,8,36] (jh hX Zk) ?_)
  refine jd (fun h3=> ?_) (fun h3=> ?_)
  ·try simp at h3
   all_goals
    rcases spC tk[0] F.i.cls F.c.name F.c.super with ⟨e7,e6,ec,es,ew⟩|⟨e7,e6,ec,es,ew⟩|⟨e7,e6,ec,es,ew⟩|⟨e7,e6,ec,es,ew⟩|⟨e7,e6,ec,es,ew⟩|⟨e7,e6,ec,es,ew⟩
    all_goals
     first|(refine jL 20 [0,1,2,3,4,5,6,7,8,9,10,11,12,13,14,15,16,17,18,19] [] [0,3,5,6,7,9] ([0,1,3]) hX Zj .nil (jm 2 49 [0,3,5,6,7,40,58] (p:=by intro b;(try simp at b);exact (jh hX (by simp[-Qc,-Qb,e7,e6,ec,es,ew,hk,hk1,d2,en];rfl))) (q:=by intro b;(try simp at b);exact (jh hX (by simp[-Qc,-Qb,e7,e6,ec,es,ew,hk,hk1,d2,en];rfl))) (k:=(jh hX Zj))) ?_)|(refine jL 20 [0,1,2,3,4,5,6,7,8,9,10,11,12,13,14,15,16,17,18,19] [] [0,3,5,6,7,9] ([0,1,3]) hX Zj .nil (jh hX Zj) ?_)|(refine jL 20 [0,1,2,3,4,5,6,7,8,9,10,11,12,13,14,15,16,17,18,19] [] [0,3,5,6,7,9] ([0,1,3]) hX Zj .nil (jh hX Zj) ?_)
     refine Q5 (Q9 (jL 6 [0,1,2,3,4,5] [] [0,3,5,6,7,9,60] ([0,1]) hX Zj .nil (Q8.call [] rfl Z3 rfl Zk Z8 (by apply Q1x<;>exact Z0) Q1y Z3 Z3 Zk (jh hX Zj)) ?_))
     refine jd (fun h5=> ?_) (fun h5=> ?_)
     ·try simp at h5
      refine Q0 [4] (jh hX Zj) ?_
      refine Q4 (Qq Zj Z17 (.of_eq ?_) ?_)
      all_goals clear hX
      ·skip
       simp_all[spI,Qcg,Qm,Q6j,Q6k]
      ·skip
       simp_all[spI,Qcg,Qm,Q6j,Q6k]
     ·try simp at h5
      refine Q0 [0,3,5,6,7,9,69] (jh hX Zj) ?_
      refine jd (fun h7=> ?_) (fun h7=> ?_)
      ·try simp at h7
       refine Q0 [4] (jh hX Zj) ?_
       refine Q4 (Qq Zj Z17 (.of_eq ?_) ?_)
       all_goals clear hX
       ·skip
        simp_all[spI,Qcg,Qm,Q6j,Q6k]
       ·skip
        simp_all[spI,Qcg,Qm,Q6j,Q6k]
      ·try simp at h7
       first|(refine jT 23 (Q20 [0] (.alt 1 (Q20 [2,3,4,6] (.alt 5 (.alt 7 (Q20 [8,9,10,11,12,13,14,15,16,17,18,19] (.alt 20 (Q20 [21] (.alt 22 .tail .stop)) (.alt 22 (.alt 20 (Q20 [21] .tail) .stop) .stop))) .stop) (.alt 7 (.alt 5 (Q20 [8,9,10,11,12,13,14,15,16,17,18,19] (.alt 20 (Q20 [21] (.alt 22 .tail .stop)) (.alt 22 (.alt 20 (Q20 [21] .tail) .stop) .stop))) .stop) .stop))) .stop)) [0,6,9,75] [] hX (jTp [0] _ Z1m (jTa 1 (p:=fun X hX=>(jh hX Zj)) (k:=(jTp [2,3,4,6] _ Z1m (jTa 5 (p:=fun X hX=>(jh hX Zj)) (k:=(jTa 7 (p:=fun X hX=>(jh hX Zj)) (k:=(jTp [8,9,10,11,12,13,14,15,16,17,18,19] _ Z1m (jTa 20 (p:=fun X hX=>(jh hX Zj)) (k:=(jTp [21] _ Z1m (jTa 22 (p:=fun X hX=>(jh hX Zj)) (k:=.tail) (kr:=.stop)))) (kr:=(jTa 22 (p:=fun X hX=>(jh hX Zj)) (k:=(jTa 20 (p:=fun X hX=>(jh hX Zj)) (k:=(jTp [21] _ Z1m .tail)) (kr:=.stop))) (kr:=.stop)))))) (kr:=.stop))) (kr:=(jTa 7 (p:=fun X hX=>(jh hX Zj)) (k:=(jTa 5 (p:=fun X hX=>(jh hX Zj)) (k:=(jTp [8,9,10,11,12,13,14,15,16,17,18,19] _ Z1m (jTa 20 (p:=fun X hX=>(jh hX Zj)) (k:=(jTp [21] _ Z1m (jTa 22 (p:=fun X hX=>(jh hX Zj)) (k:=.tail) (kr:=.stop)))) (kr:=(jTa 22 (p:=fun X hX=>(jh hX Zj)) (k:=(jTa 20 (p:=fun X hX=>(jh hX Zj)) (k:=(jTp [21] _ Z1m .tail)) (kr:=.stop))) (kr:=.stop)))))) (kr:=.stop))) (kr:=.stop)))))) (kr:=.stop))) (Q8.callB rfl Z3 rfl Zk Zc Q2v Z3 Zk (jh hX Zj)) ?_)|(refine jT 23 (Q20 [0] (.alt 1 (Q20 [2,3,4,6] (.alt 5 (.alt 7 (Q20 [8,9,10,11,12,13,14,15,16,17,18,19,20,21,22] .tail) .stop) (.alt 7 (.alt 5 (Q20 [8,9,10,11,12,13,14,15,16,17,18,19,20,21,22] .tail) .stop) .stop))) .stop)) [0,6,9,75] [] hX (jTp [0] _ Z1m (jTa 1 (p:=fun X hX=>(jh hX Zj)) (k:=(jTp [2,3,4,6] _ Z1m (jTa 5 (p:=fun X hX=>(jh hX Zj)) (k:=(jTa 7 (p:=fun X hX=>(jh hX Zj)) (k:=(jTp [8,9,10,11,12,13,14,15,16,17,18,19,20,21,22] _ Z1m .tail)) (kr:=.stop))) (kr:=(jTa 7 (p:=fun X hX=>(jh hX Zj)) (k:=(jTa 5 (p:=fun X hX=>(jh hX Zj)) (k:=(jTp [8,9,10,11,12,13,14,15,16,17,18,19,20,21,22] _ Z1m .tail)) (kr:=.stop))) (kr:=.stop)))))) (kr:=.stop))) (jh hX Zj) ?_)|(refine jT 23 (Q20 [0] (.alt 1 (Q20 [2,3,4,5,6,7,8,9,10,11,12,13,14,15,16,17,18,19] (.alt 20 (Q20 [21] (.alt 22 .tail .stop)) (.alt 22 (.alt 20 (Q20 [21] .tail) .stop) .stop))) .stop)) [0,6,9,75] [] hX (jTp [0] _ Z1m (jTa 1 (p:=fun X hX=>(jh hX Zj)) (k:=(jTp [2,3,4,5,6,7,8,9,10,11,12,13,14,15,16,17,18,19] _ Z1m (jTa 20 (p:=fun X hX=>(jh hX Zj)) (k:=(jTp [21] _ Z1m (jTa 22 (p:=fun X hX=>(jh hX Zj)) (k:=.tail) (kr:=.stop)))) (kr:=(jTa 22 (p:=fun X hX=>(jh hX Zj)) (k:=(jTa 20 (p:=fun X hX=>(jh hX Zj)) (k:=(jTp [21] _ Z1m .tail)) (kr:=.stop))) (kr:=.stop)))))) (kr:=.stop))) (Q8.callB rfl Z3 rfl Zk Zc Q2v Z3 Zk (jh hX Zj)) ?_)|(refine jT 23 (Q20 [0] (.alt 1 (Q20 [2,3,4,5,6,7,8,9,10,11,12,13,14,15,16,17,18,19,20,21,22] .tail) .stop)) [0,6,9,75] [] hX (jTp [0] _ Z1m (jTa 1 (p:=fun X hX=>(jh hX Zj)) (k:=(jTp [2,3,4,5,6,7,8,9,10,11,12,13,14,15,16,17,18,19,20,21,22] _ Z1m .tail)) (kr:=.stop))) (jh hX Zj) ?_)
       refine jd (fun h9=> ?_) (fun h9=> ?_)
       ·try simp at h9
        all_goals
         refine Q0 [4] (jh hX Zj) ?_
         refine Q4 (Qq Zj Z17 (.of_eq ?_) ?_)
         all_goals clear hX
         ·skip
          simp_all[spI,Qcg,Qm,Q6j,Q6k]
         ·skip
          simp_all[spI,Qcg,Qm,Q6j,Q6k]
       ·try simp at h9
        all_goals
         refine Q3 (Q5 (Q0 [0,6,102] (jh hX Zj) ?_))
         refine jd (fun h11=> ?_) (fun h11=> ?_)
         ·try simp at h11
          all_goals
           refine Q2q (n:=8) (A:=[0,1,2,3,4,5,6]) (B:=[7]) (L:=[0,3]) hmo (by kernel_rfl) tok hX Zj (jH (p:=fun X hX=>(Q8.call [] rfl Z3 rfl Zk Z8 (by apply Q6l<;>exact Z0) Q6n Z3 Z3 Zk jf)) (k:=.nil)) (Q8.call [0] rfl Z3 rfl Zk Z8 (by apply (Q9m (a:=tk[0]) (b:=Qy F.c.name))<;>exact Z0) Q9s Z3 Z3 Zk jf) ?_
           refine Q0 [4] (jh hX Zj) ?_
           refine Q4 (Qq Zj Z17 (.of_eq ?_) ?_)
           all_goals clear hX
           ·skip
            simp_all[spI,Qcg,Qm,Q6j,Q6k]
           ·skip
            simp_all[spI,Qcg,Qm,Q6j,Q6k]
         ·try simp at h11
          all_goals
           refine Q2q (n:=5) (A:=[0,1,2,3]) (B:=[4]) (L:=[3]) hmo (by kernel_rfl) tok hX Zj (jH (p:=fun X hX=>(Q8.call [] rfl Z3 rfl Zk Z8 (by apply Q6l<;>exact Z0) Q6n Z3 Z3 Zk jf)) (k:=.nil)) (Q8.call [0] rfl Z3 rfl Zk Z8 (by apply (Q9m (a:=tk[0]) (b:=Qy tk[0].c))<;>exact Z0) Q9s Z3 Z3 Zk jf) ?_
           refine Q0 [4] (jh hX Zj) ?_
           refine Q4 (Qq Zj Z17 (.of_eq ?_) ?_)
           all_goals clear hX
           ·skip
            simp_all[spI,Qcg,Qm,Q6j,Q6k]
           ·skip
            simp_all[spI,Qcg,Qm,Q6j,Q6k]
  ·try simp at h3
   all_goals
    refine Q3 (Q5 (Q9 (jL 7 [0,1,2,3,4,5,6] [] [0,5,6,7,8,118] ([0,1]) hX Zk .nil (jh hX Zk) ?_)))
    refine jd (fun h15=> ?_) (fun h15=> ?_)
    ·try simp at h15
     refine Q0 [4] (jh hX Zk) ?_
     refine Q4 (Qq Zk Z17 (.of_eq ?_) ?_)
     all_goals clear hX
     ·skip
      simp_all[spI,Qcg,Qm,Q6j,Q6k]
     ·skip
      simp_all[spI,Qcg,Qm,Q6j,Q6k]
    ·try simp at h15
     refine Q0 [0,5,6,7,8,127] (jh hX Zk) ?_
     refine jd (fun h17=> ?_) (fun h17=> ?_)
     ·try simp at h17
      refine Q0 [4] (jh hX Zk) ?_
      refine Q4 (Qq Zk Z17 (.of_eq ?_) ?_)
      all_goals clear hX
      ·skip
       simp_all[spI,Qcg,Qm,Q6j,Q6k]
      ·skip
       simp_all[spI,Qcg,Qm,Q6j,Q6k]
     ·try simp at h17
      refine Q0 [0,5,6,133] (js hX 3 Zk (jm 3 136 [0,5,6,139] (p:=by intro b;(try simp at b);exact (jh hX (by simp[-Qc,-Qb,hk,hk1,d2,en];rfl))) (q:=by intro b;(try simp at b);exact (jh hX (by simp[-Qc,-Qb,hk,hk1,d2,en];rfl))) (k:=(js hX 1 Zk (jm 6 140 [0,5,6,146] (p:=by intro b;(try simp at b);exact (jh hX (by simp[-Qc,-Qb,hk,hk1,d2,en];rfl))) (q:=by intro b;(try simp at b);exact (jh hX (by simp[-Qc,-Qb,hk,hk1,d2,en];rfl))) (k:=(jh hX Zk))))))) ?_
      refine jd (fun h19=> ?_) (fun h19=> ?_)
      ·try simp at h19
       refine Q0 [4] (jh hX Zk) ?_
       refine Q4 (Qq Zk Z17 (.of_eq ?_) ?_)
       all_goals clear hX
       ·skip
        simp_all[spI,Qcg,Qm,Q6j,Q6k]
       ·skip
        simp_all[spI,Qcg,Qm,Q6j,Q6k]
      ·try simp at h19
       obtain ⟨bL,hL⟩: ∃b,leI F.l (tk[0]'hk) (Qy F.c.name)=b:=⟨_,rfl⟩
       cases bL
       all_goals
        first|(refine jT 17 (Q20 [0,2,3,4,5] (.alt 1 (.alt 6 (.alt 7 (Q20 [8,9,10,11,12,13,14,15,16] .tail) .stop) .stop) (.alt 6 (.alt 1 (.alt 7 (Q20 [8,9,10,11,12,13,14,15,16] .tail) .stop) .stop) .stop))) [0,5,147] [] hX (jTp [0,2,3,4,5] _ (by simp[hL,hk,hk1,d2,en];try rfl) (jTa 1 (p:=fun X hX=>(jh hX Z25)) (k:=(jTa 6 (p:=fun X hX=>(jh hX Z25)) (k:=(jTa 7 (p:=fun X hX=>(Q8.callB rfl Z3 rfl Zk Zw Qv Z3 Zk jf)) (k:=(jTp [8,9,10,11,12,13,14,15,16] _ (by simp[hL,hk,hk1,d2,en];try rfl) .tail)) (kr:=.stop))) (kr:=.stop))) (kr:=(jTa 6 (p:=fun X hX=>(jh hX Z25)) (k:=(jTa 1 (p:=fun X hX=>(jh hX Z25)) (k:=(jTa 7 (p:=fun X hX=>(Q8.callB rfl Z3 rfl Zk Zw Qv Z3 Zk jf)) (k:=(jTp [8,9,10,11,12,13,14,15,16] _ (by simp[hL,hk,hk1,d2,en];try rfl) .tail)) (kr:=.stop))) (kr:=.stop))) (kr:=.stop))))) (jh hX Z25) ?_)|(refine jT 17 (Q20 [0,2,3,4,5] (.alt 1 (.alt 6 (.alt 7 (Q20 [8,9,10,11,12,13] (.alt 14 (Q20 [15] (.alt 16 .tail .stop)) (.alt 16 (.alt 14 (Q20 [15] .tail) .stop) .stop))) .stop) .stop) (.alt 6 (.alt 1 (.alt 7 (Q20 [8,9,10,11,12,13] (.alt 14 (Q20 [15] (.alt 16 .tail .stop)) (.alt 16 (.alt 14 (Q20 [15] .tail) .stop) .stop))) .stop) .stop) .stop))) [0,5,147] [] hX (jTp [0,2,3,4,5] _ (by simp[hL,hk,hk1,d2,en];try rfl) (jTa 1 (p:=fun X hX=>(jh hX Z25)) (k:=(jTa 6 (p:=fun X hX=>(jh hX Z25)) (k:=(jTa 7 (p:=fun X hX=>(Q8.callB rfl Z3 rfl Zk Zw Qv Z3 Zk jf)) (k:=(jTp [8,9,10,11,12,13] _ (by simp[hL,hk,hk1,d2,en];try rfl) (jTa 14 (p:=fun X hX=>(jh hX Z25)) (k:=(jTp [15] _ (by simp[hL,hk,hk1,d2,en];try rfl) (jTa 16 (p:=fun X hX=>(jh hX Z25)) (k:=.tail) (kr:=.stop)))) (kr:=(jTa 16 (p:=fun X hX=>(jh hX Z25)) (k:=(jTa 14 (p:=fun X hX=>(jh hX Z25)) (k:=(jTp [15] _ (by simp[hL,hk,hk1,d2,en];try rfl) .tail)) (kr:=.stop))) (kr:=.stop)))))) (kr:=.stop))) (kr:=.stop))) (kr:=(jTa 6 (p:=fun X hX=>(jh hX Z25)) (k:=(jTa 1 (p:=fun X hX=>(jh hX Z25)) (k:=(jTa 7 (p:=fun X hX=>(Q8.callB rfl Z3 rfl Zk Zw Qv Z3 Zk jf)) (k:=(jTp [8,9,10,11,12,13] _ (by simp[hL,hk,hk1,d2,en];try rfl) (jTa 14 (p:=fun X hX=>(jh hX Z25)) (k:=(jTp [15] _ (by simp[hL,hk,hk1,d2,en];try rfl) (jTa 16 (p:=fun X hX=>(jh hX Z25)) (k:=.tail) (kr:=.stop)))) (kr:=(jTa 16 (p:=fun X hX=>(jh hX Z25)) (k:=(jTa 14 (p:=fun X hX=>(jh hX Z25)) (k:=(jTp [15] _ (by simp[hL,hk,hk1,d2,en];try rfl) .tail)) (kr:=.stop))) (kr:=.stop)))))) (kr:=.stop))) (kr:=.stop))) (kr:=.stop))))) (Q8.callB rfl Z3 rfl Zk Zc Q2v Z3 Zk (jh hX Z25)) ?_)
        refine jd (fun h21=> ?_) (fun h21=> ?_)
        ·try simp at h21
         all_goals
          refine Q0 [4] (jh hX Z25) ?_
          refine Q4 (Qq Z25 Z17 (.of_eq ?_) ?_)
          all_goals clear hX
          ·skip
           simp_all[spI,Qcg,Qm,Q6j,Q6k]
          ·skip
           simp_all[spI,Qcg,Qm,Q6j,Q6k]
        ·try simp at h21
         all_goals
          refine Q3 (Q0 [4] (js hX 2 Z25 (Q8.call [0] rfl Z3 rfl Zk Z8 (by apply Q81<;>exact Z0) Q86 Z3 Z3 Zk (jh hX Z25))) ?_)
          refine Q4 (Qq Z25 Z17 (.of_eq ?_) ?_)
          all_goals clear hX
          ·skip
           simp_all[spI,Qcg,Qm,Q6j,Q6k]
          ·skip
           simp_all[spI,Qcg,Qm,Q6j,Q6k]
end Go.Proofs
namespace Go.Proofs
open Go Go.Ev
theorem Qmo:Q6 Tryz.prog 187:=jcb Tryz.func187
theorem Qm5{F:SF}{st lo tk:List Typ}(hs:st.length≤1000)(hs2:lo.length≤1000)(ht:tk.length≤1000)(hl:F.l.length≤1048576)(h9:Qx F.l=true)(hz:Q1r F.l≤1048576)(hd:F.i.desc.length≤1099511627776)(hop:F.i.op=36∨F.i.op=37)(kl:tk.length=(Q1g F.i.desc).params.length+(if F.i.op=37 then 0 else 1)):Ct Tryz.prog 187 [.ptr 0 0 0,eI F.i] [some (20,[oFl F st lo tk])] (.int .i64 (clI F st lo tk).k) [some (20,[oFl F ((clI F st lo tk).st) ((clI F st lo tk).lo) tk])]:=by
 have hdr:=Nat.le_trans (Q8v F.i.desc).1 hd
 have hdl:=Qrr F.i.desc
 have hdp: ∀p∈(Q1g F.i.desc).params,p.length≤1099511627776:=fun p hp=>Nat.le_trans ((Q8v F.i.desc).2 p hp) hd
 rcases (by omega:F.i.op=36∨F.i.op=37) with h|h
 all_goals first|have e36:(F.i.op=36)=(true=true):=by simp[h]|have e36:(F.i.op=36)=(false=true):=by simp[h]
 all_goals first|have e37:(F.i.op=37)=(true=true):=by simp[h]|have e37:(F.i.op=37)=(false=true):=by simp[h]
 all_goals first|have hk:0<tk.length:=by (simp[h] at kl;omega)|have hk:=trivial
 all_goals simp[h] at kl
 all_goals clear h
 all_goals first|have hk1:1≤tk.length:=by omega|have hk1:=trivial
 all_goals have d2:List.take tk.length (tk.map eT)=tk.map eT:=List.take_of_length_le Z3
 all_goals by_cases hn:F.i.name=[60,105,110,105,116,62]
 all_goals first|have en:(F.i.name=[60,105,110,105,116,62])=(true=true):=by simp[hn]|have en:(F.i.name=[60,105,110,105,116,62])=(false=true):=by simp[hn]
 all_goals clear hn
 all_goals
  refine jbS Tryz.func187 92 fun X hX=> ?_
  refine Q0 [0,3] (jh hX Zh) ?_
  refine jT 9 (Q20 [0,1,4,5,6] (.alt 2 (Q20 [3] (.alt 7 (.alt 8 .tail .stop) .stop)) (.alt 7 (.alt 2 (Q20 [3] (.alt 8 .tail .stop)) .stop) .stop))) [0,3,5,6] [0,1] hX (jTp [0,1,4,5,6] _ Z1f (jTa 2 (p:=fun X hX=>(Q8.callF rfl Z3 rfl Zh (by apply Q2e<;>exact Z0) Q2g (by (try simp[e36,e37,hk,hk1,d2,en]);rfl) jf)) (k:=(jTp [3] _ Z1f (jTa 7 (p:=fun X hX=>(jh hX Zh)) (k:=(jTa 8 (p:=fun X hX=>(jh hX Zh)) (k:=.tail) (kr:=.stop))) (kr:=.stop)))) (kr:=(jTa 7 (p:=fun X hX=>(jh hX Zh)) (k:=(jTa 2 (p:=fun X hX=>(Q8.callF rfl Z3 rfl Zh (by apply Q2e<;>exact Z0) Q2g (by (try simp[e36,e37,hk,hk1,d2,en]);rfl) jf)) (k:=(jTp [3] _ Z1f (jTa 8 (p:=fun X hX=>(jh hX Zh)) (k:=.tail) (kr:=.stop)))) (kr:=.stop))) (kr:=.stop))))) (jh hX Zh) ?_
  refine Q5 (Q9 (Q0 [0,3,5,6,17] (jh hX Zh) ?_))
  refine jd (fun h2=> ?_) (fun h2=> ?_)
  ·try simp at h2
   all_goals
    refine Q0 [4] (jh hX Zh) ?_
    refine Q4 (Qq Zh Z17 (.of_eq ?_) ?_)
    all_goals clear hX
    ·skip
     simp_all[clI,Qcj,Qm]
    ·skip
     simp_all[clI,Qcj,Qm]
  ·try simp at h2
   all_goals
    refine jL 6 [0,1,2,3,4,5] [] [0,3,5,6,21] ([0,1]) hX Zh .nil (Q8.call [] rfl Z3 rfl Zh Z8 (by apply Q1x<;>exact Z0) Q1y Z3 Z3 Zh (jh hX Zh)) ?_
    refine jd (fun h4=> ?_) (fun h4=> ?_)
    ·try simp at h4
     refine Q0 [4] (jh hX Zh) ?_
     refine Q4 (Qq Zh Z17 (.of_eq ?_) ?_)
     all_goals clear hX
     ·skip
      simp_all[clI,Qcj,Qm]
     ·skip
      simp_all[clI,Qcj,Qm]
    ·try simp at h4
     refine Q3 (jT 17 (Q20 [0,1,2,3,4,5,6,7,8,9] (.alt 10 (Q20 [11,12,13] (.alt 14 (.alt 15 (.alt 16 .tail .stop) .stop) (.alt 15 (.alt 14 (.alt 16 .tail .stop) .stop) .stop))) (.alt 14 (.alt 10 (Q20 [11,12,13] (.alt 15 (.alt 16 .tail .stop) .stop)) (.alt 15 (.alt 10 (Q20 [11,12,13] (.alt 16 .tail .stop)) .stop) .stop)) (.alt 15 (.alt 10 (Q20 [11,12,13] (.alt 14 (.alt 16 .tail .stop) .stop)) (.alt 14 (.alt 10 (Q20 [11,12,13] (.alt 16 .tail .stop)) .stop) .stop)) .stop)))) [0,3,5,6,7,8] [0,1] hX (jTp [0,1,2,3,4,5,6,7,8,9] _ Z1f (jTa 10 (p:=fun X hX=>(Q8.callF rfl Z3 rfl Zh Z1o Q1l (by (try simp[e36,e37,hk,hk1,d2,en]);rfl) jf)) (k:=(jTp [11,12,13] _ Z1f (jTa 14 (p:=fun X hX=>(jh hX Zh)) (k:=(jTa 15 (p:=fun X hX=>(jh hX Zh)) (k:=(jTa 16 (p:=fun X hX=>(jh hX Zh)) (k:=.tail) (kr:=.stop))) (kr:=.stop))) (kr:=(jTa 15 (p:=fun X hX=>(jh hX Zh)) (k:=(jTa 14 (p:=fun X hX=>(jh hX Zh)) (k:=(jTa 16 (p:=fun X hX=>(jh hX Zh)) (k:=(jTw 3 4 (by simp[];try rfl) .tail)) (kr:=.stop))) (kr:=.stop))) (kr:=.stop)))))) (kr:=(jTa 14 (p:=fun X hX=>(jh hX Zh)) (k:=(jTa 10 (p:=fun X hX=>(Q8.callF rfl Z3 rfl Zh Z1o Q1l (by (try simp[e36,e37,hk,hk1,d2,en]);rfl) jf)) (k:=(jTp [11,12,13] _ Z1f (jTa 15 (p:=fun X hX=>(jh hX Zh)) (k:=(jTa 16 (p:=fun X hX=>(jh hX Zh)) (k:=.tail) (kr:=.stop))) (kr:=.stop)))) (kr:=(jTa 15 (p:=fun X hX=>(jh hX Zh)) (k:=(jTa 10 (p:=fun X hX=>(Q8.callF rfl Z3 rfl Zh Z1o Q1l (by (try simp[e36,e37,hk,hk1,d2,en]);rfl) jf)) (k:=(jTp [11,12,13] _ Z1f (jTa 16 (p:=fun X hX=>(jh hX Zh)) (k:=.tail) (kr:=.stop)))) (kr:=.stop))) (kr:=.stop))))) (kr:=(jTa 15 (p:=fun X hX=>(jh hX Zh)) (k:=(jTa 10 (p:=fun X hX=>(Q8.callF rfl Z3 rfl Zh Z1o Q1l (by (try simp[e36,e37,hk,hk1,d2,en]);rfl) jf)) (k:=(jTp [11,12,13] _ Z1f (jTa 14 (p:=fun X hX=>(jh hX Zh)) (k:=(jTa 16 (p:=fun X hX=>(jh hX Zh)) (k:=(jTw 3 4 (by simp[];try rfl) .tail)) (kr:=.stop))) (kr:=.stop)))) (kr:=(jTa 14 (p:=fun X hX=>(jh hX Zh)) (k:=(jTa 10 (p:=fun X hX=>(Q8.callF rfl Z3 rfl Zh Z1o Q1l (by (try simp[e36,e37,hk,hk1,d2,en]);rfl) jf)) (k:=(jTp [11,12,13] _ Z1f (jTa 16 (p:=fun X hX=>(jh hX Zh)) (k:=(jTw 3 4 (by simp[];try rfl) .tail)) (kr:=.stop)))) (kr:=.stop))) (kr:=.stop))))) (kr:=.stop))))))) (jh hX Zh) ?_)
     refine Q0 [0,3,5,6,7,8,9] (jh hX Zh) ?_
     refine Q5 (Q0 [0,3,5,6,7,8,9,49] (jh hX Zh) ?_)
     refine jd (fun h8=> ?_) (fun h8=> ?_)
     ·try simp at h8
      all_goals
       refine Qd (jh hX Zh) ?_
       refine Q5 (Q9 (Q0 [0,3,5,6,7,8,9,55] (jh hX Zh) ?_))
       refine jd (fun h10=> ?_) (fun h10=> ?_)
       ·try simp at h10
        refine Q0 [4] (jh hX Zh) ?_
        refine Q4 (Qq Zh Z17 (.of_eq ?_) ?_)
        all_goals clear hX
        ·skip
         simp_all[clI,Qcj,Qm]
        ·skip
         simp_all[clI,Qcj,Qm]
       ·try simp at h10
        refine Q0 [0,3,5,6,9,61] (jh hX Zh) ?_
        refine jd (fun h12=> ?_) (fun h12=> ?_)
        ·try simp at h12
         refine Q0 [4] (jh hX Zh) ?_
         refine Q4 (Qq Zh Z17 (.of_eq ?_) ?_)
         all_goals clear hX
         ·skip
          simp_all[clI,Qcj,Qm]
         ·skip
          simp_all[clI,Qcj,Qm]
        ·try simp at h12
         first|(have hq:0<tk.length:=hk;obtain ⟨bL,hL⟩: ∃b,leI F.l (tk[0]'hq) (Qy F.i.cls)=b:=⟨_,rfl⟩)|obtain ⟨bL,hL⟩: ∃b:Bool,True:=⟨true,trivial⟩
         cases bL
         all_goals
          first|(refine jV 19 (.pur 0 (.pur 1 (.pur 2 (.pur 3 (.pur 4 (.pur 5 (.pur 6 (.pur 10 (.two 7 11 (.pur 8 (.two 9 11 (.one 11 (.one 12 (.pur 13 (.pur 14 (.pur 15 (.pur 16 (.pur 17 (.one 18 .tail)))))))) (.one 9 (.one 12 (.pur 13 (.pur 14 (.pur 15 (.pur 16 (.pur 17 (.one 18 .tail)))))))))) (.one 7 (.pur 8 (.one 9 (.one 12 (.pur 13 (.pur 14 (.pur 15 (.pur 16 (.pur 17 (.one 18 .tail))))))))))))))))))) [0,5,66] hX (jVp Z9 (jVp Z9 (jVp Z9 (jVp Z9 (jVp Z9 (jVp Z9 (jVp Z9 (jVp Z9 (jVt (jVo (p:=fun X hX=>(jh hX Z9)) (k:=(jVp Z9 (jVt (jVo (p:=fun X hX=>(jh hX Z9)) (k:=(jVo (p:=fun X hX=>(jh hX Z9)) (k:=(jVo (p:=fun X hX=>(Q8.callB rfl Z3 rfl Zh Zw Qv Z3 Zh jf)) (k:=(jVp Z9 (jVp Z9 (jVp Z9 (jVp Z9 (jVp Z9 (jVo (p:=fun X hX=>(jh hX Z9)) (k:=.tail))))))))))))) (jVo (p:=fun X hX=>(jh hX Zg)) (k:=(jVo (p:=fun X hX=>(jh hX Zg)) (k:=(jVo (p:=fun X hX=>(Q8.callB rfl Z3 rfl Z1f Zw Qv Z3 Z1f jf)) (k:=(jVp Zg (jVp Zg (jVp Zg (jVp Zg (jVp Zg (jVo (p:=fun X hX=>(jh hX Zg)) (k:=.tail))))))))))))))))) (jVo (p:=fun X hX=>(jh hX Zg)) (k:=(jVo (p:=fun X hX=>(jh hX Zg)) (k:=(jVp Zg (jVo (p:=fun X hX=>(jh hX Zg)) (k:=(jVo (p:=fun X hX=>(Q8.callB rfl Z3 rfl Z1f Zw Qv Z3 Z1f jf)) (k:=(jVp Zg (jVp Zg (jVp Zg (jVp Zg (jVp Zg (jVo (p:=fun X hX=>(jh hX Zg)) (k:=.tail))))))))))))))))))))))))) (Q8.callB rfl Z3 rfl Zh Zc Q2v Z3 Zh (jh hX Z9)) ?_)|(refine jV 19 (.pur 0 (.pur 1 (.pur 2 (.pur 3 (.pur 4 (.pur 5 (.pur 6 (.pur 10 (.two 7 11 (.pur 8 (.two 9 11 (.one 11 (.one 12 (.pur 13 (.pur 14 (.pur 15 (.pur 16 (.pur 17 (.pur 18 .tail)))))))) (.one 9 (.one 12 (.pur 13 (.pur 14 (.pur 15 (.pur 16 (.pur 17 (.pur 18 .tail)))))))))) (.one 7 (.pur 8 (.one 9 (.one 12 (.pur 13 (.pur 14 (.pur 15 (.pur 16 (.pur 17 (.pur 18 .tail))))))))))))))))))) [0,5,66] hX (jVp Z9 (jVp Z9 (jVp Z9 (jVp Z9 (jVp Z9 (jVp Z9 (jVp Z9 (jVp Z9 (jVt (jVo (p:=fun X hX=>(jh hX Z9)) (k:=(jVp Z9 (jVt (jVo (p:=fun X hX=>(jh hX Z9)) (k:=(jVo (p:=fun X hX=>(jh hX Z9)) (k:=(jVo (p:=fun X hX=>(Q8.callB rfl Z3 rfl Zh Zw Qv Z3 Zh jf)) (k:=(jVp Z9 (jVp Z9 (jVp Z9 (jVp Z9 (jVp Z9 (jVp Z9 .tail)))))))))))) (jVo (p:=fun X hX=>(jh hX Zg)) (k:=(jVo (p:=fun X hX=>(jh hX Zg)) (k:=(jVo (p:=fun X hX=>(Q8.callB rfl Z3 rfl Z1f Zw Qv Z3 Z1f jf)) (k:=(jVp Zg (jVp Zg (jVp Zg (jVp Zg (jVp Zg (jVp Zg .tail)))))))))))))))) (jVo (p:=fun X hX=>(jh hX Zg)) (k:=(jVo (p:=fun X hX=>(jh hX Zg)) (k:=(jVp Zg (jVo (p:=fun X hX=>(jh hX Zg)) (k:=(jVo (p:=fun X hX=>(Q8.callB rfl Z3 rfl Z1f Zw Qv Z3 Z1f jf)) (k:=(jVp Zg (jVp Zg (jVp Zg (jVp Zg (jVp Zg (jVp Zg .tail)))))))))))))))))))))))) (jh hX Z9) ?_)|(refine jV 19 (.pur 0 (.pur 1 (.pur 2 (.pur 3 (.pur 4 (.pur 5 (.pur 6 (.pur 7 (.pur 8 (.pur 9 (.pur 10 (.pur 11 (.pur 12 (.pur 13 (.pur 14 (.pur 15 (.pur 16 (.pur 17 (.one 18 .tail))))))))))))))))))) [0,5,66] hX (jVp Z9 (jVp Z9 (jVp Z9 (jVp Z9 (jVp Z9 (jVp Z9 (jVp Z9 (jVp Z9 (jVp Z9 (jVp Z9 (jVp Z9 (jVp Z9 (jVp Z9 (jVp Z9 (jVp Z9 (jVp Z9 (jVp Z9 (jVp Z9 (jVo (p:=fun X hX=>(jh hX Z9)) (k:=.tail)))))))))))))))))))) (Q8.callB rfl Z3 rfl Zh Zc Q2v Z3 Zh (jh hX Z9)) ?_)
          refine jd (fun h14=> ?_) (fun h14=> ?_)
          ·try simp at h14
           all_goals
            refine Q0 [4] (jh hX Z9) ?_
            refine Q4 (Qq Z9 Z17 (.of_eq ?_) ?_)
            all_goals clear hX
            ·skip
             simp_all[clI,Qcj,Qm]
            ·skip
             simp_all[clI,Qcj,Qm]
          ·try simp at h14
           all_goals
            refine Q3 (Q0 [4] (js hX 2 Z9 (Q8.call [0] rfl Z3 rfl Zh Z8 (by apply Q81<;>exact Z0) Q86 Z3 Z3 Zh (jh hX Z9))) ?_)
            refine Q4 (Qq Z9 Z17 (.of_eq ?_) ?_)
            all_goals clear hX
            ·skip
             simp_all[clI,Qcj,Qm]
            ·skip
             simp_all[clI,Qcj,Qm]
     ·try simp at h8
      all_goals
       refine Q3 (Q5 (Q9 (Q0 [0,3,5,6,7,8,9,55] (jh hX Zh) ?_)))
       refine jd (fun h10=> ?_) (fun h10=> ?_)
       ·try simp at h10
        refine Q0 [4] (jh hX Zh) ?_
        refine Q4 (Qq Zh Z17 (.of_eq ?_) ?_)
        all_goals clear hX
        ·skip
         simp_all[clI,Qcj,Qm]
        ·skip
         simp_all[clI,Qcj,Qm]
       ·try simp at h10
        refine Q0 [0,3,5,6,9,61] (jh hX Zh) ?_
        refine jd (fun h12=> ?_) (fun h12=> ?_)
        ·try simp at h12
         refine Q0 [4] (jh hX Zh) ?_
         refine Q4 (Qq Zh Z17 (.of_eq ?_) ?_)
         all_goals clear hX
         ·skip
          simp_all[clI,Qcj,Qm]
         ·skip
          simp_all[clI,Qcj,Qm]
        ·try simp at h12
         first|(have hq:0<tk.length:=hk;obtain ⟨bL,hL⟩: ∃b,leI F.l (tk[0]'hq) (Qy F.i.cls)=b:=⟨_,rfl⟩)|obtain ⟨bL,hL⟩: ∃b:Bool,True:=⟨true,trivial⟩
         cases bL
         all_goals
          first|(refine jV 19 (.pur 0 (.pur 1 (.pur 2 (.pur 3 (.pur 4 (.pur 5 (.pur 6 (.pur 10 (.two 7 11 (.pur 8 (.two 9 11 (.one 11 (.one 12 (.pur 13 (.pur 14 (.pur 15 (.pur 16 (.pur 17 (.one 18 .tail)))))))) (.one 9 (.one 12 (.pur 13 (.pur 14 (.pur 15 (.pur 16 (.pur 17 (.one 18 .tail)))))))))) (.one 7 (.pur 8 (.one 9 (.one 12 (.pur 13 (.pur 14 (.pur 15 (.pur 16 (.pur 17 (.one 18 .tail))))))))))))))))))) [0,5,66] hX (jVp Z9 (jVp Z9 (jVp Z9 (jVp Z9 (jVp Z9 (jVp Z9 (jVp Z9 (jVp Z9 (jVt (jVo (p:=fun X hX=>(jh hX Z9)) (k:=(jVp Z9 (jVt (jVo (p:=fun X hX=>(jh hX Z9)) (k:=(jVo (p:=fun X hX=>(jh hX Z9)) (k:=(jVo (p:=fun X hX=>(Q8.callB rfl Z3 rfl Zh Zw Qv Z3 Zh jf)) (k:=(jVp Z9 (jVp Z9 (jVp Z9 (jVp Z9 (jVp Z9 (jVo (p:=fun X hX=>(jh hX Z9)) (k:=.tail))))))))))))) (jVo (p:=fun X hX=>(jh hX Zg)) (k:=(jVo (p:=fun X hX=>(jh hX Zg)) (k:=(jVo (p:=fun X hX=>(Q8.callB rfl Z3 rfl Z1f Zw Qv Z3 Z1f jf)) (k:=(jVp Zg (jVp Zg (jVp Zg (jVp Zg (jVp Zg (jVo (p:=fun X hX=>(jh hX Zg)) (k:=.tail))))))))))))))))) (jVo (p:=fun X hX=>(jh hX Zg)) (k:=(jVo (p:=fun X hX=>(jh hX Zg)) (k:=(jVp Zg (jVo (p:=fun X hX=>(jh hX Zg)) (k:=(jVo (p:=fun X hX=>(Q8.callB rfl Z3 rfl Z1f Zw Qv Z3 Z1f jf)) (k:=(jVp Zg (jVp Zg (jVp Zg (jVp Zg (jVp Zg (jVo (p:=fun X hX=>(jh hX Zg)) (k:=.tail))))))))))))))))))))))))) (Q8.callB rfl Z3 rfl Zh Zc Q2v Z3 Zh (jh hX Z9)) ?_)|(refine jV 19 (.pur 0 (.pur 1 (.pur 2 (.pur 3 (.pur 4 (.pur 5 (.pur 6 (.pur 10 (.two 7 11 (.pur 8 (.two 9 11 (.one 11 (.one 12 (.pur 13 (.pur 14 (.pur 15 (.pur 16 (.pur 17 (.pur 18 .tail)))))))) (.one 9 (.one 12 (.pur 13 (.pur 14 (.pur 15 (.pur 16 (.pur 17 (.pur 18 .tail)))))))))) (.one 7 (.pur 8 (.one 9 (.one 12 (.pur 13 (.pur 14 (.pur 15 (.pur 16 (.pur 17 (.pur 18 .tail))))))))))))))))))) [0,5,66] hX (jVp Z9 (jVp Z9 (jVp Z9 (jVp Z9 (jVp Z9 (jVp Z9 (jVp Z9 (jVp Z9 (jVt (jVo (p:=fun X hX=>(jh hX Z9)) (k:=(jVp Z9 (jVt (jVo (p:=fun X hX=>(jh hX Z9)) (k:=(jVo (p:=fun X hX=>(jh hX Z9)) (k:=(jVo (p:=fun X hX=>(Q8.callB rfl Z3 rfl Zh Zw Qv Z3 Zh jf)) (k:=(jVp Z9 (jVp Z9 (jVp Z9 (jVp Z9 (jVp Z9 (jVp Z9 .tail)))))))))))) (jVo (p:=fun X hX=>(jh hX Zg)) (k:=(jVo (p:=fun X hX=>(jh hX Zg)) (k:=(jVo (p:=fun X hX=>(Q8.callB rfl Z3 rfl Z1f Zw Qv Z3 Z1f jf)) (k:=(jVp Zg (jVp Zg (jVp Zg (jVp Zg (jVp Zg (jVp Zg .tail)))))))))))))))) (jVo (p:=fun X hX=>(jh hX Zg)) (k:=(jVo (p:=fun X hX=>(jh hX Zg)) (k:=(jVp Zg (jVo (p:=fun X hX=>(jh hX Zg)) (k:=(jVo (p:=fun X hX=>(Q8.callB rfl Z3 rfl Z1f Zw Qv Z3 Z1f jf)) (k:=(jVp Zg (jVp Zg (jVp Zg (jVp Zg (jVp Zg (jVp Zg .tail)))))))))))))))))))))))) (jh hX Z9) ?_)|(refine jV 19 (.pur 0 (.pur 1 (.pur 2 (.pur 3 (.pur 4 (.pur 5 (.pur 6 (.pur 7 (.pur 8 (.pur 9 (.pur 10 (.pur 11 (.pur 12 (.pur 13 (.pur 14 (.pur 15 (.pur 16 (.pur 17 (.one 18 .tail))))))))))))))))))) [0,5,66] hX (jVp Z9 (jVp Z9 (jVp Z9 (jVp Z9 (jVp Z9 (jVp Z9 (jVp Z9 (jVp Z9 (jVp Z9 (jVp Z9 (jVp Z9 (jVp Z9 (jVp Z9 (jVp Z9 (jVp Z9 (jVp Z9 (jVp Z9 (jVp Z9 (jVo (p:=fun X hX=>(jh hX Z9)) (k:=.tail)))))))))))))))))))) (Q8.callB rfl Z3 rfl Zh Zc Q2v Z3 Zh (jh hX Z9)) ?_)
          refine jd (fun h14=> ?_) (fun h14=> ?_)
          ·try simp at h14
           all_goals
            refine Q0 [4] (jh hX Z9) ?_
            refine Q4 (Qq Z9 Z17 (.of_eq ?_) ?_)
            all_goals clear hX
            ·skip
             simp_all[clI,Qcj,Qm]
            ·skip
             simp_all[clI,Qcj,Qm]
          ·try simp at h14
           all_goals
            refine Q3 (Q0 [4] (js hX 2 Z9 (Q8.call [0] rfl Z3 rfl Zh Z8 (by apply Q81<;>exact Z0) Q86 Z3 Z3 Zh (jh hX Z9))) ?_)
            refine Q4 (Qq Z9 Z17 (.of_eq ?_) ?_)
            all_goals clear hX
            ·skip
             simp_all[clI,Qcj,Qm]
            ·skip
             simp_all[clI,Qcj,Qm]
end Go.Proofs
namespace Go.Proofs
open Go Go.Ev
theorem Qmn:Q6 Tryz.prog 188:=jcb Tryz.func188
theorem Qm4{F:SF}{st lo tk:List Typ}(hs:st.length≤1000)(hs2:lo.length≤1000)(ht:tk.length≤1000)(hl:F.l.length≤1048576):Ct Tryz.prog 188 [.ptr 0 0 0,eI F.i] [some (20,[oFl F st lo tk])] (.int .i64 (csI F st lo tk).k) [some (20,[oFl F ((csI F st lo tk).st) ((csI F st lo tk).lo) tk])]:=by
 refine jbS Tryz.func188 35 fun X hX=> ?_
 refine jq [0,3] ?_
 refine Q5 (Q9 (jL 6 [0,1,2,3,4,5] [] [0,3,5] ([0,1]) hX Z8 .nil (jc [] (c:=(by apply Q1x<;>exact Z0)) (a:=Q1y) (k:=jr)) ?_))
 refine jd (fun h1=> ?_) (fun h1=> ?_)
 ·try simp at h1
  refine jq [4] ?_
  refine Q4 (Qq Z8 Z17 (.of_eq ?_) ?_)
  all_goals clear hX
  ·skip
   simp_all[csI]
  ·skip
   simp_all[csI,Qy]
 ·try simp at h1
  refine Q0 [0,3,14] (jt 4 (k:=(jc [] (c:=(by apply Qc9<;>exact Z0)) (a:=Qcf) (k:=jr)))) ?_
  refine jd (fun h3=> ?_) (fun h3=> ?_)
  ·try simp at h3
   refine jq [4] ?_
   refine Q4 (Qq Z8 Z17 (.of_eq ?_) ?_)
   all_goals clear hX
   ·skip
    simp_all[csI]
   ·skip
    simp_all[csI,Qy]
  ·try simp at h3
   refine jq [0,3,21] ?_
   refine jd (fun h5=> ?_) (fun h5=> ?_)
   ·try simp at h5
    refine Q0 [4] (jt 3 (k:=(jc [] (c:=(by apply Q6l<;>exact Z0)) (a:=Q6n) (k:=(jFz (k:=(jc [0] (c:=(by apply Q1p (ys:=[Qy F.i.cls])<;>exact Z0)) (a:=Q1h) (k:=jr)))))))) ?_
    refine Q4 (Qq Z8 Z17 (.of_eq ?_) ?_)
    all_goals clear hX
    ·skip
     simp_all[csI]
    ·skip
     simp_all[csI,Qy]
   ·try simp at h5
    refine Q3 (Q0 [4] (jt 1 (k:=(jc [] (c:=(by apply Q4i<;>exact Z0)) (a:=Q4k) (k:=(jFz (k:=(jc [0] (c:=(by apply Q1p (ys:=[⟨1,[],0⟩])<;>exact Z0)) (a:=Q1h) (k:=jr)))))))) ?_)
    refine Q4 (Qq Z8 Z17 (.of_eq ?_) ?_)
    all_goals clear hX
    ·skip
     simp_all[csI]
    ·skip
     simp_all[csI,Qy]
end Go.Proofs
namespace Go.Proofs
open Go Go.Ev
theorem Q87:Q6 Tryz.prog 265:=jcb Tryz.func265
theorem Q82{t:Typ}:Ct Tryz.prog 265 [eT t] [] (.bool (Qai t)) []:=by
 refine jbS Tryz.func265 11 fun X hX=> ?_
 refine jq [1] ?_
 refine Q0 [2] (jt 4 (k:=(jm 4 6 [10] (p:=Z1p) (q:=Z1p) (k:=jr)))) ?_
 refine Q4 (je0 ?_)
 (try simp[Qai]);try grind
end Go.Proofs
namespace Go.Proofs
open Go Go.Ev
theorem Qi0:Q6 Tryz.prog 266:=jcb Tryz.func266
theorem Qhl{t:Typ}:Ct Tryz.prog 266 [eT t] [] (eT (elT t)) []:=by
 refine jbS Tryz.func266 10 fun X hX=> ?_
 refine jq [1,2] ?_
 refine Q5 (jq [1,2,5] ?_)
 refine jd (fun h1=> ?_) (fun h1=> ?_)
 ·try simp at h1
  refine Q0 [2] (jc [] (c:=(by apply Q4i<;>exact Z4)) (a:=Q4k) (k:=jr)) ?_
  refine Q4 (je0 ?_)
  simp_all[elT,Qy]
 ·try simp at h1
  refine Q3 (Q0 [2] (jt 2 (k:=(jc [] (c:=(by apply Q6l<;>exact Z4)) (a:=Q6n) (k:=jr)))) ?_)
  refine Q4 (je0 ?_)
  simp_all[elT,Qy]
end Go.Proofs
namespace Go.Proofs
open Go Go.Ev
theorem Qkw:Q6 Tryz.prog 189:=jcb Tryz.func189
theorem Qkd{F:SF}{st lo tk:List Typ}(hs:st.length≤1000)(hs2:lo.length≤1000)(ht:tk.length≤1000)(hl:F.l.length≤1048576)(hd:F.i.desc.length≤1099511627776)(hop:41≤F.i.op∧F.i.op≤44)(k0:0<tk.length)(k1:F.i.op=42∨F.i.op=43→1<tk.length)(k2:F.i.op=43→2<tk.length):Ct Tryz.prog 189 [.ptr 0 0 0,eI F.i] [some (20,[oFl F st lo tk])] (.int .i64 (lsI F st lo tk).k) [some (20,[oFl F ((lsI F st lo tk).st) ((lsI F st lo tk).lo) tk])]:=by
 rcases (by omega:F.i.op=41∨F.i.op=42∨F.i.op=43∨F.i.op=44) with h|h|h|h
 all_goals first|have e41:(F.i.op=41)=(true=true):=by simp[h]|have e41:(F.i.op=41)=(false=true):=by simp[h]
 all_goals first|have e42:(F.i.op=42)=(true=true):=by simp[h]|have e42:(F.i.op=42)=(false=true):=by simp[h]
 all_goals first|have e44:(F.i.op=44)=(true=true):=by simp[h]|have e44:(F.i.op=44)=(false=true):=by simp[h]
 all_goals first|have kk:1<tk.length:=k1 Za|have kk:=trivial
 all_goals first|have kkk:2<tk.length:=k2 Za|have kkk:=trivial
 all_goals clear h
 all_goals
  refine jbS Tryz.func189 106 fun X hX=> ?_
  refine Q0 [0,3] (jh hX Zz) ?_
  refine Q0 [0,3,5] (jh hX Zz) ?_
  refine Q5 (Q0 [0,3,5,15] (jh hX Zz) ?_)
  refine jd (fun h2=> ?_) (fun h2=> ?_)
  ·try simp at h2
   all_goals
    refine Q0 [0,5,6] (js hX 2 Zz (Q8.call [] rfl Z3 rfl Zz Z8 (by apply Q7a<;>exact Z0) Q7e Z3 Z3 Zz (jh hX Zz))) ?_
    refine Q5 (Q9 ?_)
    by_cases hc:Q1c F.i.desc=[]
    all_goals first|have ec:(Q1c F.i.desc=[])=(true=true):=by simp[hc]|have ec:(Q1c F.i.desc=[])=(false=true):=by simp[hc]
    all_goals clear hc
    all_goals
     first|(refine Q0 [0,5,6,19] (js hX 8 Z2b (Q8.call [] rfl Z3 rfl Zz Z8 (by apply Q1x<;>exact Z0) Q1y Z3 Z3 Zz (jh hX Z2b))) ?_)|(refine Q0 [0,5,6,19] (jh hX Z2b) ?_)
     refine jd (fun h4=> ?_) (fun h4=> ?_)
     ·try simp at h4
      all_goals
       refine Q0 [4] (jh hX Z2b) ?_
       refine Q4 (Qq Z2b Z17 (.of_eq ?_) ?_)
       all_goals clear hX
       ·skip
        simp_all[lsI,Q3g,cu]
       ·skip
        simp_all[lsI,Q3g,cu]
     ·try simp at h4
      all_goals
       refine Q0 [0,6,31] (js hX 1 Z2b (jFz (k:=(Q8.call [] rfl Z3 rfl Zz Z8 (by apply (Q5h (l:=[tk[0]]))<;>exact Z0) Q5i Z3 Z3 Zz (jh hX Z2b))))) ?_
       refine jd (fun h6=> ?_) (fun h6=> ?_)
       ·try simp at h6
        refine Q0 [4] (jh hX Z2b) ?_
        refine Q4 (Qq Z2b Z17 (.of_eq ?_) ?_)
        all_goals clear hX
        ·skip
         simp_all[lsI,Q3g,cu]
        ·skip
         simp_all[lsI,Q3g,cu]
       ·try simp at h6
        refine Q0 [0,6,36] (jh hX Z2b) ?_
        refine jd (fun h8=> ?_) (fun h8=> ?_)
        ·try simp at h8
         all_goals
          refine Q0 [4] (js hX 1 Z2b (Q8.call [] rfl Z3 rfl Zz Z8 (by apply Q4i<;>exact Z0) Q4k Z3 Z3 Zz (jFz (k:=(Q8.call [0] rfl Z3 rfl Zz Z8 (by apply Q1p (ys:=[⟨4,[],0⟩])<;>exact Z0) Q1h Z3 Z3 Zz (jh hX Z2b)))))) ?_
          refine Q4 (Qq Z2b Z17 (.of_eq ?_) ?_)
          all_goals clear hX
          ·skip
           simp_all[lsI,Q3g,cu]
          ·skip
           simp_all[lsI,Q3g,cu]
        ·try simp at h8
         all_goals
          refine Q3 (Q0 [4] (js hX 3 Z2b (jFz (k:=(Q8.call [0] rfl Z3 rfl Zz Z8 (by apply Q1p (ys:=[⟨5,Q1c F.i.desc,0⟩])<;>exact Z0) Q1h Z3 Z3 Zz (jh hX Z2b))))) ?_)
          refine Q4 (Qq Z2b Z17 (.of_eq ?_) ?_)
          all_goals clear hX
          ·skip
           simp_all[lsI,Q3g,cu]
          ·skip
           simp_all[lsI,Q3g,cu]
  ·try simp at h2
   all_goals
    refine Q3 (Q5 (Q9 ?_))
    obtain ⟨bL,hL⟩: ∃b,Qai tk[0]=b:=⟨_,rfl⟩
    cases bL
    all_goals
     first|(refine Q0 [0,3,5,48] (js hX 1 Z1g (Q8.call [] rfl Z3 rfl Zz Z8 (by apply Q82<;>exact Z0) Q87 Z3 Z3 Zz (jh hX Z1g))) ?_)|(refine Q0 [0,3,5,48] (js hX 1 Z1g (Q8.call [] rfl Z3 rfl Zz Z8 (by apply Q82<;>exact Z0) Q87 Z3 Z3 Zz (js hX 12 Z1g (jFz (k:=(Q8.call [] rfl Z3 rfl Zz Z8 (by apply (Q5h (l:=[tk[1]]))<;>exact Z0) Q5i Z3 Z3 Zz (jh hX Z1g))))))) ?_)|(refine Q0 [0,3,5,48] (js hX 1 Z1g (Q8.call [] rfl Z3 rfl Zz Z8 (by apply Q82<;>exact Z0) Q87 Z3 Z3 Zz (jh hX Z1g))) ?_)
     refine jd (fun h11=> ?_) (fun h11=> ?_)
     ·try simp at h11
      all_goals
       refine Q0 [4] (jh hX Z1g) ?_
       refine Q4 (Qq Z1g Z17 (.of_eq ?_) ?_)
       all_goals clear hX
       ·skip
        simp_all[lsI,Q3g,cu]
       ·skip
        simp_all[lsI,Q3g,cu]
     ·try simp at h11
      all_goals
       refine Q0 [0,3,5,68] (jh hX Z1g) ?_
       refine jd (fun h13=> ?_) (fun h13=> ?_)
       ·try simp at h13
        all_goals
         refine Q0 [4] (js hX 1 Z1g (Q8.call [] rfl Z3 rfl Zz Z8 (by apply Q4i<;>exact Z0) Q4k Z3 Z3 Zz (jFz (k:=(Q8.call [0] rfl Z3 rfl Zz Z8 (by apply Q1p (ys:=[⟨1,[],0⟩])<;>exact Z0) Q1h Z3 Z3 Zz (jh hX Z1g)))))) ?_
         refine Q4 (Qq Z1g Z17 (.of_eq ?_) ?_)
         all_goals clear hX
         ·skip
          simp_all[lsI,Q3g,cu]
         ·skip
          simp_all[lsI,Q3g,cu]
       ·try simp at h13
        all_goals
         refine Q0 [0,5,76] (jh hX Z1g) ?_
         refine jd (fun h15=> ?_) (fun h15=> ?_)
         ·try simp at h15
          all_goals
           refine Q0 [4] (js hX 2 Z1g (Q8.call [] rfl Z3 rfl Zz Z8 (by apply Qhl<;>exact Z0) Qi0 Z3 Z3 Zz (jFz (k:=(Q8.call [0] rfl Z3 rfl Zz Z8 (by apply Q1p (ys:=[elT tk[0]])<;>exact Z0) Q1h Z3 Z3 Zz (jh hX Z1g)))))) ?_
           refine Q4 (Qq Z1g Z17 (.of_eq ?_) ?_)
           all_goals clear hX
           ·skip
            simp_all[lsI,Q3g,cu]
           ·skip
            simp_all[lsI,Q3g,cu]
         ·try simp at h15
          all_goals
           refine Q0 [0,85] (jh hX Z1g) ?_
           refine jd (fun h17=> ?_) (fun h17=> ?_)
           ·try simp at h17
            refine Q0 [4] (js hX 6 Z1g (jFz (k:=(Q8.call [] rfl Z3 rfl Zz Z8 (by apply (Q5h (l:=[tk[2]]))<;>exact Z0) Q5i Z3 Z3 Zz (Q8.call [] rfl Z3 rfl Zz Z8 (by apply Q1d<;>exact Z0) Q1f Z3 Z3 Zz (jh hX Z1g)))))) ?_
            refine Q4 (Qq Z1g Z17 (.of_eq ?_) ?_)
            all_goals clear hX
            ·skip
             simp_all[lsI,Q3g,cu]
            ·skip
             simp_all[lsI,Q3g,cu]
           ·try simp at h17
            refine Q3 (Q0 [4] (js hX 6 Z1g (Q8.call [] rfl Z3 rfl Zz Z8 (by apply Q74<;>exact Z0) Q75 Z3 Z3 Zz (Q8.call [] rfl Z3 rfl Zz Z8 (by apply Q1d<;>exact Z0) Q1f Z3 Z3 Zz (jh hX Z1g)))) ?_)
            refine Q4 (Qq Z1g Z17 (.of_eq ?_) ?_)
            all_goals clear hX
            ·skip
             simp_all[lsI,Q3g,cu]
            ·skip
             simp_all[lsI,Q3g,cu]
end Go.Proofs
namespace Go.Proofs
open Go Go.Ev
theorem Qoh:Q6 Tryz.prog 116:=jcb Tryz.func116
theorem Qns{F:SF}{st lo tk:List Typ}(hs:st.length≤1000)(hs2:lo.length≤1000)(ht:tk.length≤1000)(hl:F.l.length≤1048576)(h9:Qx F.l=true)(hz:Q1r F.l≤1048576)(hd:F.i.desc.length≤1099511627776)(hmd:F.m.desc.length≤1099511627776)(hc:F.i.cls.length≤1099511627776)(hia:F.i.op=3∨F.i.op=4→0≤F.i.a)(hds:F.i.op=36∨F.i.op=37∨F.i.op=38→Q5v F.i.desc=(Q1g F.i.desc).params.length)(hop:1≤F.i.op∧F.i.op≤44)(kt:(tk.length:Int)=Q30 F.i):Ct Tryz.prog 116 [.ptr 0 0 0,eI F.i] [some (20,[oFl F st lo tk])] (.int .i64 (Q45 F st lo tk).k) [some (20,[oFl F ((Q45 F st lo tk).st) ((Q45 F st lo tk).lo) tk])]:=by
 have hl4:=Qa1 h9
 refine jbS Tryz.func116 116 fun X hX=> ?_
 refine jq [0,3] ?_
 refine Q5 (Q9 (Q0 [0,3,5] (jt 4 (k:=(jm 9 9 [0,3,18] (p:=fun b1_4=>by (try simp at b1_4);exact (js hX 4 (by simp[-Qc,-Qb,b1_4];rfl) (jm 4 13 [0,3,9,17] (p:=fun b1_8=>by (try simp at b1_8);exact (jh hX (by simp[-Qc,-Qb,b1_4,b1_8];rfl))) (q:=fun b1_8=>by (try simp at b1_8);exact (jh hX (by simp[-Qc,-Qb,b1_4,b1_8];rfl))) (k:=(jh hX (by simp[-Qc,-Qb,b1_4];rfl)))))) (q:=fun b1_4=>by (try simp at b1_4);exact (jh hX (by simp[-Qc,-Qb,b1_4];rfl))) (k:=jr)))) ?_))
 refine jd (fun h1=> ?_) (fun h1=> ?_)
 ·try simp at h1
  refine Q0 [4] (js hX 2 Zx (jc [0] (c:=(by apply Qkb<;>exact Zf)) (a:=Qku) (k:=(jh hX Zx)))) ?_
  refine Q4 (Qq Zx Z17 (.of_eq ?_) ?_)
  all_goals clear hX
  ·skip
   first|(simp_all[Q45,cu];done)|(simp only[Q45];(repeat first|rw[if_pos Za]|rw[if_neg Za]);first|done|(simp_all[cu];done)|(simp;done)|rfl)
  ·skip
   first|(simp_all[Q45,cu];done)|(simp only[Q45];(repeat first|rw[if_pos Za]|rw[if_neg Za]);first|done|(simp_all[cu];done)|(simp;done)|rfl)
 ·try simp at h1
  refine Q0 [0,3,22] (js hX 2 Zx (jc [] (c:=Z19) (a:=Q1q) (k:=(jh hX Zx)))) ?_
  refine jd (fun h3=> ?_) (fun h3=> ?_)
  ·try simp at h3
   refine Q5 (Q0 [0,31] (js hX 4 Zx (jc [] (c:=(by apply Q5h<;>exact Zf)) (a:=Q5i) (k:=(jh hX Zx)))) ?_)
   refine jd (fun h4=> ?_) (fun h4=> ?_)
   ·try simp at h4
    refine Q0 [4] (jh hX Zx) ?_
    refine Q4 (Qq Zx Z17 (.of_eq ?_) ?_)
    all_goals clear hX
    ·skip
     first|(simp_all[Q45,cu];done)|(simp only[Q45];(repeat first|rw[if_pos Za]|rw[if_neg Za]);first|done|(simp_all[cu];done)|(simp;done)|rfl)
    ·skip
     first|(simp_all[Q45,cu];done)|(simp only[Q45];(repeat first|rw[if_pos Za]|rw[if_neg Za]);first|done|(simp_all[cu];done)|(simp;done)|rfl)
   ·try simp at h4
    refine Q3 (Q0 [4] (js hX 1 Zx (jc [] (c:=(by apply Q4i<;>exact Zf)) (a:=Q4k) (k:=(jFz (k:=(jc [0] (c:=(by apply Q1p (ys:=[⟨1,[],0⟩])<;>exact Z0)) (a:=Q1h) (k:=(jh hX Zx)))))))) ?_)
    refine Q4 (Qq Zx Z17 (.of_eq ?_) ?_)
    all_goals clear hX
    ·skip
     first|(simp_all[Q45,cu];done)|(simp only[Q45];(repeat first|rw[if_pos Za]|rw[if_neg Za]);first|done|(simp_all[cu];done)|(simp;done)|rfl)
    ·skip
     first|(simp_all[Q45,cu];done)|(simp only[Q45];(repeat first|rw[if_pos Za]|rw[if_neg Za]);first|done|(simp_all[cu];done)|(simp;done)|rfl)
  ·try simp at h3
   refine Q0 [0,3,36] (js hX 2 Zx (jc [] (c:=Z19) (a:=Q1q) (k:=(jh hX Zx)))) ?_
   refine jd (fun h7=> ?_) (fun h7=> ?_)
   ·try simp at h7
    refine Q0 [4] (js hX 4 Zx (jc [] (c:=(by apply Q5h<;>exact Zf)) (a:=Q5i) (k:=(jc [] (c:=(by apply Q1d<;>exact Zf)) (a:=Q1f) (k:=(jh hX Zx)))))) ?_
    refine Q4 (Qq Zx Z17 (.of_eq ?_) ?_)
    all_goals clear hX
    ·skip
     rw[show Q45 F st lo tk=⟨cu (Q3g tk) 10,st,lo⟩ from by (simp only[Q45];(repeat first|rw[if_pos Za]|rw[if_neg Za]))]
     first|done|rfl|simp[cu]
    ·skip
     first|(simp_all[Q45,cu];done)|(simp only[Q45];(repeat first|rw[if_pos Za]|rw[if_neg Za]);first|done|(simp_all[cu];done)|(simp;done)|rfl)
   ·try simp at h7
    refine Q0 [0,3,46] (js hX 4 Zx (jm 4 50 [0,3,54] (p:=by intro b;(try simp at b);exact (jh hX (by simp[-Qc,-Qb,h1];rfl))) (q:=by intro b;(try simp at b);exact (jh hX (by simp[-Qc,-Qb,h1];rfl))) (k:=(jh hX Zx)))) ?_
    refine jd (fun h9=> ?_) (fun h9=> ?_)
    ·try simp at h9
     refine Q0 [4] (js hX 4 Zx (jc [] (c:=(by apply Qc9<;>exact Zf)) (a:=Qcf) (k:=(jc [] (c:=(by apply Q1d<;>exact Zf)) (a:=Q1f) (k:=(jh hX Zx)))))) ?_
     refine Q4 (Qq Zx Z17 (.of_eq ?_) ?_)
     all_goals clear hX
     ·skip
      rw[show Q45 F st lo tk=⟨cu (Qet tk) 10,st,lo⟩ from by (simp only[Q45];(repeat first|rw[if_pos Za]|rw[if_neg Za]))]
      first|done|rfl|simp[cu]
     ·skip
      first|(simp_all[Q45,cu];done)|(simp only[Q45];(repeat first|rw[if_pos Za]|rw[if_neg Za]);first|done|(simp_all[cu];done)|(simp;done)|rfl)
    ·try simp at h9
     refine Q0 [0,3,61] (js hX 2 Zx (jc [] (c:=Z19) (a:=Q1q) (k:=(jh hX Zx)))) ?_
     refine jd (fun h11=> ?_) (fun h11=> ?_)
     ·try simp at h11
      refine Q0 [4] (js hX 2 Zx (jB (c:=(by apply Qnt<;>first|assumption|omega|(intro e;rcases (by omega:F.i.op=27∨F.i.op=28∨F.i.op=29) with e|e|e<;>(have k2:=kt;simp[Q30,tk1,tk2,e] at k2;omega)))) (a:=Qoi) (k:=(jh hX Zx)))) ?_
      refine Q4 (Qq Zx Z17 (.of_eq ?_) ?_)
      all_goals clear hX
      ·skip
       first|(simp_all[Q45,cu];done)|(simp only[Q45];(repeat first|rw[if_pos Za]|rw[if_neg Za]);first|done|(simp_all[cu];done)|(simp;done)|rfl)
      ·skip
       first|(simp_all[Q45,cu];done)|(simp only[Q45];(repeat first|rw[if_pos Za]|rw[if_neg Za]);first|done|(simp_all[cu];done)|(simp;done)|rfl)
     ·try simp at h11
      refine Q0 [0,3,68] (jh hX Zx) ?_
      refine jd (fun h13=> ?_) (fun h13=> ?_)
      ·try simp at h13
       refine Q0 [4] (js hX 2 Zx (jc [0] (c:=(by apply Qkc<;>exact Zf)) (a:=Qkv) (k:=(jh hX Zx)))) ?_
       refine Q4 (Qq Zx Z17 (.of_eq ?_) ?_)
       all_goals clear hX
       ·skip
        first|(simp_all[Q45,cu];done)|(simp only[Q45];(repeat first|rw[if_pos Za]|rw[if_neg Za]);first|done|(simp_all[cu];done)|(simp;done)|rfl)
       ·skip
        first|(simp_all[Q45,cu];done)|(simp only[Q45];(repeat first|rw[if_pos Za]|rw[if_neg Za]);first|done|(simp_all[cu];done)|(simp;done)|rfl)
      ·try simp at h13
       refine Q0 [0,3,75] (js hX 2 Zx (jc [] (c:=Z19) (a:=Q1q) (k:=(jh hX Zx)))) ?_
       refine jd (fun h15=> ?_) (fun h15=> ?_)
       ·try simp at h15
        refine Q0 [4] (js hX 2 Zx (jc [0] (c:=(by apply Qke<;>exact Zf)) (a:=Qkx) (k:=(jh hX Zx)))) ?_
        refine Q4 (Qq Zx Z17 (.of_eq ?_) ?_)
        all_goals clear hX
        ·skip
         first|(simp_all[Q45,cu];done)|(simp only[Q45];(repeat first|rw[if_pos Za]|rw[if_neg Za]);first|done|(simp_all[cu];done)|(simp;done)|rfl)
        ·skip
         first|(simp_all[Q45,cu];done)|(simp only[Q45];(repeat first|rw[if_pos Za]|rw[if_neg Za]);first|done|(simp_all[cu];done)|(simp;done)|rfl)
       ·try simp at h15
        refine Q0 [0,3,82] (jh hX Zx) ?_
        refine jd (fun h17=> ?_) (fun h17=> ?_)
        ·try simp at h17
         refine Q0 [4] (js hX 2 Zx (jc [0] (c:=(by apply Qhi<;>first|assumption|omega|(have k2:=kt;have d:=hds Za;simp[Q30,tk1,tk2,h17] at k2;omega))) (a:=Qhy) (k:=(jh hX Zx)))) ?_
         refine Q4 (Qq Zx Z17 (.of_eq ?_) ?_)
         all_goals clear hX
         ·skip
          first|(simp_all[Q45,cu];done)|(simp only[Q45];(repeat first|rw[if_pos Za]|rw[if_neg Za]);first|done|(simp_all[cu];done)|(simp;done)|rfl)
         ·skip
          first|(simp_all[Q45,cu];done)|(simp only[Q45];(repeat first|rw[if_pos Za]|rw[if_neg Za]);first|done|(simp_all[cu];done)|(simp;done)|rfl)
        ·try simp at h17
         refine Q0 [0,3,89] (js hX 4 Zx (jm 4 93 [0,3,97] (p:=by intro b;(try simp at b);exact (jh hX (by simp[-Qc,-Qb,h1];rfl))) (q:=by intro b;(try simp at b);exact (jh hX (by simp[-Qc,-Qb,h1];rfl))) (k:=(jh hX Zx)))) ?_
         refine jd (fun h19=> ?_) (fun h19=> ?_)
         ·try simp at h19
          refine Q0 [4] (js hX 2 Zx (jc [0] (c:=(by apply Qm5<;>first|assumption|omega|(have k2:=kt;have d:=hds Za;rcases h19 with e|e<;>(simp[Q30,tk1,tk2,e] at k2;simp[e];omega)))) (a:=Qmo) (k:=(jh hX Zx)))) ?_
          refine Q4 (Qq Zx Z17 (.of_eq ?_) ?_)
          all_goals clear hX
          ·skip
           first|(simp_all[Q45,cu];done)|(simp only[Q45];(repeat first|rw[if_pos Za]|rw[if_neg Za]);first|done|(simp_all[cu];done)|(simp;done)|rfl)
          ·skip
           first|(simp_all[Q45,cu];done)|(simp only[Q45];(repeat first|rw[if_pos Za]|rw[if_neg Za]);first|done|(simp_all[cu];done)|(simp;done)|rfl)
         ·try simp at h19
          refine Q0 [0,3,101] (js hX 4 Zx (jm 4 105 [0,3,109] (p:=by intro b;(try simp at b);exact (jh hX (by simp[-Qc,-Qb,h1];rfl))) (q:=by intro b;(try simp at b);exact (jh hX (by simp[-Qc,-Qb,h1];rfl))) (k:=(jh hX Zx)))) ?_
          refine jd (fun h21=> ?_) (fun h21=> ?_)
          ·try simp at h21
           refine Q0 [4] (js hX 2 Zx (jc [0] (c:=(by apply Qm4<;>exact Zf)) (a:=Qmn) (k:=(jh hX Zx)))) ?_
           refine Q4 (Qq Zx Z17 (.of_eq ?_) ?_)
           all_goals clear hX
           ·skip
            first|(simp_all[Q45,cu];done)|(simp only[Q45];(repeat first|rw[if_pos Za]|rw[if_neg Za]);first|done|(simp_all[cu];done)|(simp;done)|rfl)
           ·skip
            first|(simp_all[Q45,cu];done)|(simp only[Q45];(repeat first|rw[if_pos Za]|rw[if_neg Za]);first|done|(simp_all[cu];done)|(simp;done)|rfl)
          ·try simp at h21
           refine Q3 (Q0 [4] (js hX 2 Zx (jc [0] (c:=(by apply Qkd<;>first|assumption|omega|(intro e;(have k2:=kt;simp[Q30,tk1,tk2,e] at k2;omega))|(intro e;rcases e with e|e<;>(have k2:=kt;simp[Q30,tk1,tk2,e] at k2;omega))|(rcases (by omega:F.i.op=41∨F.i.op=42∨F.i.op=43∨F.i.op=44) with e|e|e|e<;>(have k2:=kt;simp[Q30,tk1,tk2,e] at k2;omega)))) (a:=Qkw) (k:=(jh hX Zx)))) ?_)
           refine Q4 (Qq Zx Z17 (.of_eq ?_) ?_)
           all_goals clear hX
           ·skip
            first|(simp_all[Q45,cu];done)|(simp only[Q45];(repeat first|rw[if_pos Za]|rw[if_neg Za]);first|done|(simp_all[cu];done)|(simp;done)|rfl)
           ·skip
            first|(simp_all[Q45,cu];done)|(simp only[Q45];(repeat first|rw[if_pos Za]|rw[if_neg Za]);first|done|(simp_all[cu];done)|(simp;done)|rfl)
end Go.Proofs
namespace Go.Proofs
open Go Go.Ev
theorem Qje:Q6 Tryz.prog 59:=jcb Tryz.func59
theorem Qj5{F:SF}{st lo tk:List Typ}(hs:st.length≤100)(hs2:lo.length≤100)(ht:tk.length≤1000)(hl:F.l.length≤1048576)(h9:Qx F.l=true)(hz:Q1r F.l≤1048576)(hd:F.i.desc.length≤1099511627776)(hmd:F.m.desc.length≤1099511627776)(hc:F.i.cls.length≤1099511627776)(hia:F.i.op=3∨F.i.op=4→0≤F.i.a)(hds:F.i.op=36∨F.i.op=37∨F.i.op=38→Q5v F.i.desc=(Q1g F.i.desc).params.length)(hop:1≤F.i.op∧F.i.op≤44)(hat:0≤F.at')(hlt:F.at'.toNat<F.m.code.length)(hfi:F.m.code[F.at'.toNat]=F.i)(htk:0≤Q30 F.i):Ct Tryz.prog 59 [.ptr 0 0 0] [some (20,[oFl F st lo tk])] (.int .i64 (Qh6 F st lo).k) [some (20,[oFl F (Qh6 F st lo).st (Qh6 F st lo).lo (Qy1 F st tk)])]:=by
 have htk9:=Q133 F.i
 have wq:IntKind.i64.wrap ((st.length:Int)-Q30 F.i)=(st.length:Int)-Q30 F.i:=Q7 Za Za
 have w5:st.length*32≤140737488355328:=by omega
 all_goals
  refine jbS Tryz.func59 69 fun X hX=> ?_
  refine Q0 [0] (jh hX Z2g) ?_
  refine jL 12 [0,1,2,3,4,5,6,7,8,9,10] [11] [0,3] ([0]) hX Z2g (jH (p:=fun X hX=>(jh hX Z2g)) (k:=.nil)) (jh hX Z2g) ?_
  refine Q21 (Le.expose 0 0 17 Z24) ?_
  refine jT 7 (Q20 [0,1,2,3] (.alt 4 (.alt 5 (.alt 6 .tail .stop) (.alt 6 (.alt 5 .tail .stop) .stop)) (.alt 6 (.alt 4 (.alt 5 .tail .stop) .stop) .stop))) [0,3,4] [] hX (jTp [0,1,2,3] _ (by simp[wq,hat,hlt,hfi];try rfl) (jTa 4 (p:=fun X hX=>(jh hX (by simp[wq,hat,hlt,hfi];rfl))) (k:=(jTa 5 (p:=fun X hX=>(Q8.callB rfl Z3 rfl Z2g Z1c Qi Z3 Z2g jf)) (k:=(jTa 6 (p:=fun X hX=>(jh hX (by simp[wq,hat,hlt,hfi];rfl))) (k:=.tail) (kr:=.stop))) (kr:=(jTa 6 (p:=fun X hX=>(jh hX (by simp[wq,hat,hlt,hfi];rfl))) (k:=(jTa 5 (p:=fun X hX=>(Q8.callB rfl Z3 rfl Z2g Z1c Qi Z3 Z2g jf)) (k:=.tail) (kr:=.stop))) (kr:=.stop))))) (kr:=(jTa 6 (p:=fun X hX=>(jh hX (by simp[wq,hat,hlt,hfi];rfl))) (k:=(jTa 4 (p:=fun X hX=>(jh hX (by simp[wq,hat,hlt,hfi];rfl))) (k:=(jTa 5 (p:=fun X hX=>(Q8.callB rfl Z3 rfl Z2g Z1c Qi Z3 Z2g jf)) (k:=.tail) (kr:=.stop))) (kr:=.stop))) (kr:=.stop))))) (Q8.call [] rfl Z3 rfl Z2g Z8 (by apply Qt2<;>exact Z0) Qt8 Z3 Z3 Z2g (jh hX (by simp[wq,hat,hlt,hfi];(try (simp (disch:=omega) only[Q7];(try simp[wq,hat,hlt,hfi])));rfl))) ?_
  refine Q5 (Q0 [0,3,4,27] (jh hX (by simp[wq,hat,hlt,hfi];rfl)) ?_)
  refine jd (fun h3=> ?_) (fun h3=> ?_)
  ·try simp at h3
   refine Q21 (Le.absorb 0 0 17 Z8) ?_
   refine Q0 [2] (jh hX (by simp[wq,h3,hat,hlt,hfi];rfl)) ?_
   refine Q4 (Qq (by simp[wq,h3,hat,hlt,hfi];rfl) Z17 (.of_eq ?_) ?_)
   all_goals clear hX
   ·skip
    simp_all[Qh6,Qy1,cu]
   ·skip
    simp_all[Qh6,Qy1,cu]
  ·try simp at h3
   obtain ⟨q,hq⟩: ∃q:Nat,(st.length:Int)-Q30 F.i=(q:Int):=⟨((st.length:Int)-Q30 F.i).toNat,by omega⟩
   have hq1:q≤st.length:=by omega
   have d2:List.take st.length (st.map eT)=st.map eT:=List.take_of_length_le Z3
   obtain ⟨s1,hs1⟩: ∃s,s=st.take q:=⟨_,rfl⟩
   obtain ⟨t1,ht1⟩: ∃s,s=st.drop q:=⟨_,rfl⟩
   have hs1l:s1.length≤100:=by rw[hs1];simp;omega
   have ht1l:(t1.length:Int)=Q30 F.i:=by rw[ht1];simp;omega
   have ht1k:t1.length≤1000:=by omega
   have es:List.take q (st.map eT)=s1.map eT:=by rw[hs1,List.map_take]
   have et:List.drop q (st.map eT)=t1.map eT:=by rw[ht1,List.map_drop]
   refine Q3 (Q0 [0,3,4] (js hX 8 Z22 (Q8.callBF rfl Z3 rfl Z2g (by rw[if_pos Za,List.take_of_length_le (show (List.drop q (List.map eT st)).length≤st.length-q by simp),←List.map_drop,Q9e eT (fun _=>rfl)];apply Q3o (l:=st.drop q)<;>exact Z0) Q3p Z3 Z2g (jh hX Z22))) ?_)
   refine Q0 [0,3] (jh hX Z22) ?_
   refine Q21 (Le.absorb 0 0 17 (by simp[hq,hq1,d2];rfl)) ?_
   refine Q21 (Le.of_eq (by simp only[es,et];rfl)) ?_
   refine Q5 (Q0 [0,5] (js hX 2 Z22 (Q8.call [0] rfl Z3 rfl Z2g Z8 (by apply Qns (st:=s1) (lo:=lo) (tk:=t1)<;>exact Z20) Qoh Z3 Z3 Z2g (jh hX Z22))) ?_)
   refine Q0 [0,5,54] (jh hX Z22) ?_
   refine jd (fun h8=> ?_) (fun h8=> ?_)
   ·try simp at h8
    refine Q0 [2] (jh hX Z22) ?_
    refine Q4 (Qq Z22 Z17 (.of_eq ?_) ?_)
    all_goals clear hX
    ·skip
     simp_all[Qh6,Qy1,cu]
    ·skip
     simp_all[Qh6,Qy1,cu]
   ·try simp at h8
    refine Q21 (Le.expose 0 0 17 Z24) ?_
    refine Q3 (jT 11 (Q20 [0,1,2,3,6,7,8,9] (.alt 4 (.alt 5 (.alt 10 .tail .stop) (.alt 10 (.alt 5 .tail .stop) .stop)) (.alt 10 (.alt 4 (.alt 5 .tail .stop) .stop) .stop))) [2] [] hX (jTp [0,1,2,3,6,7,8,9] _ (by simp[wq,h3,hq,hq1,d2,hat,hlt,hfi];try rfl) (jTa 4 (p:=fun X hX=>(jh hX Z22)) (k:=(jTa 5 (p:=fun X hX=>(Q8.callB rfl Z3 rfl Z2g Z1c Qi Z3 Z2g jf)) (k:=(jTa 10 (p:=fun X hX=>(jh hX Z22)) (k:=.tail) (kr:=.stop))) (kr:=(jTa 10 (p:=fun X hX=>(jh hX Z22)) (k:=(jTa 5 (p:=fun X hX=>(Q8.callB rfl Z3 rfl Z2g Z1c Qi Z3 Z2g jf)) (k:=.tail) (kr:=.stop))) (kr:=.stop))))) (kr:=(jTa 10 (p:=fun X hX=>(jh hX Z22)) (k:=(jTa 4 (p:=fun X hX=>(jh hX Z22)) (k:=(jTa 5 (p:=fun X hX=>(Q8.callB rfl Z3 rfl Z2g Z1c Qi Z3 Z2g jf)) (k:=.tail) (kr:=.stop))) (kr:=.stop))) (kr:=.stop))))) (Q8.weak (js hX 1 Z22 (Q8.call [] rfl Z3 rfl Z2g Z8 (by apply Q1d<;>exact Z0) Q1f Z3 Z3 Z2g (jh hX Z22))) (Le.absorb 0 0 17 Z8)) ?_)
    refine Q4 (Qq Z22 Z17 (.of_eq ?_) ?_)
    all_goals clear hX
    ·skip
     simp_all[Qh6,Qy1,cu]
    ·skip
     simp_all[Qh6,Qy1,cu]
end Go.Proofs
