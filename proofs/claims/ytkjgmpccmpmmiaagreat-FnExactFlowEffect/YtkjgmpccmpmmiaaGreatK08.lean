/- Part 9 of what the proofs lean on: what the functions of the program and of the reference compute. Conditions: none. -/
import Derived.Test.YtkjgmpccmpmmiaaGreatK07
set_option linter.all false
set_option linter.unusedVariables false
set_option linter.unusedSimpArgs false
set_option maxHeartbeats 2000000
set_option maxRecDepth 100000
namespace Go.Proofs
open Go Go.Ev
theorem Qg6:Q6 Tryz.prog 171:=jcb Tryz.func171
theorem Qfv{F:SF}{o1 o2:Bool}{st lo:List Typ}{k:Int}(hs:Q1r F.l≤1048576)(hw:Qx F.l=true)(hst:st.length≤500)(hlo:lo.length≤500)(hd:F.i.desc.length≤1099511627776):Ct Tryz.prog 171 [.ptr 0 0 0] [some (25,[oSW F o1 o2 st lo k])] (.tup []) [some (25,[Qbf F (fdS F o1 o2 st lo k)])]:=by
 have hl:F.l.length≤1099511627776:=by unfold Q1r at hs;omega
 obtain ⟨bS,hS⟩: ∃b,Qsw F.i=b:=⟨_,rfl⟩
 obtain ⟨bP,hP⟩: ∃b,Qrf F.i=b:=⟨_,rfl⟩
 have hfx:(ffL F.l F.i.name F.i.desc (Qu F.l F.i.cls)).1=fdxS F:=rfl
 have hN:Qh4 F.i=(if bS=true then 0 else 1)+(if bP=true then 1 else 0):=by rw[Qh4,hS,hP]
 have hS2:(34≤F.i.op)=(bS=true):=by rw[←hS];simp[Qsw]
 have hP1:(decide (F.i.op=33)||decide (F.i.op=35))=bP:=by rw[←hP];simp[Qrf]
 have hP2:(F.i.op=33∨F.i.op=35)=(bP=true):=by rw[←hP];simp[Qrf]
 cases bS<;>cases bP
 all_goals
  refine jbS Tryz.func171 98 fun X hX=> ?_
  refine Q0 [0,2] (jh hX Zi) ?_
  refine Q0 [0,2,3] (jh hX Zi) ?_
  refine Q0 [0,2,3,4] (js hX 4 Zi (jm 4 17 [0,2,3,21] (p:=by intro b;(try simp at b);exact (jh hX (by simp[-Qc,-Qb,hS2,hP1,hP2,hfx];rfl))) (q:=by intro b;(try simp at b);exact (jh hX (by simp[-Qc,-Qb,hS2,hP1,hP2,hfx];rfl))) (k:=(jh hX Zi)))) ?_
  refine Q0 [0,2,3,4] (jh hX Zi) ?_
  refine Q5 (Q0 [0,2,3,4,24] (jh hX Zi) ?_)
  refine jd (fun h4=> ?_) (fun h4=> ?_)
  ·try simp at h4
   all_goals
    refine Qd (js hX 2 Z1s (Q8.call [] rfl Z3 rfl Zi Z8 (by apply Qc5<;>exact Z0) Qcb Z3 Z3 Zi (js hX 1 (by simp[h4,hS2,hP1,hP2,hfx];(try (simp (disch:=omega) only[Q7];(try simp[h4,hS2,hP1,hP2,hfx])));rfl) (Q8.call [0] rfl Z3 rfl Zi Z8 (by first|(apply Q2h (n:=2)<;>exact Z0;done)|(apply Q2h (n:=1)<;>exact Z0;done)) Qe Z3 Z3 Zi (jh hX Z1s))))) ?_
    have hL1:=Q29 k st 1
    have hL2:=Q29 k st 2
    refine Q0 [0,2,3,4,5] (js hX 1 Z1s (Q8.call [0] rfl Z3 rfl Zi Z8 Z18 Q18 Z3 Z3 Zi jf)) ?_
    refine jK 12 [0,1,2,3,4,5,6,7,8,9] (.two 10 11 (.one 11 .tail) (.one 10 .tail)) [0,2,3,4,5,6] ([0,1]) hX Z1s (.two (jN (p:=fun X hX=>(Q8.call [] rfl Z3 rfl Zi Z8 (by apply Q5k<;>exact Z0) Q5p Z3 Z3 Zi jf)) (k:=(jN (p:=fun X hX=>(jh hX Z1s)) (k:=.tail)))) (jN (p:=fun X hX=>(jh hX Z1s)) (k:=(jN (p:=fun X hX=>(Q8.call [] rfl Z3 rfl Zi Z8 (by apply Q5k<;>exact Z0) Q5p Z3 Z3 Zi jf)) (k:=.tail))))) (jh hX Z1s) ?_
    refine Q0 [0,2,3,4,5,6] (js hX 6 Z1s (Q8.call [0] rfl Z3 rfl Zi Z8 Ze Qa Z3 Z3 Zi jf)) ?_
    refine Q5 (Q0 [0,2,3,4,5,6,58] (jh hX Z1s) ?_)
    refine jd (fun h10=> ?_) (fun h10=> ?_)
    ·try simp at h10
     refine Q4 (Qq Z1s Z17 (.of_eq ?_) ?_)
     all_goals clear hX
     ·skip
      rfl
     ·skip
      (simp_all[fdS,Qh5,Qn9,Qy])<;>congr
    ·try simp at h10
     have hx:=Qwa h10
     obtain ⟨hf1,hf2⟩:=ff_e hw F.i.name F.i.desc (Qu F.l F.i.cls) hx.2
     rw[hfx] at hf1 hf2
     refine Q3 (jL 11 [0,1,2,3,4,5,6,7,9] [8,10] [0,2,3,4,5] ([0,1,4]) hX Z1s (jH (p:=fun X hX=>(Q8.call [] rfl Z3 rfl Zi Z8 (by apply Qcz<;>exact Z0) Qd3 Z3 Z3 Zi jf)) (k:=(jH (p:=fun X hX=>(jh hX Z1s)) (k:=.nil)))) (Q8.call [0] rfl Z3 rfl Zi Z8 Ze Qa Z3 Z3 Zi jf) ?_)
     refine Q5 (Q0 [0,2,4,5,72] (jh hX Z1s) ?_)
     refine jd (fun h12=> ?_) (fun h12=> ?_)
     ·try simp at h12
      all_goals
       refine Q2q (n:=7) (A:=[0,1,2,3,4,5]) (B:=[6]) (L:=[1,3]) hmo (by kernel_rfl) tok hX Z1t (jH (p:=fun X hX=>(Q8.call [] rfl Z3 rfl Zi Z8 Zp Q14 Z3 Z3 Zi jf)) (k:=.nil)) (Q8.call [0] rfl Z3 rfl Zi Z8 Z1a Q1e Z3 Z3 Zi jf) ?_
       refine Q0 [0,2,5,81] (jh hX Z1t) ?_
       refine jd (fun h14=> ?_) (fun h14=> ?_)
       ·try simp at h14
        all_goals
         refine Q2q (n:=10) (A:=[0,1,2,3,4,5,6,7,8]) (B:=[9]) (L:=[1,3]) hmo (by kernel_rfl) tok hX Z1t (jH (p:=fun X hX=>(Q8.call [] rfl Z3 rfl Zi Z8 (by apply Q2w<;>exact Z0) Q2x Z3 Z3 Zi jf)) (k:=.nil)) (Q8.call [0] rfl Z3 rfl Zi Z8 Z1a Q1e Z3 Z3 Zi jf) ?_
         refine Ql Z1t Z17 (.of_eq ?_) ?_
         all_goals clear hX
         ·skip
          rfl
         ·skip
          (simp_all[fdS,Qh5,Qn9,Qy])<;>congr
       ·try simp at h14
        all_goals
         refine Qd (js hX 3 Z1t (Q8.call [] rfl Z3 rfl Zi Z8 (by apply Q2w<;>exact Z0) Q2x Z3 Z3 Zi (Q8.call [0] rfl Z3 rfl Zi Z8 Z14 Qh Z3 Z3 Zi jf))) ?_
         refine Ql Z1t Z17 (.of_eq ?_) ?_
         all_goals clear hX
         ·skip
          rfl
         ·skip
          (simp_all[fdS,Qh5,Qn9,Qy])<;>congr
     ·try simp at h12
      all_goals
       refine Q3 (Q0 [0,2,5,81] (jh hX Z1t) ?_)
       refine jd (fun h14=> ?_) (fun h14=> ?_)
       ·try simp at h14
        all_goals
         refine Q2q (n:=10) (A:=[0,1,2,3,4,5,6,7,8]) (B:=[9]) (L:=[1,3]) hmo (by kernel_rfl) tok hX Z1t (jH (p:=fun X hX=>(Q8.call [] rfl Z3 rfl Zi Z8 (by apply Q2w<;>exact Z0) Q2x Z3 Z3 Zi jf)) (k:=.nil)) (Q8.call [0] rfl Z3 rfl Zi Z8 Z1a Q1e Z3 Z3 Zi jf) ?_
         refine Ql Z1t Z17 (.of_eq ?_) ?_
         all_goals clear hX
         ·skip
          rfl
         ·skip
          (simp_all[fdS,Qh5,Qn9,Qy])<;>congr
       ·try simp at h14
        all_goals
         refine Qd (js hX 3 Z1t (Q8.call [] rfl Z3 rfl Zi Z8 (by apply Q2w<;>exact Z0) Q2x Z3 Z3 Zi (Q8.call [0] rfl Z3 rfl Zi Z8 Z14 Qh Z3 Z3 Zi jf))) ?_
         refine Ql Z1t Z17 (.of_eq ?_) ?_
         all_goals clear hX
         ·skip
          rfl
         ·skip
          (simp_all[fdS,Qh5,Qn9,Qy])<;>congr
  ·try simp at h4
   all_goals
    refine Qd (js hX 2 Z1s (Q8.call [] rfl Z3 rfl Zi Z8 (by apply Qc5<;>exact Z0) Qcb Z3 Z3 Zi (Q8.call [0] rfl Z3 rfl Zi Z8 (by first|(apply Q2h (n:=1)<;>exact Z0;done)|(apply Q2h (n:=0)<;>exact Z0;done)) Qe Z3 Z3 Zi (jh hX Z1s)))) ?_
    have hL0:=Q29 k st 0
    have hL1:=Q29 k st 1
    refine Q0 [0,2,3,4,5] (js hX 1 Z1s (Q8.call [0] rfl Z3 rfl Zi Z8 Z18 Q18 Z3 Z3 Zi jf)) ?_
    refine jK 12 [0,1,2,3,4,5,6,7,8,9] (.two 10 11 (.one 11 .tail) (.one 10 .tail)) [0,2,3,4,5,6] ([0,1]) hX Z1s (.two (jN (p:=fun X hX=>(Q8.call [] rfl Z3 rfl Zi Z8 (by apply Q5k<;>exact Z0) Q5p Z3 Z3 Zi jf)) (k:=(jN (p:=fun X hX=>(jh hX Z1s)) (k:=.tail)))) (jN (p:=fun X hX=>(jh hX Z1s)) (k:=(jN (p:=fun X hX=>(Q8.call [] rfl Z3 rfl Zi Z8 (by apply Q5k<;>exact Z0) Q5p Z3 Z3 Zi jf)) (k:=.tail))))) (jh hX Z1s) ?_
    refine Q0 [0,2,3,4,5,6] (js hX 6 Z1s (Q8.call [0] rfl Z3 rfl Zi Z8 Ze Qa Z3 Z3 Zi jf)) ?_
    refine Q5 (Q0 [0,2,3,4,5,6,58] (jh hX Z1s) ?_)
    refine jd (fun h10=> ?_) (fun h10=> ?_)
    ·try simp at h10
     refine Q4 (Qq Z1s Z17 (.of_eq ?_) ?_)
     all_goals clear hX
     ·skip
      rfl
     ·skip
      (simp_all[fdS,Qh5,Qn9,Qy])<;>congr
    ·try simp at h10
     have hx:=Qwa h10
     obtain ⟨hf1,hf2⟩:=ff_e hw F.i.name F.i.desc (Qu F.l F.i.cls) hx.2
     rw[hfx] at hf1 hf2
     refine Q3 (jL 11 [0,1,2,3,4,5,6,7,9] [8,10] [0,2,3,4,5] ([0,1,4]) hX Z1s (jH (p:=fun X hX=>(Q8.call [] rfl Z3 rfl Zi Z8 (by apply Qcz<;>exact Z0) Qd3 Z3 Z3 Zi jf)) (k:=(jH (p:=fun X hX=>(jh hX Z1s)) (k:=.nil)))) (Q8.call [0] rfl Z3 rfl Zi Z8 Ze Qa Z3 Z3 Zi jf) ?_)
     refine Q5 (Q0 [0,2,4,5,72] (jh hX Z1s) ?_)
     refine jd (fun h12=> ?_) (fun h12=> ?_)
     ·try simp at h12
      all_goals
       refine Q2q (n:=7) (A:=[0,1,2,3,4,5]) (B:=[6]) (L:=[1,3]) hmo (by kernel_rfl) tok hX Z1t (jH (p:=fun X hX=>(Q8.call [] rfl Z3 rfl Zi Z8 Zp Q14 Z3 Z3 Zi jf)) (k:=.nil)) (Q8.call [0] rfl Z3 rfl Zi Z8 Z1a Q1e Z3 Z3 Zi jf) ?_
       refine Q0 [0,2,5,81] (jh hX Z1t) ?_
       refine jd (fun h14=> ?_) (fun h14=> ?_)
       ·try simp at h14
        all_goals
         refine Q2q (n:=10) (A:=[0,1,2,3,4,5,6,7,8]) (B:=[9]) (L:=[1,3]) hmo (by kernel_rfl) tok hX Z1t (jH (p:=fun X hX=>(Q8.call [] rfl Z3 rfl Zi Z8 (by apply Q2w<;>exact Z0) Q2x Z3 Z3 Zi jf)) (k:=.nil)) (Q8.call [0] rfl Z3 rfl Zi Z8 Z1a Q1e Z3 Z3 Zi jf) ?_
         refine Ql Z1t Z17 (.of_eq ?_) ?_
         all_goals clear hX
         ·skip
          rfl
         ·skip
          (simp_all[fdS,Qh5,Qn9,Qy])<;>congr
       ·try simp at h14
        all_goals
         refine Qd (js hX 3 Z1t (Q8.call [] rfl Z3 rfl Zi Z8 (by apply Q2w<;>exact Z0) Q2x Z3 Z3 Zi (Q8.call [0] rfl Z3 rfl Zi Z8 Z14 Qh Z3 Z3 Zi jf))) ?_
         refine Ql Z1t Z17 (.of_eq ?_) ?_
         all_goals clear hX
         ·skip
          rfl
         ·skip
          (simp_all[fdS,Qh5,Qn9,Qy])<;>congr
     ·try simp at h12
      all_goals
       refine Q3 (Q0 [0,2,5,81] (jh hX Z1t) ?_)
       refine jd (fun h14=> ?_) (fun h14=> ?_)
       ·try simp at h14
        all_goals
         refine Q2q (n:=10) (A:=[0,1,2,3,4,5,6,7,8]) (B:=[9]) (L:=[1,3]) hmo (by kernel_rfl) tok hX Z1t (jH (p:=fun X hX=>(Q8.call [] rfl Z3 rfl Zi Z8 (by apply Q2w<;>exact Z0) Q2x Z3 Z3 Zi jf)) (k:=.nil)) (Q8.call [0] rfl Z3 rfl Zi Z8 Z1a Q1e Z3 Z3 Zi jf) ?_
         refine Ql Z1t Z17 (.of_eq ?_) ?_
         all_goals clear hX
         ·skip
          rfl
         ·skip
          (simp_all[fdS,Qh5,Qn9,Qy])<;>congr
       ·try simp at h14
        all_goals
         refine Qd (js hX 3 Z1t (Q8.call [] rfl Z3 rfl Zi Z8 (by apply Q2w<;>exact Z0) Q2x Z3 Z3 Zi (Q8.call [0] rfl Z3 rfl Zi Z8 Z14 Qh Z3 Z3 Zi jf))) ?_
         refine Ql Z1t Z17 (.of_eq ?_) ?_
         all_goals clear hX
         ·skip
          rfl
         ·skip
          (simp_all[fdS,Qh5,Qn9,Qy])<;>congr
end Go.Proofs
namespace Go.Proofs
open Go Go.Ev
theorem Q3m:Q6 Tryz.prog 242:=jcb Tryz.func242
theorem Q3l{l:List Cls}{c n d:Str}(hl:Q1r l≤1099511627776)(hw:Qx l=true):Ct Tryz.prog 242 [.lst false 6 (l.map eC),.str c,.str n,.str d] [] (eFd (fmL l n d (Qu l c)).1) []:=by
 have hll:l.length≤1099511627776:=by unfold Q1r at hl;omega
 have hsz: ∀{k:Nat} (h:k<l.length),Q1n l[k]≤1099511627776:=fun h=>Nat.le_trans (Q4v h) hl
 refine jbS Tryz.func242 55 fun X hX=> ?_
 refine jq [0,1,2,3,8] ?_
 refine Q5 (Q0 [0,1,2,3,8,21] (jt 1 (k:=(jc [] (c:=(by apply Q7q<;>first|assumption|omega|exact hsz hp|(have:=hsz hp;simp only[Q1n] at this;omega))) (a:=Q6d) (k:=(jt 2 (k:=(jm 3 14 [0,1,2,3,8,17] (p:=Z1p) (q:=Z1p) (k:=(jt 1 (k:=(jm 3 18 [0,1,2,3,8,21] (p:=Z1p) (q:=Z1p) (k:=jf)))))))))))) ?_)
 refine jd (fun h1=> ?_) (fun h1=> ?_)
 ·try simp at h1
  refine Q0 [8] (jh hX Zx) ?_
  refine Q4 (je Zx ?_)
  obtain ⟨⟨e1,e2⟩,e3⟩:=h1
  rw[Q122 hw e1 e2 e3]
  rfl
 ·try simp at h1
  refine Q3 (Q5 (Q0 [0,2,3,8,9] (jt 2 (k:=(jc [] (c:=(by apply Q2l<;>first|assumption|omega|exact hsz hp|(have:=hsz hp;simp only[Q1n] at this;omega))) (a:=Q1j) (k:=jr)))) ?_))
  refine Q9 (Qo (α:=Int) [0,2,3,8,9] (fun k=>[(9,.int .i64 k)]) (fun k=>[]) (fun k=>(-1≤k∧k<l.length)∧fmU l n d k=(fmL l n d (Qu l c)).1) (fun k=>rkU l k) (Qk c l 0) (fun k=>by simp;rfl) Z3 ?_ ?_)
  ·exact ⟨Qh3,Q121 hw (by simpa[Qm,Qh7] using h1)⟩
  rintro k ⟨hk,hI⟩
  refine Q5 (jq [0,2,3,8,9,28] ?_)
  refine jd (fun h4=> ?_) (fun h4=> ?_)
  ·try simp at h4
   obtain ⟨p,rfl⟩: ∃j:Nat,k=j:=⟨k.toNat,by omega⟩
   have hp:p<l.length:=by omega
   rw[Q159 hw hp] at hI
   refine Q3 (Q5 (Q9 (Q0 [0,2,3,8,9,10] (js hX 6 (by simp[h1,h4,hp];rfl) (jc [] (c:=(by apply Q78<;>first|assumption|omega|exact hsz hp|(have:=hsz hp;simp only[Q1n] at this;omega))) (a:=Q7c) (k:=jr))) ?_)))
   refine Q5 (jq [0,2,3,8,9,10,44] ?_)
   refine jd (fun h7=> ?_) (fun h7=> ?_)
   ·try simp at h7
    refine Q0 [8] (jh hX (by simp[h1,h4,hp,h7];rfl)) ?_
    refine Q4 (je (by simp[h1,h4,hp,h7];rfl) ?_)
    rw[if_pos (by simpa[hp] using h7)] at hI
    rw[←hI]
    simp[hp]
   ·try simp at h7
    rw[if_neg (by simpa[hp] using h7)] at hI
    refine Q3 (jq [0,2,3,8,9,53] ?_)
    refine jd (fun h9=> ?_) (fun h9=> ?_)
    ·try simp at h9
     refine Qr (Q0 [8] (jh hX (by simp[h1,h4,hp,h7];rfl)) ?_)
     refine Q4 (je (by simp[h1,h4,hp,h7];rfl) ?_)
     first
      |(rw[if_pos (by simpa[Qm] using h9)] at hI;rw[←hI];rfl)
      |(rw[←hI,Qyz Za];rfl)
    ·try simp at h9
     rw[if_neg (by simpa[Qm] using h9)] at hI
     refine Q3 (Qd (js hX 6 (by simp[h1,h4,hp,h7];rfl) (jc [] (c:=(by apply Q2l<;>first|assumption|omega|exact hsz hp|(have:=hsz hp;simp only[Q1n] at this;omega))) (a:=Q1j) (k:=jr))) ?_)
     refine Qp (nxt l p) [0,2,3,8,9] (by simp[Qbg,hp]) ?_ ?_
     ·exact ⟨@Qay l p,hI⟩
     ·exact Qxd hw hp
  ·try simp at h4
   refine Qr (Q0 [8] (jh hX (by simp[h1,h4];rfl)) ?_)
   refine Q4 (je (by simp[h1,h4];rfl) ?_)
   first
    |(rw[if_pos (by simpa[Qm] using h9)] at hI;rw[←hI];rfl)
    |(rw[←hI,Qyz Za];rfl)
end Go.Proofs
namespace Go.Proofs
open Go Go.Ev
theorem Q4q:Q6 Tryz.prog 243:=jcb Tryz.func243
theorem Q4p{l:List Cls}{x:Fnd}(hs:Q1r l≤1048576)(hc:(x.p= -1)∨(0≤Qk x.c l 0∧ ∃j:Nat,x.p=j∧j<(Q1u l x.c).methods.length)):Ct Tryz.prog 243 [.lst false 6 (l.map eC),eFd x] [] (eM (Qsv l x)) []:=by
 have hll:l.length≤1099511627776:=by unfold Q1r at hs;omega
 refine jbS Tryz.func243 21 fun X hX=> ?_
 refine jq [0,3,4] ?_
 refine Q5 (jq [0,3,4,7] ?_)
 refine jd (fun h1=> ?_) (fun h1=> ?_)
 ·try simp at h1
  refine Q0 [4] (jh hX Zx) ?_
  refine Q4 (Q1z Zx ?_ rfl)
  rw[Qsv,if_pos Za];exact Qvo _ _
 ·try simp at h1
  obtain ⟨hc,j,hj,hjl⟩:=hc.resolve_left Za
  obtain ⟨q,hq,e1,_,e3,_⟩:=Q53 hc
  rw[Qsv,if_neg Za,e3,hj,Int.toNat_natCast]
  rw[e3] at hjl
  refine Q3 (jL 10 [0,1,2,3,8,9] [4,5,6,7] [4] ([0]) hX (by simp[h1,e1,hq,hj,hjl];rfl) (jH (p:=fun X hX=>(jc [] (c:=(by apply Q2l<;>exact Z20)) (a:=Q1j) (k:=jf))) (k:=(jH (p:=fun X hX=>(jh hX (by simp[h1,e1,hq,hj,hjl];rfl))) (k:=(jH (p:=fun X hX=>(jh hX (by simp[h1,e1,hq,hj,hjl];rfl))) (k:=(jH (p:=fun X hX=>(jh hX (by simp[h1,e1,hq,hj,hjl];rfl))) (k:=.nil)))))))) (jh hX (by simp[h1,e1,hq,hj,hjl];rfl)) ?_)
  refine Q4 (Q1z (by simp[h1,e1,hq,hj,hjl];rfl) ?_ rfl)
  rw[Qb hjl];exact Wk.refl _
end Go.Proofs
namespace Go.Proofs
open Go Go.Ev
theorem Q1b:Q6 Tryz.prog 244:=jcb Tryz.func244
theorem Q9i{F:SF}{o1 o2:Bool}{st lo:List Typ}{k:Int}(hl:F.l.length≤1099511627776)(hw:Qx F.l=true){xs:List Typ}{off n:Nat}{ps:List Str}{r:Str}(hn:off+n≤xs.length)(hp:ps.length=n)(hn2:n≤1000)(ht: ∀p∈ps,p.length≤1099511627776):Ct Tryz.prog 244 [.ptr 0 0 0,.arr 1 off n,.agg [.lst false 1 (ps.map .str),.str r]] [some (25,[oSW F o1 o2 st lo k]),some (3,xs.map eT)] (.tup []) [some (25,[oSW F o1 o2 st lo (ndC k (Qco F.l xs off ps n) 10)]),some (3,xs.map eT)]:=by
 refine jbS Tryz.func244 26 fun X hX=> ?_
 refine Q0 [0,1,5] (jh hX (by simp[hp];rfl)) ?_
 refine Q0 [0,1,5,6] (jh hX (by simp[hp];rfl)) ?_
 refine Q9 (Qo (α:=Nat) [0,1,5,6] (fun j=>[(6,.int .i64 j)]) (fun j=>[(0,some (25,[oSW F o1 o2 st lo (ndC k (Qco F.l xs off ps j) 10)]))]) (fun j=>j≤n) (fun j=>n-j) (0) (fun j=>by simp;rfl) (by simp[Qco,Q14l]) ?_ ?_)
 ·simp
 rintro j hj
 refine Q5 (Q0 [0,1,5,6,11] (jh hX (by simp[hp];rfl)) ?_)
 refine jd (fun h2=> ?_) (fun h2=> ?_)
 ·try simp at h2
  have h2:j<ps.length:=by first|assumption|omega
  have hjn:j<n:=by omega
  have hjx:off+j<xs.length:=by omega
  have htj:=ht _ (List.getElem_mem h2)
  refine Q3 (Q5 (Q9 (Q2q (n:=11) (A:=[0,1,2,3,4,5,6,7,8,9]) (B:=[10]) (L:=[1,2]) hmo (by kernel_rfl) tok hX (by simp[h2,h2,hjn,hjx,hp];rfl) (jH (p:=fun X hX=>(Q8.call [] rfl Z3 rfl (by simp[hp];rfl) Z8 (by apply Q2w<;>first|assumption|omega|(simp;omega)) Q2x Z3 Z3 (by simp[hp];rfl) jf)) (k:=.nil)) (Q8.call [0] rfl Z3 rfl (by simp[hp];rfl) Z8 (by apply Qc4<;>first|assumption|omega|(simp;omega)) Q1e Z3 Z3 (by simp[hp];rfl) jf) ?_)))
  refine Qd (jh hX (by simp[h2,h2,hjn,hjx,hp];(try (simp (disch:=omega) only[Q7];(try simp[h2,h2,hjn,hjx,hp])));rfl)) ?_
  refine Qp (j+1) [0,1,5,6] (by simp[Qco,Qyt,h2,hjx];try (simp (disch:=omega) only[Q7])) ?_ ?_
  ·omega
  ·omega
 ·try simp at h2
  obtain rfl:j=n:=by omega
  refine Qr (Ql (by simp[h2,hp];rfl) Z17 (.of_eq ?_) ?_)
  all_goals clear hX
  ·skip
   rfl
  ·skip
   rfl
end Go.Proofs
namespace Go.Proofs
open Go Go.Ev
theorem Qs:Q6 Tryz.prog 245:=jcb Tryz.func245
theorem Qez{F:SF}{o1 o2:Bool}{st lo:List Typ}{k:Int}{ps:List V}{r:Str}(hs:st.length≤1000)(hr:r.length≤1099511627776):Ct Tryz.prog 245 [.ptr 0 0 0,.agg [.lst false 1 ps,.str r]] [some (25,[oSW F o1 o2 st lo k])] (.tup []) [some (25,[Qbf F (Qn1 r ⟨o1,o2,st,lo,k⟩)])]:=by
 refine jbS Tryz.func245 19 fun X hX=> ?_
 refine jq [0,3] ?_
 refine Q0 [0,3,13] (jt 4 (k:=(jm 6 7 [0,3,13] (p:=Z1p) (q:=Z1p) (k:=jf)))) ?_
 refine jd (fun h1=> ?_) (fun h1=> ?_)
 ·try simp at h1
  refine Qd (jt 3 (k:=(jc [] (c:=(by apply Q2w<;>first|assumption|omega|(simp;omega))) (a:=Q2x) (k:=(jc [0] (c:=(by apply Q1w<;>first|assumption|omega|(simp;omega))) (a:=Qh) (k:=jf)))))) ?_
  refine Ql Z8 Z17 (.of_eq ?_) ?_
  all_goals clear hX
  ·skip
   rfl
  ·skip
   simp only[Qn1]
   first|rw[if_pos h1]|rw[if_neg (fun e=>h1 e.1 e.2)]
   simp_all
 ·try simp at h1
  refine Q3 (Ql Z8 Z17 (.of_eq ?_) ?_)
  all_goals clear hX
  ·skip
   rfl
  ·skip
   simp only[Qn1]
   first|rw[if_pos h1]|rw[if_neg (fun e=>h1 e.1 e.2)]
   simp_all
end Go.Proofs
namespace Go.Proofs
open Go Go.Ev
theorem Qhq:Q6 Tryz.prog 172:=jcb Tryz.func172
theorem Qha{F:SF}{o1 o2:Bool}{st lo:List Typ}{k:Int}(hs:Q1r F.l≤1048576)(hw:Qx F.l=true)(hst:st.length≤500)(hlo:lo.length≤500)(hd:F.i.desc.length≤1099511627776)(hop:36≤F.i.op∧F.i.op≤38):Ct Tryz.prog 172 [.ptr 0 0 0] [some (25,[oSW F o1 o2 st lo k])] (.tup []) [some (25,[Qbf F (Q48 F o1 o2 st lo k)])]:=by
 have hl:F.l.length≤1099511627776:=by unfold Q1r at hs;omega
 have hdl:=Qak F.i.desc
 have hdr:=(Q9h F.i.desc).1
 have hdp: ∀p∈(Qg F.i.desc).params,p.length≤1099511627776:=fun p hp=>Nat.le_trans ((Q9h F.i.desc).2 p hp) hd
 have hfx:(fmL F.l F.i.name F.i.desc (Qu F.l F.i.cls)).1=Qvj F:=rfl
 rcases (by omega:F.i.op=36∨F.i.op=37∨F.i.op=38) with h|h|h
 all_goals by_cases hn:F.i.name=[60,105,110,105,116,62]
 all_goals first|have e36:(F.i.op=36)=(true=true):=by simp[h]|have e36:(F.i.op=36)=(false=true):=by simp[h]
 all_goals first|have e37:(F.i.op=37)=(true=true):=by simp[h]|have e37:(F.i.op=37)=(false=true):=by simp[h]
 all_goals first|have e38:(F.i.op=38)=(true=true):=by simp[h]|have e38:(F.i.op=38)=(false=true):=by simp[h]
 all_goals first|have en:(F.i.name=[60,105,110,105,116,62])=(true=true):=by simp[hn]|have en:(F.i.name=[60,105,110,105,116,62])=(false=true):=by simp[hn]
 all_goals clear h hn
 all_goals
  refine jbS Tryz.func172 225 fun X hX=> ?_
  refine Q0 [0,2] (jh hX Z2) ?_
  refine Q0 [0,2,3] (js hX 2 Z2 (Q8.callF rfl Z3 rfl Z2 (by apply Q69<;>exact Z0) Q6e (by (try simp[hfx,e36,e37,e38,en]);rfl) (jh hX Z2))) ?_
  refine jL 9 [0,1,2,3,4,5,6] [7,8] [0,2,3,4] ([1,2]) hX Z2 (jH (p:=fun X hX=>(Q8.call [] rfl Z3 rfl Z2 Z8 (by apply Qc5<;>exact Z0) Qcb Z3 Z3 Z2 jf)) (k:=(jH (p:=fun X hX=>(jh hX (by simp[hfx,e36,e37,e38,en];(try (simp (disch:=omega) only[Q7];(try simp[hfx,e36,e37,e38,en])));rfl))) (k:=.nil)))) (Q8.call [0] rfl Z3 rfl Z2 Z8 (by first|(apply Q2h (n:=(Qg F.i.desc).params.length+1)<;>exact Z0;done)|(apply Q2h (n:=(Qg F.i.desc).params.length)<;>exact Z0;done)) Qe Z3 Z3 Z2 (jh hX Z2)) ?_
  have hL1:=Q29 k st ((Qg F.i.desc).params.length+1)
  have hL0:=Q29 k st (Qg F.i.desc).params.length
  refine Q0 [0,2,3,4,5] (jh hX Z2) ?_
  refine Q5 (Q0 [0,2,3,4,5,33] (jh hX Z2) ?_)
  refine jd (fun h4=> ?_) (fun h4=> ?_)
  ·try simp at h4
   all_goals
    refine Qd (js hX 3 Z2 (Q8.call [0] rfl Z3 rfl Z2 Z8 Ze Qa Z3 Z3 Z2 jf)) ?_
    refine Q0 [0,2,3,4,5] (js hX 1 Z2 (Q8.call [0] rfl Z3 rfl Z2 Z8 Z18 Q18 Z3 Z3 Z2 jf)) ?_
    refine jK 12 [0,1,2,3,4,5,6,7,8,9] (.two 10 11 (.one 11 .tail) (.one 10 .tail)) [0,2,3,4,5,6] ([0,1]) hX Z2 (.two (jN (p:=fun X hX=>(Q8.call [] rfl Z3 rfl Z2 Z8 (by apply Q3l<;>exact Z0) Q3m Z3 Z3 Z2 jf)) (k:=(jN (p:=fun X hX=>(jh hX Z2)) (k:=.tail)))) (jN (p:=fun X hX=>(jh hX Z2)) (k:=(jN (p:=fun X hX=>(Q8.call [] rfl Z3 rfl Z2 Z8 (by apply Q3l<;>exact Z0) Q3m Z3 Z3 Z2 jf)) (k:=.tail))))) (jh hX Z2) ?_
    refine Q0 [0,2,3,4,5,6] (js hX 6 Z2 (Q8.call [0] rfl Z3 rfl Z2 Z8 Ze Qa Z3 Z3 Z2 jf)) ?_
    refine Q5 (Q0 [0,2,3,4,5,6,74] (jh hX Z2) ?_)
    refine jd (fun h11=> ?_) (fun h11=> ?_)
    ·try simp at h11
     refine Q4 (Qq Z2 Z17 (.of_eq ?_) ?_)
     all_goals clear hX
     ·skip
      rfl
     ·skip
      first|((simp_all[Q48,Q3u,Q4u,Q3f,Q50,Q34,ownB,Q4r,Qm,Qy,Bool.and_assoc])<;>congr;done)|(by_cases hk6:(atL (tkV k st ((Qg F.i.desc).params.length+1)) 0).k=6<;>by_cases hk7:(atL (tkV k st ((Qg F.i.desc).params.length+1)) 0).k=7<;>(simp_all[Q48,Q3u,Q4u,Q3f,Q50,Q34,ownB,Q4r,Qm,Qy,Bool.and_assoc])<;>congr)
    ·try simp at h11
     have hx:=Qwa h11
     obtain ⟨hm1,hm2⟩:=fm_e F.l F.i.name F.i.desc (Qu F.l F.i.cls) hx.2
     rw[hfx] at hm1 hm2
     replace hm1:=hm1.imp (fun h=>h.1) id
     refine Q3 (jK 7 [0,1,2,3,4] (.two 5 6 (.one 6 .tail) (.one 5 .tail)) [0,2,3,4,5,7] ([0,4]) hX Z2 (.two (jN (p:=fun X hX=>(Q8.call [] rfl Z3 rfl Z2 Z8 (by apply Q4p<;>exact Z0) Q4q Z3 Z3 Z2 jf)) (k:=(jN (p:=fun X hX=>(jh hX Z2)) (k:=.tail)))) (jN (p:=fun X hX=>(jh hX Z2)) (k:=(jN (p:=fun X hX=>(Q8.call [] rfl Z3 rfl Z2 Z8 (by apply Q4p<;>exact Z0) Q4q Z3 Z3 Z2 jf)) (k:=.tail))))) (jh hX Z2) ?_)
     refine Q5 (Q9 (Q0 [0,2,3,4,5,7,115] (jh hX Z2) ?_))
     refine jd (fun h16=> ?_) (fun h16=> ?_)
     ·try simp at h16
      all_goals
       refine Q0 [0,2,3,4] (js hX 4 Z2 (Q8.call [0] rfl Z3 rfl Z2 Z8 Ze Qa Z3 Z3 Z2 jf)) ?_
       refine jL 7 [0,1,2,3,4,5] [6] [0,3,4] ([1,3]) hX Z2 (jH (p:=fun X hX=>(Q8.call [] rfl Z3 rfl Z2 Z8 Zp Q14 Z3 Z3 Z2 jf)) (k:=.nil)) (Q8.call [0] rfl Z3 rfl Z2 Z8 Z1a Q1e Z3 Z3 Z2 jf) ?_
       refine Q2q (n:=4) (A:=[0,1,2,3]) (B:=[]) (L:=[2]) hmo (by kernel_rfl) tok hX Z2 .nil (Q8.call [0,3] rfl Z3 rfl Z2 Z8 Z7 Q1b Z3 Z3 Z2 jf) ?_
       refine Qd (js hX 2 Z2 (Q8.call [0] rfl Z3 rfl Z2 Z8 Zm Qs Z3 Z3 Z2 jf)) ?_
       refine Ql Z2 Z17 (.of_eq ?_) ?_
       all_goals clear hX
       ·skip
        rfl
       ·skip
        first|((simp_all[Q48,Q3u,Q4u,Q3f,Q50,Q34,ownB,Q4r,Qm,Qy,Bool.and_assoc])<;>congr;done)|(by_cases hk6:(atL (tkV k st ((Qg F.i.desc).params.length+1)) 0).k=6<;>by_cases hk7:(atL (tkV k st ((Qg F.i.desc).params.length+1)) 0).k=7<;>(simp_all[Q48,Q3u,Q4u,Q3f,Q50,Q34,ownB,Q4r,Qm,Qy,Bool.and_assoc])<;>congr)
     ·try simp at h16
      all_goals
       refine Q0 [0,2,3,4,5,7,137] (jh hX Z2) ?_
       refine jd (fun h20=> ?_) (fun h20=> ?_)
       ·try simp at h20
        all_goals
         refine Q0 [0,3,4] (js hX 3 Z2 (Q8.call [0] rfl Z3 rfl Z2 Z8 Ze Qa Z3 Z3 Z2 jf)) ?_
         refine Qd (js hX 3 Z2 (Q8.call [0,3] rfl Z3 rfl Z2 Z8 Z7 Q1b Z3 Z3 Z2 jf)) ?_
         refine Qd (js hX 2 Z2 (Q8.call [0] rfl Z3 rfl Z2 Z8 Zm Qs Z3 Z3 Z2 jf)) ?_
         refine Ql Z2 Z17 (.of_eq ?_) ?_
         all_goals clear hX
         ·skip
          rfl
         ·skip
          first|((simp_all[Q48,Q3u,Q4u,Q3f,Q50,Q34,ownB,Q4r,Qm,Qy,Bool.and_assoc])<;>congr;done)|(by_cases hk6:(atL (tkV k st ((Qg F.i.desc).params.length+1)) 0).k=6<;>by_cases hk7:(atL (tkV k st ((Qg F.i.desc).params.length+1)) 0).k=7<;>(simp_all[Q48,Q3u,Q4u,Q3f,Q50,Q34,ownB,Q4r,Qm,Qy,Bool.and_assoc])<;>congr)
       ·try simp at h20
        all_goals
         refine Q0 [0,2,3,4,7,149] (jh hX Z2) ?_
         refine jd (fun h23=> ?_) (fun h23=> ?_)
         ·try simp at h23
          all_goals
           refine jD [0,2,3,4,8] (jS 6 Z2 (jM 8 156 [0,2,3,4,164] (p:=by intro b;(try simp at b);exact (jQ Zo)) (q:=by intro b;(try simp at b);exact (jQ Zo)) (k:=(jQ Z2)))) ?_
           refine jD [0,2,3,4,8,9] (jS 6 Z2 (jM 19 170 [0,2,3,4,8,189] (p:=by intro b;(try simp at b);exact (jS 9 Zo (jM 9 179 [0,2,3,4,8,170,188] (p:=by intro b;(try simp at b);exact (jQ Zo)) (q:=by intro b;(try simp at b);exact (jQ Zo)) (k:=(jQ Zo))))) (q:=by intro b;(try simp at b);exact (jQ Zo)) (k:=(jQ Z2)))) ?_
           refine Q0 [0,2,3,4,8,9] (js hX 3 Z2 (jm 2 192 [0,2,3,4,8,9,190,194] (p:=Z26) (q:=Z26) (k:=(Q8.call [0] rfl Z3 rfl Z2 Z8 Ze Qa Z3 Z3 Z2 jf)))) ?_
           refine jL 4 [0,1,2,3] [] [0,2,3,4,8,9] ([2]) hX Z2 .nil (Q8.call [0,3] rfl Z3 rfl Z2 Z8 Z7 Q1b Z3 Z3 Z2 jf) ?_
           refine Q0 [0,2,3,4,9,201] (jh hX Z2) ?_
           refine jd (fun h28=> ?_) (fun h28=> ?_)
           ·try simp at h28
            refine Q2q (n:=7) (A:=[0,1,2,3,4,5]) (B:=[6]) (L:=[1,3]) hmo (by kernel_rfl) tok hX Z2 (jH (p:=fun X hX=>(Q8.call [] rfl Z3 rfl Z2 Z8 Zp Q14 Z3 Z3 Z2 jf)) (k:=.nil)) (Q8.call [0] rfl Z3 rfl Z2 Z8 (by apply Q2o<;>exact Z0) Q2p Z3 Z3 Z2 jf) ?_
            refine Qd (js hX 2 Z2 (Q8.call [0] rfl Z3 rfl Z2 Z8 Zm Qs Z3 Z3 Z2 jf)) ?_
            refine Ql Z2 Z17 (.of_eq ?_) ?_
            all_goals clear hX
            ·skip
             rfl
            ·skip
             first|((simp_all[Q48,Q3u,Q4u,Q3f,Q50,Q34,ownB,Q4r,Qm,Qy,Bool.and_assoc])<;>congr;done)|(by_cases hk6:(atL (tkV k st ((Qg F.i.desc).params.length+1)) 0).k=6<;>by_cases hk7:(atL (tkV k st ((Qg F.i.desc).params.length+1)) 0).k=7<;>(simp_all[Q48,Q3u,Q4u,Q3f,Q50,Q34,ownB,Q4r,Qm,Qy,Bool.and_assoc])<;>congr)
           ·try simp at h28
            refine Q0 [0,3,4,210] (jh hX Z2) ?_
            refine jd (fun h30=> ?_) (fun h30=> ?_)
            ·try simp at h30
             refine Q2q (n:=10) (A:=[0,1,2,3,4,5,6,7,8]) (B:=[9]) (L:=[0,3]) hmo (by kernel_rfl) tok hX Z2 (jH (p:=fun X hX=>(Q8.call [] rfl Z3 rfl Z2 Z8 Zp Q14 Z3 Z3 Z2 jf)) (k:=.nil)) (Q8.call [0] rfl Z3 rfl Z2 Z8 (by apply Q2o<;>exact Z0) Q2p Z3 Z3 Z2 jf) ?_
             refine Qd (js hX 2 Z2 (Q8.call [0] rfl Z3 rfl Z2 Z8 Zm Qs Z3 Z3 Z2 jf)) ?_
             refine Ql Z2 Z17 (.of_eq ?_) ?_
             all_goals clear hX
             ·skip
              rfl
             ·skip
              first|((simp_all[Q48,Q3u,Q4u,Q3f,Q50,Q34,ownB,Q4r,Qm,Qy,Bool.and_assoc])<;>congr;done)|(by_cases hk6:(atL (tkV k st ((Qg F.i.desc).params.length+1)) 0).k=6<;>by_cases hk7:(atL (tkV k st ((Qg F.i.desc).params.length+1)) 0).k=7<;>(simp_all[Q48,Q3u,Q4u,Q3f,Q50,Q34,ownB,Q4r,Qm,Qy,Bool.and_assoc])<;>congr)
            ·try simp at h30
             refine Q3 (Qd (js hX 2 Z2 (Q8.call [0] rfl Z3 rfl Z2 Z8 Zm Qs Z3 Z3 Z2 jf)) ?_)
             refine Ql Z2 Z17 (.of_eq ?_) ?_
             all_goals clear hX
             ·skip
              rfl
             ·skip
              first|((simp_all[Q48,Q3u,Q4u,Q3f,Q50,Q34,ownB,Q4r,Qm,Qy,Bool.and_assoc])<;>congr;done)|(by_cases hk6:(atL (tkV k st ((Qg F.i.desc).params.length+1)) 0).k=6<;>by_cases hk7:(atL (tkV k st ((Qg F.i.desc).params.length+1)) 0).k=7<;>(simp_all[Q48,Q3u,Q4u,Q3f,Q50,Q34,ownB,Q4r,Qm,Qy,Bool.and_assoc])<;>congr)
         ·try simp at h23
          all_goals
           refine Q0 [0,3,4] (js hX 5 Z2 (jm 4 85 [0,3,4,81,89] (p:=Z26) (q:=Z26) (k:=(js hX 1 Z2 (jm 7 90 [0,3,4,81,97] (p:=Z26) (q:=Z26) (k:=(Q8.call [0] rfl Z3 rfl Z2 Z8 Ze Qa Z3 Z3 Z2 jf))))))) ?_
           refine jL 10 [0,1,2,3,4,5,6,7,8] [9] [0,3,4] ([0,3]) hX Z2 (jH (p:=fun X hX=>(Q8.call [] rfl Z3 rfl Z2 Z8 Zp Q14 Z3 Z3 Z2 jf)) (k:=.nil)) (Q8.call [0] rfl Z3 rfl Z2 Z8 Z1a Q1e Z3 Z3 Z2 jf) ?_
           refine Q2q (n:=4) (A:=[0,1,2,3]) (B:=[]) (L:=[2]) hmo (by kernel_rfl) tok hX Z2 .nil (Q8.call [0,3] rfl Z3 rfl Z2 Z8 Z7 Q1b Z3 Z3 Z2 jf) ?_
           refine Qd (js hX 2 Z2 (Q8.call [0] rfl Z3 rfl Z2 Z8 Zm Qs Z3 Z3 Z2 jf)) ?_
           refine Ql Z2 Z17 (.of_eq ?_) ?_
           all_goals clear hX
           ·skip
            rfl
           ·skip
            first|((simp_all[Q48,Q3u,Q4u,Q3f,Q50,Q34,ownB,Q4r,Qm,Qy,Bool.and_assoc])<;>congr;done)|(by_cases hk6:(atL (tkV k st ((Qg F.i.desc).params.length+1)) 0).k=6<;>by_cases hk7:(atL (tkV k st ((Qg F.i.desc).params.length+1)) 0).k=7<;>(simp_all[Q48,Q3u,Q4u,Q3f,Q50,Q34,ownB,Q4r,Qm,Qy,Bool.and_assoc])<;>congr)
  ·try simp at h4
   all_goals
    refine Q0 [0,2,3,4,5,39] (jh hX Z2) ?_
    refine jd (fun h6=> ?_) (fun h6=> ?_)
    ·try simp at h6
     all_goals
      refine Q2q (n:=9) (A:=[0,1,2,3,4,5,6,7,8]) (B:=[]) (L:=[0,1]) hmo (by kernel_rfl) tok hX Z2 .nil (Q8.call [0] rfl Z3 rfl Z2 Z8 Ze Qa Z3 Z3 Z2 jf) ?_
      refine Q0 [0,2,3,4,5] (js hX 1 Z2 (Q8.call [0] rfl Z3 rfl Z2 Z8 Z18 Q18 Z3 Z3 Z2 jf)) ?_
      refine jK 12 [0,1,2,3,4,5,6,7,8,9] (.two 10 11 (.one 11 .tail) (.one 10 .tail)) [0,2,3,4,5,6] ([0,1]) hX Z2 (.two (jN (p:=fun X hX=>(Q8.call [] rfl Z3 rfl Z2 Z8 (by apply Q3l<;>exact Z0) Q3m Z3 Z3 Z2 jf)) (k:=(jN (p:=fun X hX=>(jh hX Z2)) (k:=.tail)))) (jN (p:=fun X hX=>(jh hX Z2)) (k:=(jN (p:=fun X hX=>(Q8.call [] rfl Z3 rfl Z2 Z8 (by apply Q3l<;>exact Z0) Q3m Z3 Z3 Z2 jf)) (k:=.tail))))) (jh hX Z2) ?_
      refine Q0 [0,2,3,4,5,6] (js hX 6 Z2 (Q8.call [0] rfl Z3 rfl Z2 Z8 Ze Qa Z3 Z3 Z2 jf)) ?_
      refine Q5 (Q0 [0,2,3,4,5,6,74] (jh hX Z2) ?_)
      refine jd (fun h11=> ?_) (fun h11=> ?_)
      ·try simp at h11
       refine Q4 (Qq Z2 Z17 (.of_eq ?_) ?_)
       all_goals clear hX
       ·skip
        rfl
       ·skip
        first|((simp_all[Q48,Q3u,Q4u,Q3f,Q50,Q34,ownB,Q4r,Qm,Qy,Bool.and_assoc])<;>congr;done)|(by_cases hk6:(atL (tkV k st ((Qg F.i.desc).params.length+1)) 0).k=6<;>by_cases hk7:(atL (tkV k st ((Qg F.i.desc).params.length+1)) 0).k=7<;>(simp_all[Q48,Q3u,Q4u,Q3f,Q50,Q34,ownB,Q4r,Qm,Qy,Bool.and_assoc])<;>congr)
      ·try simp at h11
       have hx:=Qwa h11
       obtain ⟨hm1,hm2⟩:=fm_e F.l F.i.name F.i.desc (Qu F.l F.i.cls) hx.2
       rw[hfx] at hm1 hm2
       replace hm1:=hm1.imp (fun h=>h.1) id
       refine Q3 (jK 7 [0,1,2,3,4] (.two 5 6 (.one 6 .tail) (.one 5 .tail)) [0,2,3,4,5,7] ([0,4]) hX Z2 (.two (jN (p:=fun X hX=>(Q8.call [] rfl Z3 rfl Z2 Z8 (by apply Q4p<;>exact Z0) Q4q Z3 Z3 Z2 jf)) (k:=(jN (p:=fun X hX=>(jh hX Z2)) (k:=.tail)))) (jN (p:=fun X hX=>(jh hX Z2)) (k:=(jN (p:=fun X hX=>(Q8.call [] rfl Z3 rfl Z2 Z8 (by apply Q4p<;>exact Z0) Q4q Z3 Z3 Z2 jf)) (k:=.tail))))) (jh hX Z2) ?_)
       refine Q5 (Q9 (Q0 [0,2,3,4,5,7,115] (jh hX Z2) ?_))
       refine jd (fun h16=> ?_) (fun h16=> ?_)
       ·try simp at h16
        all_goals
         refine Q0 [0,2,3,4] (js hX 4 Z2 (Q8.call [0] rfl Z3 rfl Z2 Z8 Ze Qa Z3 Z3 Z2 jf)) ?_
         refine jL 7 [0,1,2,3,4,5] [6] [0,3,4] ([1,3]) hX Z2 (jH (p:=fun X hX=>(Q8.call [] rfl Z3 rfl Z2 Z8 Zp Q14 Z3 Z3 Z2 jf)) (k:=.nil)) (Q8.call [0] rfl Z3 rfl Z2 Z8 Z1a Q1e Z3 Z3 Z2 jf) ?_
         refine Q2q (n:=4) (A:=[0,1,2,3]) (B:=[]) (L:=[2]) hmo (by kernel_rfl) tok hX Z2 .nil (Q8.call [0,3] rfl Z3 rfl Z2 Z8 Z7 Q1b Z3 Z3 Z2 jf) ?_
         refine Qd (js hX 2 Z2 (Q8.call [0] rfl Z3 rfl Z2 Z8 Zm Qs Z3 Z3 Z2 jf)) ?_
         refine Ql Z2 Z17 (.of_eq ?_) ?_
         all_goals clear hX
         ·skip
          rfl
         ·skip
          first|((simp_all[Q48,Q3u,Q4u,Q3f,Q50,Q34,ownB,Q4r,Qm,Qy,Bool.and_assoc])<;>congr;done)|(by_cases hk6:(atL (tkV k st ((Qg F.i.desc).params.length+1)) 0).k=6<;>by_cases hk7:(atL (tkV k st ((Qg F.i.desc).params.length+1)) 0).k=7<;>(simp_all[Q48,Q3u,Q4u,Q3f,Q50,Q34,ownB,Q4r,Qm,Qy,Bool.and_assoc])<;>congr)
       ·try simp at h16
        all_goals
         refine Q0 [0,2,3,4,5,7,137] (jh hX Z2) ?_
         refine jd (fun h20=> ?_) (fun h20=> ?_)
         ·try simp at h20
          all_goals
           refine Q0 [0,3,4] (js hX 3 Z2 (Q8.call [0] rfl Z3 rfl Z2 Z8 Ze Qa Z3 Z3 Z2 jf)) ?_
           refine Qd (js hX 3 Z2 (Q8.call [0,3] rfl Z3 rfl Z2 Z8 Z7 Q1b Z3 Z3 Z2 jf)) ?_
           refine Qd (js hX 2 Z2 (Q8.call [0] rfl Z3 rfl Z2 Z8 Zm Qs Z3 Z3 Z2 jf)) ?_
           refine Ql Z2 Z17 (.of_eq ?_) ?_
           all_goals clear hX
           ·skip
            rfl
           ·skip
            first|((simp_all[Q48,Q3u,Q4u,Q3f,Q50,Q34,ownB,Q4r,Qm,Qy,Bool.and_assoc])<;>congr;done)|(by_cases hk6:(atL (tkV k st ((Qg F.i.desc).params.length+1)) 0).k=6<;>by_cases hk7:(atL (tkV k st ((Qg F.i.desc).params.length+1)) 0).k=7<;>(simp_all[Q48,Q3u,Q4u,Q3f,Q50,Q34,ownB,Q4r,Qm,Qy,Bool.and_assoc])<;>congr)
         ·try simp at h20
          all_goals
           refine Q0 [0,2,3,4,7,149] (jh hX Z2) ?_
           refine jd (fun h23=> ?_) (fun h23=> ?_)
           ·try simp at h23
            all_goals
             refine jD [0,2,3,4,8] (jS 6 Z2 (jM 8 156 [0,2,3,4,164] (p:=by intro b;(try simp at b);exact (jQ Zo)) (q:=by intro b;(try simp at b);exact (jQ Zo)) (k:=(jQ Z2)))) ?_
             refine jD [0,2,3,4,8,9] (jS 6 Z2 (jM 19 170 [0,2,3,4,8,189] (p:=by intro b;(try simp at b);exact (jS 9 Zo (jM 9 179 [0,2,3,4,8,170,188] (p:=by intro b;(try simp at b);exact (jQ Zo)) (q:=by intro b;(try simp at b);exact (jQ Zo)) (k:=(jQ Zo))))) (q:=by intro b;(try simp at b);exact (jQ Zo)) (k:=(jQ Z2)))) ?_
             refine Q0 [0,2,3,4,8,9] (js hX 3 Z2 (jm 2 192 [0,2,3,4,8,9,190,194] (p:=Z26) (q:=Z26) (k:=(Q8.call [0] rfl Z3 rfl Z2 Z8 Ze Qa Z3 Z3 Z2 jf)))) ?_
             refine jL 4 [0,1,2,3] [] [0,2,3,4,8,9] ([2]) hX Z2 .nil (Q8.call [0,3] rfl Z3 rfl Z2 Z8 Z7 Q1b Z3 Z3 Z2 jf) ?_
             refine Q0 [0,2,3,4,9,201] (jh hX Z2) ?_
             refine jd (fun h28=> ?_) (fun h28=> ?_)
             ·try simp at h28
              refine Q2q (n:=7) (A:=[0,1,2,3,4,5]) (B:=[6]) (L:=[1,3]) hmo (by kernel_rfl) tok hX Z2 (jH (p:=fun X hX=>(Q8.call [] rfl Z3 rfl Z2 Z8 Zp Q14 Z3 Z3 Z2 jf)) (k:=.nil)) (Q8.call [0] rfl Z3 rfl Z2 Z8 (by apply Q2o<;>exact Z0) Q2p Z3 Z3 Z2 jf) ?_
              refine Qd (js hX 2 Z2 (Q8.call [0] rfl Z3 rfl Z2 Z8 Zm Qs Z3 Z3 Z2 jf)) ?_
              refine Ql Z2 Z17 (.of_eq ?_) ?_
              all_goals clear hX
              ·skip
               rfl
              ·skip
               first|((simp_all[Q48,Q3u,Q4u,Q3f,Q50,Q34,ownB,Q4r,Qm,Qy,Bool.and_assoc])<;>congr;done)|(by_cases hk6:(atL (tkV k st ((Qg F.i.desc).params.length+1)) 0).k=6<;>by_cases hk7:(atL (tkV k st ((Qg F.i.desc).params.length+1)) 0).k=7<;>(simp_all[Q48,Q3u,Q4u,Q3f,Q50,Q34,ownB,Q4r,Qm,Qy,Bool.and_assoc])<;>congr)
             ·try simp at h28
              refine Q0 [0,3,4,210] (jh hX Z2) ?_
              refine jd (fun h30=> ?_) (fun h30=> ?_)
              ·try simp at h30
               refine Q2q (n:=10) (A:=[0,1,2,3,4,5,6,7,8]) (B:=[9]) (L:=[0,3]) hmo (by kernel_rfl) tok hX Z2 (jH (p:=fun X hX=>(Q8.call [] rfl Z3 rfl Z2 Z8 Zp Q14 Z3 Z3 Z2 jf)) (k:=.nil)) (Q8.call [0] rfl Z3 rfl Z2 Z8 (by apply Q2o<;>exact Z0) Q2p Z3 Z3 Z2 jf) ?_
               refine Qd (js hX 2 Z2 (Q8.call [0] rfl Z3 rfl Z2 Z8 Zm Qs Z3 Z3 Z2 jf)) ?_
               refine Ql Z2 Z17 (.of_eq ?_) ?_
               all_goals clear hX
               ·skip
                rfl
               ·skip
                first|((simp_all[Q48,Q3u,Q4u,Q3f,Q50,Q34,ownB,Q4r,Qm,Qy,Bool.and_assoc])<;>congr;done)|(by_cases hk6:(atL (tkV k st ((Qg F.i.desc).params.length+1)) 0).k=6<;>by_cases hk7:(atL (tkV k st ((Qg F.i.desc).params.length+1)) 0).k=7<;>(simp_all[Q48,Q3u,Q4u,Q3f,Q50,Q34,ownB,Q4r,Qm,Qy,Bool.and_assoc])<;>congr)
              ·try simp at h30
               refine Q3 (Qd (js hX 2 Z2 (Q8.call [0] rfl Z3 rfl Z2 Z8 Zm Qs Z3 Z3 Z2 jf)) ?_)
               refine Ql Z2 Z17 (.of_eq ?_) ?_
               all_goals clear hX
               ·skip
                rfl
               ·skip
                first|((simp_all[Q48,Q3u,Q4u,Q3f,Q50,Q34,ownB,Q4r,Qm,Qy,Bool.and_assoc])<;>congr;done)|(by_cases hk6:(atL (tkV k st ((Qg F.i.desc).params.length+1)) 0).k=6<;>by_cases hk7:(atL (tkV k st ((Qg F.i.desc).params.length+1)) 0).k=7<;>(simp_all[Q48,Q3u,Q4u,Q3f,Q50,Q34,ownB,Q4r,Qm,Qy,Bool.and_assoc])<;>congr)
           ·try simp at h23
            all_goals
             refine Q0 [0,3,4] (js hX 5 Z2 (jm 4 85 [0,3,4,81,89] (p:=Z26) (q:=Z26) (k:=(js hX 1 Z2 (jm 7 90 [0,3,4,81,97] (p:=Z26) (q:=Z26) (k:=(Q8.call [0] rfl Z3 rfl Z2 Z8 Ze Qa Z3 Z3 Z2 jf))))))) ?_
             refine jL 10 [0,1,2,3,4,5,6,7,8] [9] [0,3,4] ([0,3]) hX Z2 (jH (p:=fun X hX=>(Q8.call [] rfl Z3 rfl Z2 Z8 Zp Q14 Z3 Z3 Z2 jf)) (k:=.nil)) (Q8.call [0] rfl Z3 rfl Z2 Z8 Z1a Q1e Z3 Z3 Z2 jf) ?_
             refine Q2q (n:=4) (A:=[0,1,2,3]) (B:=[]) (L:=[2]) hmo (by kernel_rfl) tok hX Z2 .nil (Q8.call [0,3] rfl Z3 rfl Z2 Z8 Z7 Q1b Z3 Z3 Z2 jf) ?_
             refine Qd (js hX 2 Z2 (Q8.call [0] rfl Z3 rfl Z2 Z8 Zm Qs Z3 Z3 Z2 jf)) ?_
             refine Ql Z2 Z17 (.of_eq ?_) ?_
             all_goals clear hX
             ·skip
              rfl
             ·skip
              first|((simp_all[Q48,Q3u,Q4u,Q3f,Q50,Q34,ownB,Q4r,Qm,Qy,Bool.and_assoc])<;>congr;done)|(by_cases hk6:(atL (tkV k st ((Qg F.i.desc).params.length+1)) 0).k=6<;>by_cases hk7:(atL (tkV k st ((Qg F.i.desc).params.length+1)) 0).k=7<;>(simp_all[Q48,Q3u,Q4u,Q3f,Q50,Q34,ownB,Q4r,Qm,Qy,Bool.and_assoc])<;>congr)
    ·try simp at h6
     all_goals
      refine Q3 (Q0 [0,2,3,4,5] (js hX 1 Z2 (Q8.call [0] rfl Z3 rfl Z2 Z8 Z18 Q18 Z3 Z3 Z2 jf)) ?_)
      refine jK 12 [0,1,2,3,4,5,6,7,8,9] (.two 10 11 (.one 11 .tail) (.one 10 .tail)) [0,2,3,4,5,6] ([0,1]) hX Z2 (.two (jN (p:=fun X hX=>(Q8.call [] rfl Z3 rfl Z2 Z8 (by apply Q3l<;>exact Z0) Q3m Z3 Z3 Z2 jf)) (k:=(jN (p:=fun X hX=>(jh hX Z2)) (k:=.tail)))) (jN (p:=fun X hX=>(jh hX Z2)) (k:=(jN (p:=fun X hX=>(Q8.call [] rfl Z3 rfl Z2 Z8 (by apply Q3l<;>exact Z0) Q3m Z3 Z3 Z2 jf)) (k:=.tail))))) (jh hX Z2) ?_
      refine Q0 [0,2,3,4,5,6] (js hX 6 Z2 (Q8.call [0] rfl Z3 rfl Z2 Z8 Ze Qa Z3 Z3 Z2 jf)) ?_
      refine Q5 (Q0 [0,2,3,4,5,6,74] (jh hX Z2) ?_)
      refine jd (fun h11=> ?_) (fun h11=> ?_)
      ·try simp at h11
       refine Q4 (Qq Z2 Z17 (.of_eq ?_) ?_)
       all_goals clear hX
       ·skip
        rfl
       ·skip
        first|((simp_all[Q48,Q3u,Q4u,Q3f,Q50,Q34,ownB,Q4r,Qm,Qy,Bool.and_assoc])<;>congr;done)|(by_cases hk6:(atL (tkV k st ((Qg F.i.desc).params.length+1)) 0).k=6<;>by_cases hk7:(atL (tkV k st ((Qg F.i.desc).params.length+1)) 0).k=7<;>(simp_all[Q48,Q3u,Q4u,Q3f,Q50,Q34,ownB,Q4r,Qm,Qy,Bool.and_assoc])<;>congr)
      ·try simp at h11
       have hx:=Qwa h11
       obtain ⟨hm1,hm2⟩:=fm_e F.l F.i.name F.i.desc (Qu F.l F.i.cls) hx.2
       rw[hfx] at hm1 hm2
       replace hm1:=hm1.imp (fun h=>h.1) id
       refine Q3 (jK 7 [0,1,2,3,4] (.two 5 6 (.one 6 .tail) (.one 5 .tail)) [0,2,3,4,5,7] ([0,4]) hX Z2 (.two (jN (p:=fun X hX=>(Q8.call [] rfl Z3 rfl Z2 Z8 (by apply Q4p<;>exact Z0) Q4q Z3 Z3 Z2 jf)) (k:=(jN (p:=fun X hX=>(jh hX Z2)) (k:=.tail)))) (jN (p:=fun X hX=>(jh hX Z2)) (k:=(jN (p:=fun X hX=>(Q8.call [] rfl Z3 rfl Z2 Z8 (by apply Q4p<;>exact Z0) Q4q Z3 Z3 Z2 jf)) (k:=.tail))))) (jh hX Z2) ?_)
       refine Q5 (Q9 (Q0 [0,2,3,4,5,7,115] (jh hX Z2) ?_))
       refine jd (fun h16=> ?_) (fun h16=> ?_)
       ·try simp at h16
        all_goals
         refine Q0 [0,2,3,4] (js hX 4 Z2 (Q8.call [0] rfl Z3 rfl Z2 Z8 Ze Qa Z3 Z3 Z2 jf)) ?_
         refine jL 7 [0,1,2,3,4,5] [6] [0,3,4] ([1,3]) hX Z2 (jH (p:=fun X hX=>(Q8.call [] rfl Z3 rfl Z2 Z8 Zp Q14 Z3 Z3 Z2 jf)) (k:=.nil)) (Q8.call [0] rfl Z3 rfl Z2 Z8 Z1a Q1e Z3 Z3 Z2 jf) ?_
         refine Q2q (n:=4) (A:=[0,1,2,3]) (B:=[]) (L:=[2]) hmo (by kernel_rfl) tok hX Z2 .nil (Q8.call [0,3] rfl Z3 rfl Z2 Z8 Z7 Q1b Z3 Z3 Z2 jf) ?_
         refine Qd (js hX 2 Z2 (Q8.call [0] rfl Z3 rfl Z2 Z8 Zm Qs Z3 Z3 Z2 jf)) ?_
         refine Ql Z2 Z17 (.of_eq ?_) ?_
         all_goals clear hX
         ·skip
          rfl
         ·skip
          first|((simp_all[Q48,Q3u,Q4u,Q3f,Q50,Q34,ownB,Q4r,Qm,Qy,Bool.and_assoc])<;>congr;done)|(by_cases hk6:(atL (tkV k st ((Qg F.i.desc).params.length+1)) 0).k=6<;>by_cases hk7:(atL (tkV k st ((Qg F.i.desc).params.length+1)) 0).k=7<;>(simp_all[Q48,Q3u,Q4u,Q3f,Q50,Q34,ownB,Q4r,Qm,Qy,Bool.and_assoc])<;>congr)
       ·try simp at h16
        all_goals
         refine Q0 [0,2,3,4,5,7,137] (jh hX Z2) ?_
         refine jd (fun h20=> ?_) (fun h20=> ?_)
         ·try simp at h20
          all_goals
           refine Q0 [0,3,4] (js hX 3 Z2 (Q8.call [0] rfl Z3 rfl Z2 Z8 Ze Qa Z3 Z3 Z2 jf)) ?_
           refine Qd (js hX 3 Z2 (Q8.call [0,3] rfl Z3 rfl Z2 Z8 Z7 Q1b Z3 Z3 Z2 jf)) ?_
           refine Qd (js hX 2 Z2 (Q8.call [0] rfl Z3 rfl Z2 Z8 Zm Qs Z3 Z3 Z2 jf)) ?_
           refine Ql Z2 Z17 (.of_eq ?_) ?_
           all_goals clear hX
           ·skip
            rfl
           ·skip
            first|((simp_all[Q48,Q3u,Q4u,Q3f,Q50,Q34,ownB,Q4r,Qm,Qy,Bool.and_assoc])<;>congr;done)|(by_cases hk6:(atL (tkV k st ((Qg F.i.desc).params.length+1)) 0).k=6<;>by_cases hk7:(atL (tkV k st ((Qg F.i.desc).params.length+1)) 0).k=7<;>(simp_all[Q48,Q3u,Q4u,Q3f,Q50,Q34,ownB,Q4r,Qm,Qy,Bool.and_assoc])<;>congr)
         ·try simp at h20
          all_goals
           refine Q0 [0,2,3,4,7,149] (jh hX Z2) ?_
           refine jd (fun h23=> ?_) (fun h23=> ?_)
           ·try simp at h23
            all_goals
             refine jD [0,2,3,4,8] (jS 6 Z2 (jM 8 156 [0,2,3,4,164] (p:=by intro b;(try simp at b);exact (jQ Zo)) (q:=by intro b;(try simp at b);exact (jQ Zo)) (k:=(jQ Z2)))) ?_
             refine jD [0,2,3,4,8,9] (jS 6 Z2 (jM 19 170 [0,2,3,4,8,189] (p:=by intro b;(try simp at b);exact (jS 9 Zo (jM 9 179 [0,2,3,4,8,170,188] (p:=by intro b;(try simp at b);exact (jQ Zo)) (q:=by intro b;(try simp at b);exact (jQ Zo)) (k:=(jQ Zo))))) (q:=by intro b;(try simp at b);exact (jQ Zo)) (k:=(jQ Z2)))) ?_
             refine Q0 [0,2,3,4,8,9] (js hX 3 Z2 (jm 2 192 [0,2,3,4,8,9,190,194] (p:=Z26) (q:=Z26) (k:=(Q8.call [0] rfl Z3 rfl Z2 Z8 Ze Qa Z3 Z3 Z2 jf)))) ?_
             refine jL 4 [0,1,2,3] [] [0,2,3,4,8,9] ([2]) hX Z2 .nil (Q8.call [0,3] rfl Z3 rfl Z2 Z8 Z7 Q1b Z3 Z3 Z2 jf) ?_
             refine Q0 [0,2,3,4,9,201] (jh hX Z2) ?_
             refine jd (fun h28=> ?_) (fun h28=> ?_)
             ·try simp at h28
              refine Q2q (n:=7) (A:=[0,1,2,3,4,5]) (B:=[6]) (L:=[1,3]) hmo (by kernel_rfl) tok hX Z2 (jH (p:=fun X hX=>(Q8.call [] rfl Z3 rfl Z2 Z8 Zp Q14 Z3 Z3 Z2 jf)) (k:=.nil)) (Q8.call [0] rfl Z3 rfl Z2 Z8 (by apply Q2o<;>exact Z0) Q2p Z3 Z3 Z2 jf) ?_
              refine Qd (js hX 2 Z2 (Q8.call [0] rfl Z3 rfl Z2 Z8 Zm Qs Z3 Z3 Z2 jf)) ?_
              refine Ql Z2 Z17 (.of_eq ?_) ?_
              all_goals clear hX
              ·skip
               rfl
              ·skip
               first|((simp_all[Q48,Q3u,Q4u,Q3f,Q50,Q34,ownB,Q4r,Qm,Qy,Bool.and_assoc])<;>congr;done)|(by_cases hk6:(atL (tkV k st ((Qg F.i.desc).params.length+1)) 0).k=6<;>by_cases hk7:(atL (tkV k st ((Qg F.i.desc).params.length+1)) 0).k=7<;>(simp_all[Q48,Q3u,Q4u,Q3f,Q50,Q34,ownB,Q4r,Qm,Qy,Bool.and_assoc])<;>congr)
             ·try simp at h28
              refine Q0 [0,3,4,210] (jh hX Z2) ?_
              refine jd (fun h30=> ?_) (fun h30=> ?_)
              ·try simp at h30
               refine Q2q (n:=10) (A:=[0,1,2,3,4,5,6,7,8]) (B:=[9]) (L:=[0,3]) hmo (by kernel_rfl) tok hX Z2 (jH (p:=fun X hX=>(Q8.call [] rfl Z3 rfl Z2 Z8 Zp Q14 Z3 Z3 Z2 jf)) (k:=.nil)) (Q8.call [0] rfl Z3 rfl Z2 Z8 (by apply Q2o<;>exact Z0) Q2p Z3 Z3 Z2 jf) ?_
               refine Qd (js hX 2 Z2 (Q8.call [0] rfl Z3 rfl Z2 Z8 Zm Qs Z3 Z3 Z2 jf)) ?_
               refine Ql Z2 Z17 (.of_eq ?_) ?_
               all_goals clear hX
               ·skip
                rfl
               ·skip
                first|((simp_all[Q48,Q3u,Q4u,Q3f,Q50,Q34,ownB,Q4r,Qm,Qy,Bool.and_assoc])<;>congr;done)|(by_cases hk6:(atL (tkV k st ((Qg F.i.desc).params.length+1)) 0).k=6<;>by_cases hk7:(atL (tkV k st ((Qg F.i.desc).params.length+1)) 0).k=7<;>(simp_all[Q48,Q3u,Q4u,Q3f,Q50,Q34,ownB,Q4r,Qm,Qy,Bool.and_assoc])<;>congr)
              ·try simp at h30
               refine Q3 (Qd (js hX 2 Z2 (Q8.call [0] rfl Z3 rfl Z2 Z8 Zm Qs Z3 Z3 Z2 jf)) ?_)
               refine Ql Z2 Z17 (.of_eq ?_) ?_
               all_goals clear hX
               ·skip
                rfl
               ·skip
                first|((simp_all[Q48,Q3u,Q4u,Q3f,Q50,Q34,ownB,Q4r,Qm,Qy,Bool.and_assoc])<;>congr;done)|(by_cases hk6:(atL (tkV k st ((Qg F.i.desc).params.length+1)) 0).k=6<;>by_cases hk7:(atL (tkV k st ((Qg F.i.desc).params.length+1)) 0).k=7<;>(simp_all[Q48,Q3u,Q4u,Q3f,Q50,Q34,ownB,Q4r,Qm,Qy,Bool.and_assoc])<;>congr)
           ·try simp at h23
            all_goals
             refine Q0 [0,3,4] (js hX 5 Z2 (jm 4 85 [0,3,4,81,89] (p:=Z26) (q:=Z26) (k:=(js hX 1 Z2 (jm 7 90 [0,3,4,81,97] (p:=Z26) (q:=Z26) (k:=(Q8.call [0] rfl Z3 rfl Z2 Z8 Ze Qa Z3 Z3 Z2 jf))))))) ?_
             refine jL 10 [0,1,2,3,4,5,6,7,8] [9] [0,3,4] ([0,3]) hX Z2 (jH (p:=fun X hX=>(Q8.call [] rfl Z3 rfl Z2 Z8 Zp Q14 Z3 Z3 Z2 jf)) (k:=.nil)) (Q8.call [0] rfl Z3 rfl Z2 Z8 Z1a Q1e Z3 Z3 Z2 jf) ?_
             refine Q2q (n:=4) (A:=[0,1,2,3]) (B:=[]) (L:=[2]) hmo (by kernel_rfl) tok hX Z2 .nil (Q8.call [0,3] rfl Z3 rfl Z2 Z8 Z7 Q1b Z3 Z3 Z2 jf) ?_
             refine Qd (js hX 2 Z2 (Q8.call [0] rfl Z3 rfl Z2 Z8 Zm Qs Z3 Z3 Z2 jf)) ?_
             refine Ql Z2 Z17 (.of_eq ?_) ?_
             all_goals clear hX
             ·skip
              rfl
             ·skip
              first|((simp_all[Q48,Q3u,Q4u,Q3f,Q50,Q34,ownB,Q4r,Qm,Qy,Bool.and_assoc])<;>congr;done)|(by_cases hk6:(atL (tkV k st ((Qg F.i.desc).params.length+1)) 0).k=6<;>by_cases hk7:(atL (tkV k st ((Qg F.i.desc).params.length+1)) 0).k=7<;>(simp_all[Q48,Q3u,Q4u,Q3f,Q50,Q34,ownB,Q4r,Qm,Qy,Bool.and_assoc])<;>congr)
end Go.Proofs
namespace Go.Proofs
open Go Go.Ev
theorem Q11:Q6 Tryz.prog 247:=jcb Tryz.func247
theorem Qlq{t:Typ}:Ct Tryz.prog 247 [eT t] [] (.bool (Q76 t)) []:=by
 refine jbS Tryz.func247 15 fun X hX=> ?_
 refine jq [1] ?_
 refine Q0 [2] (jt 4 (k:=(jm 4 6 [1,10] (p:=Z1p) (q:=Z1p) (k:=(jt 1 (k:=(jm 3 11 [14] (p:=Z1p) (q:=by intro b;(try simp at b);exact (js hX 1 Z1 (Q8.call [] rfl Z3 rfl Z1 Z8 (by apply Q4s<;>exact Z4) Q4t Z3 Z3 Z1 (jh hX Z1)))) (k:=jr)))))))) ?_
 refine Q4 (je0 ?_)
 simp[Q76];grind
end Go.Proofs
namespace Go.Proofs
open Go Go.Ev
theorem Qg4:Q6 Tryz.prog 173:=jcb Tryz.func173
theorem Qfs{F:SF}{o1 o2:Bool}{st lo:List Typ}{k:Int}(hs:Q1r F.l≤1048576)(hw:Qx F.l=true)(hst:st.length≤500)(hlo:lo.length≤500)(hd:F.i.desc.length≤1099511627776):Ct Tryz.prog 173 [.ptr 0 0 0] [some (25,[oSW F o1 o2 st lo k])] (.tup []) [some (25,[Qbf F (Qbz F o1 o2 st lo k)])]:=by
 have hl:F.l.length≤1099511627776:=by unfold Q1r at hs;omega
 refine jbS Tryz.func173 115 fun X hX=> ?_
 refine jq [0,2] ?_
 refine jq [0,2,13] ?_
 refine Q9 (jq [0,2,13,25] ?_)
 refine jd (fun h5=> ?_) (fun h5=> ?_)
 ·try simp at h5
  refine Q0 [0,2,3] (jt 1 (k:=(jc [0] (c:=Zn) (a:=Qe) (k:=jr)))) ?_
  have hL1:=Q29 k st 1
  refine jq [0,2,3,4] ?_
  refine Q5 (jq [0,2,3,4,32] ?_)
  refine jd (fun h8=> ?_) (fun h8=> ?_)
  ·try simp at h8
   refine Q0 [0,3,4] (jt 2 (k:=(jc [] (c:=(by apply Q9j<;>exact Z0)) (a:=Q9q) (k:=jr)))) ?_
   refine Q2q (n:=8) (A:=[0,1,2,3,4,5,6]) (B:=[7]) (L:=[0,3]) hmo (by kernel_rfl) tok hX Z8 (jH (p:=fun X hX=>(jc [] (c:=(by apply Q7p<;>exact Z0)) (a:=Qw) (k:=jf))) (k:=.nil)) (jc [0] (c:=Ze) (a:=Qa) (k:=jf)) ?_
   refine Q0 [0,4] (jt 4 (k:=(jc [0] (c:=Z10) (a:=Q12) (k:=jf)))) ?_
   refine Qd (jt 2 (k:=(jc [0] (c:=(by first|(apply Q1w (t:=⟨4,[],0⟩)<;>exact Z0;done)|(apply Q1w (t:=⟨5,Q1c F.i.desc,0⟩)<;>exact Z0;done))) (a:=Qh) (k:=jf)))) ?_
   refine Ql Z8 Z17 (.of_eq ?_) ?_
   all_goals clear hX
   ·skip
    rfl
   ·skip
    simp_all[Qbz,Qv0,lsK,elT,Qai,Qy]
  ·try simp at h8
   refine Q3 (Q0 [0,4] (jt 4 (k:=(jc [0] (c:=Z10) (a:=Q12) (k:=jf)))) ?_)
   refine Qd (jt 2 (k:=(jc [0] (c:=(by first|(apply Q1w (t:=⟨4,[],0⟩)<;>exact Z0;done)|(apply Q1w (t:=⟨5,Q1c F.i.desc,0⟩)<;>exact Z0;done))) (a:=Qh) (k:=jf)))) ?_
   refine Ql Z8 Z17 (.of_eq ?_) ?_
   all_goals clear hX
   ·skip
    rfl
   ·skip
    simp_all[Qbz,Qv0,lsK,elT,Qai,Qy]
 ·try simp at h5
  refine jq [0,13,54] ?_
  refine jd (fun h13=> ?_) (fun h13=> ?_)
  ·try simp at h13
   refine Q0 [0,5] (jt 1 (k:=(jc [0] (c:=Z1b) (a:=Qe) (k:=jr)))) ?_
   have hL2:=Q29 k st 2
   refine Q0 [0,5] (jt 4 (k:=(jc [] (c:=(by apply Q4s<;>exact Z0)) (a:=Q4t) (k:=(jc [0] (c:=Ze) (a:=Qa) (k:=jf)))))) ?_
   refine Q0 [0,5] (jt 4 (k:=(jc [0] (c:=Z10) (a:=Q12) (k:=jf)))) ?_
   refine jq [0,5,73] ?_
   refine jd (fun h17=> ?_) (fun h17=> ?_)
   ·try simp at h17
    refine Qd (jt 2 (k:=(jc [0] (c:=Z16) (a:=Qh) (k:=jf)))) ?_
    refine Ql Z8 Z17 (.of_eq ?_) ?_
    all_goals clear hX
    ·skip
     rfl
    ·skip
     simp_all[Qbz,Qv0,lsK,elT,Qai,Qy]
   ·try simp at h17
    refine Qd (jt 5 (k:=(jc [] (c:=Zp) (a:=Q14) (k:=(jc [0] (c:=Z14) (a:=Qh) (k:=jf)))))) ?_
    refine Ql Z8 Z17 (.of_eq ?_) ?_
    all_goals clear hX
    ·skip
     rfl
    ·skip
     simp_all[Qbz,Qv0,lsK,elT,Qai,Qy]
  ·try simp at h13
   refine jq [0,84] ?_
   refine jd (fun h20=> ?_) (fun h20=> ?_)
   ·try simp at h20
    refine Q0 [0,6] (jt 1 (k:=(jc [0] (c:=(by apply (Q2h (n:=3))<;>exact Z0)) (a:=Qe) (k:=jr)))) ?_
    have hL3:=Q29 k st 3
    refine Q0 [0,6] (jt 4 (k:=(jc [] (c:=(by apply Q4s<;>exact Z0)) (a:=Q4t) (k:=(jc [0] (c:=Ze) (a:=Qa) (k:=jf)))))) ?_
    refine Q0 [0,6] (jt 4 (k:=(jc [0] (c:=Z10) (a:=Q12) (k:=jf)))) ?_
    refine jq [0,6,103] ?_
    refine jd (fun h24=> ?_) (fun h24=> ?_)
    ·try simp at h24
     refine Qd (jt 4 (k:=(jc [0] (c:=Z10) (a:=Q12) (k:=jf)))) ?_
     refine Ql Z8 Z17 (.of_eq ?_) ?_
     all_goals clear hX
     ·skip
      rfl
     ·skip
      simp_all[Qbz,Qv0,lsK,elT,Qai,Qy]
    ·try simp at h24
     refine Qd (jt 4 (k:=(jc [] (c:=Zv) (a:=Q11) (k:=(jc [0] (c:=Ze) (a:=Qa) (k:=jf)))))) ?_
     refine Ql Z8 Z17 (.of_eq ?_) ?_
     all_goals clear hX
     ·skip
      rfl
     ·skip
      simp_all[Qbz,Qv0,lsK,elT,Qai,Qy]
   ·try simp at h20
    refine Q0 [0,7] (jt 1 (k:=(jc [0] (c:=Zn) (a:=Qe) (k:=jr)))) ?_
    have hL1:=Q29 k st 1
    refine Q0 [0] (jt 4 (k:=(jc [] (c:=(by apply Q4s<;>exact Z0)) (a:=Q4t) (k:=(jc [0] (c:=Ze) (a:=Qa) (k:=jf)))))) ?_
    refine Qd (jt 2 (k:=(jc [0] (c:=Z16) (a:=Qh) (k:=jf)))) ?_
    refine Ql Z8 Z17 (.of_eq ?_) ?_
    all_goals clear hX
    ·skip
     rfl
    ·skip
     simp_all[Qbz,Qv0,lsK,elT,Qai,Qy]
end Go.Proofs
namespace Go.Proofs
open Go Go.Ev
theorem Qs9:Q6 Tryz.prog 248:=jcb Tryz.func248
theorem Qru{a b:Int}:Ct Tryz.prog 248 [.int .i64 a,.int .i64 b] [] (.int .i64 (if a<b then a else b)) []:=by
 refine jbS Tryz.func248 10 fun X hX=> ?_
 refine jq [0,1] ?_
 refine Q5 (jq [0,1,7] ?_)
 refine jd (fun h1=> ?_) (fun h1=> ?_)
 ·try simp at h1
  refine jq [4] ?_
  refine Q4 (je Zx ?_)
  first|(simp_all;done)|(simp;omega)
 ·try simp at h1
  refine Q3 (jq [4] ?_)
  refine Q4 (je Zx ?_)
  first|(simp_all;done)|(simp;omega)
end Go.Proofs
namespace Go.Proofs
open Go Go.Ev
theorem Qg3:Q6 Tryz.prog 174:=jcb Tryz.func174
theorem Qfr{F:SF}{o1 o2:Bool}{st lo:List Typ}{k:Int}(hs:Q1r F.l≤1048576)(hw:Qx F.l=true)(hst:st.length≤500)(hlo:lo.length≤500)(hia:F.i.op=3∨F.i.op=4→0≤F.i.a):Ct Tryz.prog 174 [.ptr 0 0 0] [some (25,[oSW F o1 o2 st lo k])] (.tup []) [some (25,[Qbf F (Q2k F o1 o2 st lo k)])]:=by
 have hl:F.l.length≤1099511627776:=by unfold Q1r at hs;omega
 cases ho:o2
 all_goals
  refine jbS Tryz.func174 248 fun X hX=> ?_
  refine Q0 [0,2] (jh hX Z5) ?_
  first|refine Q21 (Le.expose 0 0 23 Z24) ?_|refine Q21 (Le.nilOb 3 _) ?_
  refine Q0 [0,2,3] (jh hX Z5) ?_
  first|refine Q21 (Le.absorb 0 0 23 Z8) ?_|skip
  refine Q0 [0,2,3,25] (jh hX Z5) ?_
  refine Q9 (Q0 [0,2,3,25,26] (jh hX Z5) ?_)
  refine jd (fun h3=> ?_) (fun h3=> ?_)
  ·try simp at h3
   refine Qd (js hX 2 Z5 (Q8.call [0] rfl Z3 rfl Z5 Z8 Z16 Qh Z3 Z3 Z5 jf)) ?_
   refine Ql Z5 Z17 (.of_eq ?_) ?_
   all_goals clear hX
   ·skip
    rfl
   ·skip
    simp_all[Q2k,d2L,ldB,stK,Qm,Qy]
  ·try simp at h3
   refine Q0 [0,2,3,25,31] (jh hX Z5) ?_
   refine jd (fun h5=> ?_) (fun h5=> ?_)
   ·try simp at h5
    refine Qd (js hX 2 Z5 (Q8.call [0] rfl Z3 rfl Z5 Z8 (by first|(apply Q1w (t:=⟨2,[],0⟩)<;>exact Z0;done)) Qh Z3 Z3 Z5 jf)) ?_
    refine Ql Z5 Z17 (.of_eq ?_) ?_
    all_goals clear hX
    ·skip
     rfl
    ·skip
     simp_all[Q2k,d2L,ldB,stK,Qm,Qy]
   ·try simp at h5
    refine Q0 [0,2,3,25,36] (jh hX Z5) ?_
    refine jd (fun h7=> ?_) (fun h7=> ?_)
    ·try simp at h7
     first|refine Q21 (Le.expose 0 0 23 Z24) ?_|refine Q21 (Le.nilOb 3 _) ?_
     have ha:=hia (.inl h7)
     by_cases hA:F.i.a<(lo.length:Int)
     all_goals have hmin:F.i.a<(lo.length:Int)→(if F.i.a<(lo.length:Int)-1 then F.i.a else (lo.length:Int)-1)=F.i.a:=fun _=>by split<;>omega
     all_goals have hAn:F.i.a<(lo.length:Int)→F.i.a.toNat<lo.length:=fun _=>by omega
     all_goals first|have hmn:=hmin hA|have hmn:=trivial
     all_goals first|have hAt:=hAn hA|have hAt:=trivial
     all_goals clear hmin hAn
     all_goals have hwl:IntKind.i64.wrap ((lo.length:Int)-1)=(lo.length:Int)-1:=Q7 Za Za
     all_goals
      first|(refine jL 21 [0,1,2,3,4,5,6,7,8,9,10,11,12,13,14] [15,16,17,18,19,20] [0,2] ([0,1]) hX Z2f (jH (p:=fun X hX=>(Q8.call [] rfl Z3 rfl Z5 Z8 (by apply Qru<;>exact Z0) Qs9 Z3 Z3 Z5 jf)) (k:=(jH (p:=fun X hX=>(jh hX Z2f)) (k:=(jH (p:=fun X hX=>(jh hX Z2f)) (k:=(jH (p:=fun X hX=>(jh hX Z2f)) (k:=(jH (p:=fun X hX=>(jh hX Z2f)) (k:=(jH (p:=fun X hX=>(jh hX Z2f)) (k:=.nil)))))))))))) (Q8.call [0,3] rfl Z3 rfl Z5 Z8 Z1h Qa Z3 Z3 Z5 jf) ?_)|(refine jL 21 [0,1,2,3,4,5,6,7,8,9,10,11,12,13,14] [15,16,17,18,19,20] [0,2] ([0,1]) hX Z2f (jH (p:=fun X hX=>(jh hX Z2f)) (k:=(jH (p:=fun X hX=>(jh hX Z2f)) (k:=(jH (p:=fun X hX=>(jh hX Z2f)) (k:=(jH (p:=fun X hX=>(jh hX Z2f)) (k:=(jH (p:=fun X hX=>(jh hX Z2f)) (k:=(jH (p:=fun X hX=>(jh hX Z2f)) (k:=.nil)))))))))))) (Q8.call [0,3] rfl Z3 rfl Z5 Z8 Z1h Qa Z3 Z3 Z5 jf) ?_)
      refine Q0 [0,2,64] (jh hX Z2f) ?_
      refine jd (fun h9=> ?_) (fun h9=> ?_)
      ·try simp at h9
       all_goals
        refine Q2q (n:=10) (A:=[0,1,2,3,4,5,6,7,8,9]) (B:=[]) (L:=[0,1,3]) hmo (by kernel_rfl) tok hX Z2f .nil (Q8.weak (Q8.call [0,3] rfl Z3 rfl Z5 Z8 (by apply Qfq<;>exact Z0) Qh Z3 Z3 Z5 jf) (by first|exact Le.absorb 0 0 23 Z8|exact .refl)) ?_
        refine Ql Z2f Z17 (.of_eq ?_) ?_
        all_goals clear hX
        ·skip
         rfl
        ·skip
         first|(have e9:ldB F lo=false:=(by simp only[ldB,decide_eq_false hA,Bool.false_and]);have e: ∀b,Q2k F o1 b st lo k=⟨true,b,st++[atL lo F.i.a.toNat],lo,0⟩:=(fun b=>by rw[Q2k,if_neg h3,if_neg h5,if_pos h7,e9,if_pos h9]);simp[e,h9,hAt];done)|(have e9:ldB F lo= !decide (lo[F.i.a.toNat].k=0):=(by simp[ldB,hA,hAt]);have e: ∀b,Q2k F o1 b st lo k=⟨true,b,st++[atL lo F.i.a.toNat],lo,0⟩:=(fun b=>by rw[Q2k,if_neg h3,if_neg h5,if_pos h7,e9,if_pos h9]);simp[e,h9,hAt];done)
      ·try simp at h9
       all_goals
        first|refine Q21 (Le.absorb 0 0 23 Z8) ?_|skip
        refine Q3 (Ql Z2f Z17 (.of_eq ?_) ?_)
        all_goals clear hX
        ·skip
         rfl
        ·skip
         first|(have e9:ldB F lo=false:=(by simp only[ldB,decide_eq_false hA,Bool.false_and]);have e: ∀b,Q2k F o1 b st lo k=⟨o1,b,st,lo,ndC k (ldB F lo) 10⟩:=(fun b=>by rw[Q2k,if_neg h3,if_neg h5,if_pos h7,e9,if_neg (by first|exact h9|(rw[ndC_f10];exact id))]);simp[e,e9];done)|(have e9:ldB F lo= !decide (lo[F.i.a.toNat].k=0):=(by simp[ldB,hA,hAt]);have e: ∀b,Q2k F o1 b st lo k=⟨o1,b,st,lo,ndC k (ldB F lo) 10⟩:=(fun b=>by rw[Q2k,if_neg h3,if_neg h5,if_pos h7,e9,if_neg (by first|exact h9|(rw[ndC_f10];exact id))]);simp[e,e9];done)
    ·try simp at h7
     refine Q0 [0,2,3,25,76] (jh hX Z5) ?_
     refine jd (fun h11=> ?_) (fun h11=> ?_)
     ·try simp at h11
      refine Q0 [0,2,3,4] (js hX 1 Z5 (Q8.call [0] rfl Z3 rfl Z5 Z8 Zn Qe Z3 Z3 Z5 (jh hX Z5))) ?_
      have hL1:=Q29 k st 1
      refine Q0 [0,2,4] (js hX 5 Z5 (Q8.call [0] rfl Z3 rfl Z5 Z8 Ze Qa Z3 Z3 Z5 jf)) ?_
      refine Q0 [0,2,4] (js hX 5 Z5 (jm 7 90 [0,2,4,86,97] (p:=fun b14_5=>by (try simp at b14_5);exact (jh hX (by simp[-Qc,-Qb,b14_5,ho];rfl))) (q:=fun b14_5=>by (try simp at b14_5);exact (jh hX (by simp[-Qc,-Qb,b14_5,ho];rfl))) (k:=(Q8.call [0] rfl Z3 rfl Z5 Z8 Ze Qa Z3 Z3 Z5 jf)))) ?_
      refine Q0 [0,2,4,103] (jh hX Z5) ?_
      refine jd (fun h15=> ?_) (fun h15=> ?_)
      ·try simp at h15
       have w1:lo.length*32≤140737488355328:=by omega
       have w2:lo.length≤1099511627776:=by omega
       have ha:=hia (.inr h11)
       have hc:=(Q11n (Q11n h15 (by decide)).1 (by decide)).2
       have hA:F.i.a<(lo.length:Int):=by simpa using hc
       have hAt:F.i.a.toNat<lo.length:=by omega
       first|refine Q21 (Le.expose 0 0 23 Z24) ?_|refine Q21 (Le.nilOb 3 _) ?_
       refine Q0 [0,2,4] (jh hX (by simp[w1,w2,ha,hA,hAt,ho];rfl)) ?_
       refine Q2q (n:=10) (A:=[0,1,2,3,4,5,6,7,8,9]) (B:=[]) (L:=[0,1,3]) hmo (by kernel_rfl) tok hX (by simp[w1,w2,ha,hA,hAt,ho];rfl) .nil (Q8.weak (jh hX (by simp[w1,w2,ha,hA,hAt,ho];rfl)) (by first|exact Le.absorb 0 0 23 Z8|exact .refl)) ?_
       refine Ql (by simp[w1,w2,ha,hA,hAt,ho];rfl) Z17 (.of_eq ?_) ?_
       all_goals clear hX
       ·skip
        rfl
       ·skip
        have e: ∀b,Q2k F o1 b st lo k=⟨tkO o1 k st 1,true,tkL k st 1,lo.set F.i.a.toNat (atL (tkV k st 1) 0),0⟩:=fun b=>by rw[Q2k,if_neg h3,if_neg h5,if_neg h7,if_pos h11,if_pos (by simpa[stK] using h15)]
        have h16:=h15
        rw[decide_eq_true hA] at h16
        simp[e,h16]
      ·try simp at h15
       refine Q3 (Ql Z5 Z17 (.of_eq ?_) ?_)
       all_goals clear hX
       ·skip
        rfl
       ·skip
        have e: ∀b,Q2k F o1 b st lo k=⟨tkO o1 k st 1,b,tkL k st 1,lo,stK F st lo k⟩:=fun b=>by rw[Q2k,if_neg h3,if_neg h5,if_neg h7,if_pos h11,if_neg (by simpa[stK] using h15)]
        simp[e,stK]
     ·try simp at h11
      refine Q0 [0,2,25,126] (jh hX Z5) ?_
      refine jd (fun h18=> ?_) (fun h18=> ?_)
      ·try simp at h18
       refine Qd (js hX 1 Z5 (Q8.call [0] rfl Z3 rfl Z5 Z8 Zn Qe Z3 Z3 Z5 jf)) ?_
       have hL1:=Q29 k st 1
       refine Ql Z5 Z17 (.of_eq ?_) ?_
       all_goals clear hX
       ·skip
        rfl
       ·skip
        simp_all[Q2k,d2L,ldB,stK,Qm,Qy]
      ·try simp at h18
       refine Q0 [0,2,25,130] (jh hX Z5) ?_
       refine jd (fun h20=> ?_) (fun h20=> ?_)
       ·try simp at h20
        refine Q0 [0,5] (js hX 1 Z5 (Q8.call [0] rfl Z3 rfl Z5 Z8 Zn Qe Z3 Z3 Z5 (jh hX Z5))) ?_
        have hL1:=Q29 k st 1
        refine Q0 [0,5] (js hX 4 Z5 (Q8.call [0] rfl Z3 rfl Z5 Z8 Z14 Qh Z3 Z3 Z5 jf)) ?_
        refine Qd (js hX 4 Z5 (Q8.call [0] rfl Z3 rfl Z5 Z8 (by have c:=fun o2=>Q1w (F:=F) (o1:=true) (o2:=o2) (st:=tkL k st 1++[atL (tkV k st 1) 0]) (lo:=lo) (k:=tkC k st 1) (t:=atL (tkV k st 1) 0) (by simp;omega);simp at c;first|exact c.1|exact c.2) Qh Z3 Z3 Z5 jf)) ?_
        refine Ql Z5 Z17 (.of_eq ?_) ?_
        all_goals clear hX
        ·skip
         rfl
        ·skip
         simp_all[Q2k,d2L,ldB,stK,Qm,Qy]
       ·try simp at h20
        refine Q0 [0,2,25,144] (jh hX Z5) ?_
        refine jd (fun h24=> ?_) (fun h24=> ?_)
        ·try simp at h24
         refine Q0 [0,6] (js hX 1 Z5 (Q8.call [0] rfl Z3 rfl Z5 Z8 Z1b Qe Z3 Z3 Z5 (jh hX Z5))) ?_
         have hL2:=Q29 k st 2
         refine Q0 [0,6] (js hX 4 Z5 (Q8.call [0] rfl Z3 rfl Z5 Z8 Z14 Qh Z3 Z3 Z5 jf)) ?_
         refine Qd (js hX 4 Z5 (Q8.call [0] rfl Z3 rfl Z5 Z8 (by have c:=fun o2=>Q1w (F:=F) (o1:=true) (o2:=o2) (st:=tkL k st 2++[atL (tkV k st 2) 1]) (lo:=lo) (k:=tkC k st 2) (t:=atL (tkV k st 2) 0) (by simp;omega);simp at c;first|exact c.1|exact c.2) Qh Z3 Z3 Z5 jf)) ?_
         refine Ql Z5 Z17 (.of_eq ?_) ?_
         all_goals clear hX
         ·skip
          rfl
         ·skip
          simp_all[Q2k,d2L,ldB,stK,Qm,Qy]
        ·try simp at h24
         refine Q0 [0,2,25,158] (jh hX Z5) ?_
         refine jd (fun h28=> ?_) (fun h28=> ?_)
         ·try simp at h28
          refine Q0 [0,7] (js hX 1 Z5 (Q8.call [0] rfl Z3 rfl Z5 Z8 Z1b Qe Z3 Z3 Z5 (jh hX Z5))) ?_
          have hL2:=Q29 k st 2
          refine Q0 [0,7,8] (jh hX Z5) ?_
          refine Q9 (Qo (α:=Nat) [0,7,8] (fun j=>[(8,.int .i64 (j:Nat))]) (fun j=>[(0,some (25,[oSW F (tkO o1 k st 2||decide (0<j)) o2 (tkL k st 2++d2L (tkV k st 2) j) lo (tkC k st 2)]))]) (fun j=>j≤4) (fun j=>4-j) (0) (fun j=>by simp;rfl) (by simp[d2L,ho]) ?_ ?_)
          ·simp
          rintro j hj
          have hm:=mod2 j
          have hj2:j%2<2:=by omega
          have hj2a:0≤(j:Int)%2:=by omega
          have hj2b:(j:Int)%2<2:=by omega
          have hj2c:((j:Int)%2).toNat=j%2:=by omega
          have hdl:=Qz3 (tkV k st 2) j
          have hat:atL (tkV k st 2) (j%2)=(tkV k st 2)[j%2]'(by simp;omega):=Qb (by simp;omega)
          refine Q5 (Q0 [0,7,8,163] (jh hX (by simp[hm,hj2,hj2a,hj2b,hj2c,ho];rfl)) ?_)
          refine jd (fun h31=> ?_) (fun h31=> ?_)
          ·try simp at h31
           refine Q3 (Q5 (Q9 (Qd (js hX 6 (by simp[hm,hj2,hj2a,hj2b,hj2c,h31,ho];rfl) (Q8.call [0] rfl Z3 rfl Z5 Z8 (by have c:=fun o2=>Q1w (F:=F) (o1:=(tkO o1 k st 2||decide (0<j))) (o2:=o2) (st:=tkL k st 2++d2L (tkV k st 2) j) (lo:=lo) (k:=tkC k st 2) (t:=atL (tkV k st 2) (j%2)) (by simp;omega);simp[hj2] at c;first|exact c.1|exact c.2) Qh Z3 Z3 Z5 jf)) ?_)))
           refine Qd (jh hX (by simp[hm,hj2,hj2a,hj2b,hj2c,h31,ho];(try (simp (disch:=omega) only[Q7];(try simp[hm,hj2,hj2a,hj2b,hj2c,h31,ho])));rfl)) ?_
           refine Qp (j+1) [0,7,8] (by simp[d2L,ho,hm,hat];try (simp (disch:=omega) only[Q7])) ?_ ?_
           ·omega
           ·omega
          ·try simp at h31
           obtain rfl:j=4:=by omega
           refine Qr (Ql (by simp[hm,hj2,hj2a,hj2b,hj2c,h31,ho];rfl) Z17 (.of_eq ?_) ?_)
           all_goals clear hX
           ·skip
            rfl
           ·skip
            simp_all[Q2k,d2L,ldB,stK,Qm,Qy]
         ·try simp at h28
          refine Q5 (Q0 [0,2,25,173] (jh hX Z5) ?_)
          refine jd (fun h34=> ?_) (fun h34=> ?_)
          ·try simp at h34
           refine Q3 (jd (fun h34_1=> ?_) (fun h34_1=> ?_))
           ·try simp at h34_1
            refine Q0 [0,9] (js hX 1 Z5 (Q8.call [0] rfl Z3 rfl Z5 Z8 Zn Qe Z3 Z3 Z5 (jh hX Z5))) ?_
            have hL1:=Q29 k st 1
            refine Qd (js hX 4 Z5 (Q8.call [0] rfl Z3 rfl Z5 Z8 Z10 Q12 Z3 Z3 Z5 jf)) ?_
            refine Ql Z5 Z17 (.of_eq ?_) ?_
            all_goals clear hX
            ·skip
             rfl
            ·skip
             simp_all[Q2k,d2L,ldB,stK,Qm,Qy]
           ·try simp at h34_1
            refine Q5 (Q0 [0,2,25,183] (jh hX Z5) ?_)
            refine jd (fun h38=> ?_) (fun h38=> ?_)
            ·try simp at h38
             refine Q3 (jd (fun h38_1=> ?_) (fun h38_1=> ?_))
             ·try simp at h38_1
              refine Q0 [0,10] (js hX 1 Z5 (Q8.call [0] rfl Z3 rfl Z5 Z8 Z1b Qe Z3 Z3 Z5 (jh hX Z5))) ?_
              have hL2:=Q29 k st 2
              refine Q0 [0,10] (js hX 4 Z5 (Q8.call [0] rfl Z3 rfl Z5 Z8 Z10 Q12 Z3 Z3 Z5 jf)) ?_
              refine Qd (js hX 4 Z5 (Q8.call [0] rfl Z3 rfl Z5 Z8 Z10 Q12 Z3 Z3 Z5 jf)) ?_
              refine Ql Z5 Z17 (.of_eq ?_) ?_
              all_goals clear hX
              ·skip
               rfl
              ·skip
               simp_all[Q2k,d2L,ldB,stK,Qm,Qy]
             ·try simp at h38_1
              refine Q0 [0,2,25,198] (jh hX Z5) ?_
              refine jd (fun h43=> ?_) (fun h43=> ?_)
              ·try simp at h43
               refine Q0 [0,11] (js hX 1 Z5 (Q8.call [0] rfl Z3 rfl Z5 Z8 Zn Qe Z3 Z3 Z5 (jh hX Z5))) ?_
               have hL1:=Q29 k st 1
               refine Qd (js hX 4 Z5 (Q8.call [] rfl Z3 rfl Z5 Z8 Zv Q11 Z3 Z3 Z5 (Q8.call [0] rfl Z3 rfl Z5 Z8 Ze Qa Z3 Z3 Z5 jf))) ?_
               refine Ql Z5 Z17 (.of_eq ?_) ?_
               all_goals clear hX
               ·skip
                rfl
               ·skip
                simp_all[Q2k,d2L,ldB,stK,Qm,Qy]
              ·try simp at h43
               refine Q0 [0,2,25,208] (jh hX Z5) ?_
               refine jd (fun h46=> ?_) (fun h46=> ?_)
               ·try simp at h46
                refine Q0 [0,12] (js hX 1 Z5 (Q8.call [0] rfl Z3 rfl Z5 Z8 Z1b Qe Z3 Z3 Z5 (jh hX Z5))) ?_
                have hL2:=Q29 k st 2
                refine Qd (js hX 4 Z5 (Q8.call [] rfl Z3 rfl Z5 Z8 Zv Q11 Z3 Z3 Z5 (js hX 1 Z5 (jm 5 217 [212,222] (p:=by intro b;(try simp at b);exact (js hX 3 Z29 (Q8.call [] rfl Z3 rfl Z29 Z8 Zv Q11 Z3 Z3 Z29 (jh hX Z29)))) (q:=by intro b;(try simp at b);exact (jh hX Z29)) (k:=(Q8.call [0] rfl Z3 rfl Z5 Z8 Ze Qa Z3 Z3 Z5 jf)))))) ?_
                refine Ql Z5 Z17 (.of_eq ?_) ?_
                all_goals clear hX
                ·skip
                 rfl
                ·skip
                 simp_all[Q2k,d2L,ldB,stK,Qm,Qy]
               ·try simp at h46
                refine Q5 (Q0 [0,2,25,224] (jh hX Z5) ?_)
                refine jd (fun h49=> ?_) (fun h49=> ?_)
                ·try simp at h49
                 refine Q3 (jd (fun h49_1=> ?_) (fun h49_1=> ?_))
                 ·try simp at h49_1
                  refine Q0 [0,2,13] (js hX 1 Z5 (Q8.call [0] rfl Z3 rfl Z5 Z8 Zn Qe Z3 Z3 Z5 (jh hX Z5))) ?_
                  have hL1:=Q29 k st 1
                  refine Q0 [0,2,13] (js hX 1 Z5 (Q8.call [0] rfl Z3 rfl Z5 Z8 Z18 Q18 Z3 Z3 Z5 jf)) ?_
                  refine Q0 [0,2] (js hX 4 Z5 (Q8.call [] rfl Z3 rfl Z5 Z8 Zv Q11 Z3 Z3 Z5 (Q8.call [0] rfl Z3 rfl Z5 Z8 Ze Qa Z3 Z3 Z5 jf))) ?_
                  refine Q0 [0,2,239] (jh hX Z5) ?_
                  refine jd (fun h54=> ?_) (fun h54=> ?_)
                  ·try simp at h54
                   refine Qd (js hX 3 Z5 (Q8.call [] rfl Z3 rfl Z5 Z8 Zp Q14 Z3 Z3 Z5 (Q8.call [0] rfl Z3 rfl Z5 Z8 Z14 Qh Z3 Z3 Z5 jf))) ?_
                   refine Ql Z5 Z17 (.of_eq ?_) ?_
                   all_goals clear hX
                   ·skip
                    rfl
                   ·skip
                    simp_all[Q2k,d2L,ldB,stK,Qm,Qy]
                  ·try simp at h54
                   refine Qd (js hX 2 Z5 (Q8.call [0] rfl Z3 rfl Z5 Z8 Z16 Qh Z3 Z3 Z5 jf)) ?_
                   refine Ql Z5 Z17 (.of_eq ?_) ?_
                   all_goals clear hX
                   ·skip
                    rfl
                   ·skip
                    simp_all[Q2k,d2L,ldB,stK,Qm,Qy]
                 ·try simp at h49_1
                  refine Q3 (Ql Z5 Z17 (.of_eq ?_) ?_)
                  all_goals clear hX
                  ·skip
                   rfl
                  ·skip
                   simp_all[Q2k,d2L,ldB,stK,Qm,Qy]
                ·try simp at h49
                 refine Qd (jh hX Z5) ?_
                 refine jd (fun h50=> ?_) (fun h50=> ?_)
                 ·try simp at h50
                  refine Q0 [0,2,13] (js hX 1 Z5 (Q8.call [0] rfl Z3 rfl Z5 Z8 Zn Qe Z3 Z3 Z5 (jh hX Z5))) ?_
                  have hL1:=Q29 k st 1
                  refine Q0 [0,2,13] (js hX 1 Z5 (Q8.call [0] rfl Z3 rfl Z5 Z8 Z18 Q18 Z3 Z3 Z5 jf)) ?_
                  refine Q0 [0,2] (js hX 4 Z5 (Q8.call [] rfl Z3 rfl Z5 Z8 Zv Q11 Z3 Z3 Z5 (Q8.call [0] rfl Z3 rfl Z5 Z8 Ze Qa Z3 Z3 Z5 jf))) ?_
                  refine Q0 [0,2,239] (jh hX Z5) ?_
                  refine jd (fun h54=> ?_) (fun h54=> ?_)
                  ·try simp at h54
                   refine Qd (js hX 3 Z5 (Q8.call [] rfl Z3 rfl Z5 Z8 Zp Q14 Z3 Z3 Z5 (Q8.call [0] rfl Z3 rfl Z5 Z8 Z14 Qh Z3 Z3 Z5 jf))) ?_
                   refine Ql Z5 Z17 (.of_eq ?_) ?_
                   all_goals clear hX
                   ·skip
                    rfl
                   ·skip
                    simp_all[Q2k,d2L,ldB,stK,Qm,Qy]
                  ·try simp at h54
                   refine Qd (js hX 2 Z5 (Q8.call [0] rfl Z3 rfl Z5 Z8 Z16 Qh Z3 Z3 Z5 jf)) ?_
                   refine Ql Z5 Z17 (.of_eq ?_) ?_
                   all_goals clear hX
                   ·skip
                    rfl
                   ·skip
                    simp_all[Q2k,d2L,ldB,stK,Qm,Qy]
                 ·try simp at h50
                  refine Q3 (Ql Z5 Z17 (.of_eq ?_) ?_)
                  all_goals clear hX
                  ·skip
                   rfl
                  ·skip
                   simp_all[Q2k,d2L,ldB,stK,Qm,Qy]
            ·try simp at h38
             refine Qd (jh hX Z5) ?_
             refine jd (fun h39=> ?_) (fun h39=> ?_)
             ·try simp at h39
              refine Q0 [0,10] (js hX 1 Z5 (Q8.call [0] rfl Z3 rfl Z5 Z8 Z1b Qe Z3 Z3 Z5 (jh hX Z5))) ?_
              have hL2:=Q29 k st 2
              refine Q0 [0,10] (js hX 4 Z5 (Q8.call [0] rfl Z3 rfl Z5 Z8 Z10 Q12 Z3 Z3 Z5 jf)) ?_
              refine Qd (js hX 4 Z5 (Q8.call [0] rfl Z3 rfl Z5 Z8 Z10 Q12 Z3 Z3 Z5 jf)) ?_
              refine Ql Z5 Z17 (.of_eq ?_) ?_
              all_goals clear hX
              ·skip
               rfl
              ·skip
               simp_all[Q2k,d2L,ldB,stK,Qm,Qy]
             ·try simp at h39
              refine Q0 [0,2,25,198] (jh hX Z5) ?_
              refine jd (fun h43=> ?_) (fun h43=> ?_)
              ·try simp at h43
               refine Q0 [0,11] (js hX 1 Z5 (Q8.call [0] rfl Z3 rfl Z5 Z8 Zn Qe Z3 Z3 Z5 (jh hX Z5))) ?_
               have hL1:=Q29 k st 1
               refine Qd (js hX 4 Z5 (Q8.call [] rfl Z3 rfl Z5 Z8 Zv Q11 Z3 Z3 Z5 (Q8.call [0] rfl Z3 rfl Z5 Z8 Ze Qa Z3 Z3 Z5 jf))) ?_
               refine Ql Z5 Z17 (.of_eq ?_) ?_
               all_goals clear hX
               ·skip
                rfl
               ·skip
                simp_all[Q2k,d2L,ldB,stK,Qm,Qy]
              ·try simp at h43
               refine Q0 [0,2,25,208] (jh hX Z5) ?_
               refine jd (fun h46=> ?_) (fun h46=> ?_)
               ·try simp at h46
                refine Q0 [0,12] (js hX 1 Z5 (Q8.call [0] rfl Z3 rfl Z5 Z8 Z1b Qe Z3 Z3 Z5 (jh hX Z5))) ?_
                have hL2:=Q29 k st 2
                refine Qd (js hX 4 Z5 (Q8.call [] rfl Z3 rfl Z5 Z8 Zv Q11 Z3 Z3 Z5 (js hX 1 Z5 (jm 5 217 [212,222] (p:=by intro b;(try simp at b);exact (js hX 3 Z29 (Q8.call [] rfl Z3 rfl Z29 Z8 Zv Q11 Z3 Z3 Z29 (jh hX Z29)))) (q:=by intro b;(try simp at b);exact (jh hX Z29)) (k:=(Q8.call [0] rfl Z3 rfl Z5 Z8 Ze Qa Z3 Z3 Z5 jf)))))) ?_
                refine Ql Z5 Z17 (.of_eq ?_) ?_
                all_goals clear hX
                ·skip
                 rfl
                ·skip
                 simp_all[Q2k,d2L,ldB,stK,Qm,Qy]
               ·try simp at h46
                refine Q5 (Q0 [0,2,25,224] (jh hX Z5) ?_)
                refine jd (fun h49=> ?_) (fun h49=> ?_)
                ·try simp at h49
                 refine Q3 (jd (fun h49_1=> ?_) (fun h49_1=> ?_))
                 ·try simp at h49_1
                  refine Q0 [0,2,13] (js hX 1 Z5 (Q8.call [0] rfl Z3 rfl Z5 Z8 Zn Qe Z3 Z3 Z5 (jh hX Z5))) ?_
                  have hL1:=Q29 k st 1
                  refine Q0 [0,2,13] (js hX 1 Z5 (Q8.call [0] rfl Z3 rfl Z5 Z8 Z18 Q18 Z3 Z3 Z5 jf)) ?_
                  refine Q0 [0,2] (js hX 4 Z5 (Q8.call [] rfl Z3 rfl Z5 Z8 Zv Q11 Z3 Z3 Z5 (Q8.call [0] rfl Z3 rfl Z5 Z8 Ze Qa Z3 Z3 Z5 jf))) ?_
                  refine Q0 [0,2,239] (jh hX Z5) ?_
                  refine jd (fun h54=> ?_) (fun h54=> ?_)
                  ·try simp at h54
                   refine Qd (js hX 3 Z5 (Q8.call [] rfl Z3 rfl Z5 Z8 Zp Q14 Z3 Z3 Z5 (Q8.call [0] rfl Z3 rfl Z5 Z8 Z14 Qh Z3 Z3 Z5 jf))) ?_
                   refine Ql Z5 Z17 (.of_eq ?_) ?_
                   all_goals clear hX
                   ·skip
                    rfl
                   ·skip
                    simp_all[Q2k,d2L,ldB,stK,Qm,Qy]
                  ·try simp at h54
                   refine Qd (js hX 2 Z5 (Q8.call [0] rfl Z3 rfl Z5 Z8 Z16 Qh Z3 Z3 Z5 jf)) ?_
                   refine Ql Z5 Z17 (.of_eq ?_) ?_
                   all_goals clear hX
                   ·skip
                    rfl
                   ·skip
                    simp_all[Q2k,d2L,ldB,stK,Qm,Qy]
                 ·try simp at h49_1
                  refine Q3 (Ql Z5 Z17 (.of_eq ?_) ?_)
                  all_goals clear hX
                  ·skip
                   rfl
                  ·skip
                   simp_all[Q2k,d2L,ldB,stK,Qm,Qy]
                ·try simp at h49
                 refine Qd (jh hX Z5) ?_
                 refine jd (fun h50=> ?_) (fun h50=> ?_)
                 ·try simp at h50
                  refine Q0 [0,2,13] (js hX 1 Z5 (Q8.call [0] rfl Z3 rfl Z5 Z8 Zn Qe Z3 Z3 Z5 (jh hX Z5))) ?_
                  have hL1:=Q29 k st 1
                  refine Q0 [0,2,13] (js hX 1 Z5 (Q8.call [0] rfl Z3 rfl Z5 Z8 Z18 Q18 Z3 Z3 Z5 jf)) ?_
                  refine Q0 [0,2] (js hX 4 Z5 (Q8.call [] rfl Z3 rfl Z5 Z8 Zv Q11 Z3 Z3 Z5 (Q8.call [0] rfl Z3 rfl Z5 Z8 Ze Qa Z3 Z3 Z5 jf))) ?_
                  refine Q0 [0,2,239] (jh hX Z5) ?_
                  refine jd (fun h54=> ?_) (fun h54=> ?_)
                  ·try simp at h54
                   refine Qd (js hX 3 Z5 (Q8.call [] rfl Z3 rfl Z5 Z8 Zp Q14 Z3 Z3 Z5 (Q8.call [0] rfl Z3 rfl Z5 Z8 Z14 Qh Z3 Z3 Z5 jf))) ?_
                   refine Ql Z5 Z17 (.of_eq ?_) ?_
                   all_goals clear hX
                   ·skip
                    rfl
                   ·skip
                    simp_all[Q2k,d2L,ldB,stK,Qm,Qy]
                  ·try simp at h54
                   refine Qd (js hX 2 Z5 (Q8.call [0] rfl Z3 rfl Z5 Z8 Z16 Qh Z3 Z3 Z5 jf)) ?_
                   refine Ql Z5 Z17 (.of_eq ?_) ?_
                   all_goals clear hX
                   ·skip
                    rfl
                   ·skip
                    simp_all[Q2k,d2L,ldB,stK,Qm,Qy]
                 ·try simp at h50
                  refine Q3 (Ql Z5 Z17 (.of_eq ?_) ?_)
                  all_goals clear hX
                  ·skip
                   rfl
                  ·skip
                   simp_all[Q2k,d2L,ldB,stK,Qm,Qy]
          ·try simp at h34
           refine Qd (jh hX Z5) ?_
           refine jd (fun h35=> ?_) (fun h35=> ?_)
           ·try simp at h35
            refine Q0 [0,9] (js hX 1 Z5 (Q8.call [0] rfl Z3 rfl Z5 Z8 Zn Qe Z3 Z3 Z5 (jh hX Z5))) ?_
            have hL1:=Q29 k st 1
            refine Qd (js hX 4 Z5 (Q8.call [0] rfl Z3 rfl Z5 Z8 Z10 Q12 Z3 Z3 Z5 jf)) ?_
            refine Ql Z5 Z17 (.of_eq ?_) ?_
            all_goals clear hX
            ·skip
             rfl
            ·skip
             simp_all[Q2k,d2L,ldB,stK,Qm,Qy]
           ·try simp at h35
            refine Q5 (Q0 [0,2,25,183] (jh hX Z5) ?_)
            refine jd (fun h38=> ?_) (fun h38=> ?_)
            ·try simp at h38
             refine Q3 (jd (fun h38_1=> ?_) (fun h38_1=> ?_))
             ·try simp at h38_1
              refine Q0 [0,10] (js hX 1 Z5 (Q8.call [0] rfl Z3 rfl Z5 Z8 Z1b Qe Z3 Z3 Z5 (jh hX Z5))) ?_
              have hL2:=Q29 k st 2
              refine Q0 [0,10] (js hX 4 Z5 (Q8.call [0] rfl Z3 rfl Z5 Z8 Z10 Q12 Z3 Z3 Z5 jf)) ?_
              refine Qd (js hX 4 Z5 (Q8.call [0] rfl Z3 rfl Z5 Z8 Z10 Q12 Z3 Z3 Z5 jf)) ?_
              refine Ql Z5 Z17 (.of_eq ?_) ?_
              all_goals clear hX
              ·skip
               rfl
              ·skip
               simp_all[Q2k,d2L,ldB,stK,Qm,Qy]
             ·try simp at h38_1
              refine Q0 [0,2,25,198] (jh hX Z5) ?_
              refine jd (fun h43=> ?_) (fun h43=> ?_)
              ·try simp at h43
               refine Q0 [0,11] (js hX 1 Z5 (Q8.call [0] rfl Z3 rfl Z5 Z8 Zn Qe Z3 Z3 Z5 (jh hX Z5))) ?_
               have hL1:=Q29 k st 1
               refine Qd (js hX 4 Z5 (Q8.call [] rfl Z3 rfl Z5 Z8 Zv Q11 Z3 Z3 Z5 (Q8.call [0] rfl Z3 rfl Z5 Z8 Ze Qa Z3 Z3 Z5 jf))) ?_
               refine Ql Z5 Z17 (.of_eq ?_) ?_
               all_goals clear hX
               ·skip
                rfl
               ·skip
                simp_all[Q2k,d2L,ldB,stK,Qm,Qy]
              ·try simp at h43
               refine Q0 [0,2,25,208] (jh hX Z5) ?_
               refine jd (fun h46=> ?_) (fun h46=> ?_)
               ·try simp at h46
                refine Q0 [0,12] (js hX 1 Z5 (Q8.call [0] rfl Z3 rfl Z5 Z8 Z1b Qe Z3 Z3 Z5 (jh hX Z5))) ?_
                have hL2:=Q29 k st 2
                refine Qd (js hX 4 Z5 (Q8.call [] rfl Z3 rfl Z5 Z8 Zv Q11 Z3 Z3 Z5 (js hX 1 Z5 (jm 5 217 [212,222] (p:=by intro b;(try simp at b);exact (js hX 3 Z29 (Q8.call [] rfl Z3 rfl Z29 Z8 Zv Q11 Z3 Z3 Z29 (jh hX Z29)))) (q:=by intro b;(try simp at b);exact (jh hX Z29)) (k:=(Q8.call [0] rfl Z3 rfl Z5 Z8 Ze Qa Z3 Z3 Z5 jf)))))) ?_
                refine Ql Z5 Z17 (.of_eq ?_) ?_
                all_goals clear hX
                ·skip
                 rfl
                ·skip
                 simp_all[Q2k,d2L,ldB,stK,Qm,Qy]
               ·try simp at h46
                refine Q5 (Q0 [0,2,25,224] (jh hX Z5) ?_)
                refine jd (fun h49=> ?_) (fun h49=> ?_)
                ·try simp at h49
                 refine Q3 (jd (fun h49_1=> ?_) (fun h49_1=> ?_))
                 ·try simp at h49_1
                  refine Q0 [0,2,13] (js hX 1 Z5 (Q8.call [0] rfl Z3 rfl Z5 Z8 Zn Qe Z3 Z3 Z5 (jh hX Z5))) ?_
                  have hL1:=Q29 k st 1
                  refine Q0 [0,2,13] (js hX 1 Z5 (Q8.call [0] rfl Z3 rfl Z5 Z8 Z18 Q18 Z3 Z3 Z5 jf)) ?_
                  refine Q0 [0,2] (js hX 4 Z5 (Q8.call [] rfl Z3 rfl Z5 Z8 Zv Q11 Z3 Z3 Z5 (Q8.call [0] rfl Z3 rfl Z5 Z8 Ze Qa Z3 Z3 Z5 jf))) ?_
                  refine Q0 [0,2,239] (jh hX Z5) ?_
                  refine jd (fun h54=> ?_) (fun h54=> ?_)
                  ·try simp at h54
                   refine Qd (js hX 3 Z5 (Q8.call [] rfl Z3 rfl Z5 Z8 Zp Q14 Z3 Z3 Z5 (Q8.call [0] rfl Z3 rfl Z5 Z8 Z14 Qh Z3 Z3 Z5 jf))) ?_
                   refine Ql Z5 Z17 (.of_eq ?_) ?_
                   all_goals clear hX
                   ·skip
                    rfl
                   ·skip
                    simp_all[Q2k,d2L,ldB,stK,Qm,Qy]
                  ·try simp at h54
                   refine Qd (js hX 2 Z5 (Q8.call [0] rfl Z3 rfl Z5 Z8 Z16 Qh Z3 Z3 Z5 jf)) ?_
                   refine Ql Z5 Z17 (.of_eq ?_) ?_
                   all_goals clear hX
                   ·skip
                    rfl
                   ·skip
                    simp_all[Q2k,d2L,ldB,stK,Qm,Qy]
                 ·try simp at h49_1
                  refine Q3 (Ql Z5 Z17 (.of_eq ?_) ?_)
                  all_goals clear hX
                  ·skip
                   rfl
                  ·skip
                   simp_all[Q2k,d2L,ldB,stK,Qm,Qy]
                ·try simp at h49
                 refine Qd (jh hX Z5) ?_
                 refine jd (fun h50=> ?_) (fun h50=> ?_)
                 ·try simp at h50
                  refine Q0 [0,2,13] (js hX 1 Z5 (Q8.call [0] rfl Z3 rfl Z5 Z8 Zn Qe Z3 Z3 Z5 (jh hX Z5))) ?_
                  have hL1:=Q29 k st 1
                  refine Q0 [0,2,13] (js hX 1 Z5 (Q8.call [0] rfl Z3 rfl Z5 Z8 Z18 Q18 Z3 Z3 Z5 jf)) ?_
                  refine Q0 [0,2] (js hX 4 Z5 (Q8.call [] rfl Z3 rfl Z5 Z8 Zv Q11 Z3 Z3 Z5 (Q8.call [0] rfl Z3 rfl Z5 Z8 Ze Qa Z3 Z3 Z5 jf))) ?_
                  refine Q0 [0,2,239] (jh hX Z5) ?_
                  refine jd (fun h54=> ?_) (fun h54=> ?_)
                  ·try simp at h54
                   refine Qd (js hX 3 Z5 (Q8.call [] rfl Z3 rfl Z5 Z8 Zp Q14 Z3 Z3 Z5 (Q8.call [0] rfl Z3 rfl Z5 Z8 Z14 Qh Z3 Z3 Z5 jf))) ?_
                   refine Ql Z5 Z17 (.of_eq ?_) ?_
                   all_goals clear hX
                   ·skip
                    rfl
                   ·skip
                    simp_all[Q2k,d2L,ldB,stK,Qm,Qy]
                  ·try simp at h54
                   refine Qd (js hX 2 Z5 (Q8.call [0] rfl Z3 rfl Z5 Z8 Z16 Qh Z3 Z3 Z5 jf)) ?_
                   refine Ql Z5 Z17 (.of_eq ?_) ?_
                   all_goals clear hX
                   ·skip
                    rfl
                   ·skip
                    simp_all[Q2k,d2L,ldB,stK,Qm,Qy]
                 ·try simp at h50
                  refine Q3 (Ql Z5 Z17 (.of_eq ?_) ?_)
                  all_goals clear hX
                  ·skip
                   rfl
                  ·skip
                   simp_all[Q2k,d2L,ldB,stK,Qm,Qy]
            ·try simp at h38
             refine Qd (jh hX Z5) ?_
             refine jd (fun h39=> ?_) (fun h39=> ?_)
             ·try simp at h39
              refine Q0 [0,10] (js hX 1 Z5 (Q8.call [0] rfl Z3 rfl Z5 Z8 Z1b Qe Z3 Z3 Z5 (jh hX Z5))) ?_
              have hL2:=Q29 k st 2
              refine Q0 [0,10] (js hX 4 Z5 (Q8.call [0] rfl Z3 rfl Z5 Z8 Z10 Q12 Z3 Z3 Z5 jf)) ?_
              refine Qd (js hX 4 Z5 (Q8.call [0] rfl Z3 rfl Z5 Z8 Z10 Q12 Z3 Z3 Z5 jf)) ?_
              refine Ql Z5 Z17 (.of_eq ?_) ?_
              all_goals clear hX
              ·skip
               rfl
              ·skip
               simp_all[Q2k,d2L,ldB,stK,Qm,Qy]
             ·try simp at h39
              refine Q0 [0,2,25,198] (jh hX Z5) ?_
              refine jd (fun h43=> ?_) (fun h43=> ?_)
              ·try simp at h43
               refine Q0 [0,11] (js hX 1 Z5 (Q8.call [0] rfl Z3 rfl Z5 Z8 Zn Qe Z3 Z3 Z5 (jh hX Z5))) ?_
               have hL1:=Q29 k st 1
               refine Qd (js hX 4 Z5 (Q8.call [] rfl Z3 rfl Z5 Z8 Zv Q11 Z3 Z3 Z5 (Q8.call [0] rfl Z3 rfl Z5 Z8 Ze Qa Z3 Z3 Z5 jf))) ?_
               refine Ql Z5 Z17 (.of_eq ?_) ?_
               all_goals clear hX
               ·skip
                rfl
               ·skip
                simp_all[Q2k,d2L,ldB,stK,Qm,Qy]
              ·try simp at h43
               refine Q0 [0,2,25,208] (jh hX Z5) ?_
               refine jd (fun h46=> ?_) (fun h46=> ?_)
               ·try simp at h46
                refine Q0 [0,12] (js hX 1 Z5 (Q8.call [0] rfl Z3 rfl Z5 Z8 Z1b Qe Z3 Z3 Z5 (jh hX Z5))) ?_
                have hL2:=Q29 k st 2
                refine Qd (js hX 4 Z5 (Q8.call [] rfl Z3 rfl Z5 Z8 Zv Q11 Z3 Z3 Z5 (js hX 1 Z5 (jm 5 217 [212,222] (p:=by intro b;(try simp at b);exact (js hX 3 Z29 (Q8.call [] rfl Z3 rfl Z29 Z8 Zv Q11 Z3 Z3 Z29 (jh hX Z29)))) (q:=by intro b;(try simp at b);exact (jh hX Z29)) (k:=(Q8.call [0] rfl Z3 rfl Z5 Z8 Ze Qa Z3 Z3 Z5 jf)))))) ?_
                refine Ql Z5 Z17 (.of_eq ?_) ?_
                all_goals clear hX
                ·skip
                 rfl
                ·skip
                 simp_all[Q2k,d2L,ldB,stK,Qm,Qy]
               ·try simp at h46
                refine Q5 (Q0 [0,2,25,224] (jh hX Z5) ?_)
                refine jd (fun h49=> ?_) (fun h49=> ?_)
                ·try simp at h49
                 refine Q3 (jd (fun h49_1=> ?_) (fun h49_1=> ?_))
                 ·try simp at h49_1
                  refine Q0 [0,2,13] (js hX 1 Z5 (Q8.call [0] rfl Z3 rfl Z5 Z8 Zn Qe Z3 Z3 Z5 (jh hX Z5))) ?_
                  have hL1:=Q29 k st 1
                  refine Q0 [0,2,13] (js hX 1 Z5 (Q8.call [0] rfl Z3 rfl Z5 Z8 Z18 Q18 Z3 Z3 Z5 jf)) ?_
                  refine Q0 [0,2] (js hX 4 Z5 (Q8.call [] rfl Z3 rfl Z5 Z8 Zv Q11 Z3 Z3 Z5 (Q8.call [0] rfl Z3 rfl Z5 Z8 Ze Qa Z3 Z3 Z5 jf))) ?_
                  refine Q0 [0,2,239] (jh hX Z5) ?_
                  refine jd (fun h54=> ?_) (fun h54=> ?_)
                  ·try simp at h54
                   refine Qd (js hX 3 Z5 (Q8.call [] rfl Z3 rfl Z5 Z8 Zp Q14 Z3 Z3 Z5 (Q8.call [0] rfl Z3 rfl Z5 Z8 Z14 Qh Z3 Z3 Z5 jf))) ?_
                   refine Ql Z5 Z17 (.of_eq ?_) ?_
                   all_goals clear hX
                   ·skip
                    rfl
                   ·skip
                    simp_all[Q2k,d2L,ldB,stK,Qm,Qy]
                  ·try simp at h54
                   refine Qd (js hX 2 Z5 (Q8.call [0] rfl Z3 rfl Z5 Z8 Z16 Qh Z3 Z3 Z5 jf)) ?_
                   refine Ql Z5 Z17 (.of_eq ?_) ?_
                   all_goals clear hX
                   ·skip
                    rfl
                   ·skip
                    simp_all[Q2k,d2L,ldB,stK,Qm,Qy]
                 ·try simp at h49_1
                  refine Q3 (Ql Z5 Z17 (.of_eq ?_) ?_)
                  all_goals clear hX
                  ·skip
                   rfl
                  ·skip
                   simp_all[Q2k,d2L,ldB,stK,Qm,Qy]
                ·try simp at h49
                 refine Qd (jh hX Z5) ?_
                 refine jd (fun h50=> ?_) (fun h50=> ?_)
                 ·try simp at h50
                  refine Q0 [0,2,13] (js hX 1 Z5 (Q8.call [0] rfl Z3 rfl Z5 Z8 Zn Qe Z3 Z3 Z5 (jh hX Z5))) ?_
                  have hL1:=Q29 k st 1
                  refine Q0 [0,2,13] (js hX 1 Z5 (Q8.call [0] rfl Z3 rfl Z5 Z8 Z18 Q18 Z3 Z3 Z5 jf)) ?_
                  refine Q0 [0,2] (js hX 4 Z5 (Q8.call [] rfl Z3 rfl Z5 Z8 Zv Q11 Z3 Z3 Z5 (Q8.call [0] rfl Z3 rfl Z5 Z8 Ze Qa Z3 Z3 Z5 jf))) ?_
                  refine Q0 [0,2,239] (jh hX Z5) ?_
                  refine jd (fun h54=> ?_) (fun h54=> ?_)
                  ·try simp at h54
                   refine Qd (js hX 3 Z5 (Q8.call [] rfl Z3 rfl Z5 Z8 Zp Q14 Z3 Z3 Z5 (Q8.call [0] rfl Z3 rfl Z5 Z8 Z14 Qh Z3 Z3 Z5 jf))) ?_
                   refine Ql Z5 Z17 (.of_eq ?_) ?_
                   all_goals clear hX
                   ·skip
                    rfl
                   ·skip
                    simp_all[Q2k,d2L,ldB,stK,Qm,Qy]
                  ·try simp at h54
                   refine Qd (js hX 2 Z5 (Q8.call [0] rfl Z3 rfl Z5 Z8 Z16 Qh Z3 Z3 Z5 jf)) ?_
                   refine Ql Z5 Z17 (.of_eq ?_) ?_
                   all_goals clear hX
                   ·skip
                    rfl
                   ·skip
                    simp_all[Q2k,d2L,ldB,stK,Qm,Qy]
                 ·try simp at h50
                  refine Q3 (Ql Z5 Z17 (.of_eq ?_) ?_)
                  all_goals clear hX
                  ·skip
                   rfl
                  ·skip
                   simp_all[Q2k,d2L,ldB,stK,Qm,Qy]
end Go.Proofs
namespace Go.Proofs
open Go Go.Ev
theorem Qf8:Q6 Tryz.prog 108:=jcb Tryz.func108
theorem Qf2{F:SF}{o1 o2:Bool}{st lo:List Typ}{k:Int}(hs:Q1r F.l≤1048576)(hw:Qx F.l=true)(hst:st.length≤100)(hlo:lo.length≤100)(hia:F.i.op=3∨F.i.op=4→0≤F.i.a)(hd:F.i.desc.length≤1099511627776)(hmd:F.m.desc.length≤1099511627776)(hi:F.m.name=Qm→0<lo.length):Ct Tryz.prog 108 [.ptr 0 0 0] [some (25,[oSW F o1 o2 st lo k])] (.tup []) [some (25,[Qbf F (Q8n F o1 o2 st lo k)])]:=by
 have hl:F.l.length≤1099511627776:=by unfold Q1r at hs;omega
 have hr:=Nat.le_trans (Q9h F.m.desc).1 hmd
 refine jbS Tryz.func108 86 fun X hX=> ?_
 refine jq [0,2] ?_
 refine Q5 (Q9 (Q0 [0,2,11] (jt 3 (k:=(jm 3 14 [0,2,17] (p:=fun b2_3=>by (try simp at b2_3);exact (jh hX (by simp[-Qc,-Qb,b2_3];rfl))) (q:=fun b2_3=>by (try simp at b2_3);exact (jh hX (by simp[-Qc,-Qb,b2_3];rfl))) (k:=jr)))) ?_))
 refine jd (fun h2=> ?_) (fun h2=> ?_)
 ·try simp at h2
  refine Q0 [0,3] (js hX 1 Zy (jc [0] (c:=Z1b) (a:=Qe) (k:=(jh hX Zy)))) ?_
  have hL2:=Q29 k st 2
  refine Q0 [0,3] (js hX 4 Zy (jc [0] (c:=Z10) (a:=Q12) (k:=jf))) ?_
  refine Q0 [0,3] (js hX 4 Zy (jc [0] (c:=Z10) (a:=Q12) (k:=jf))) ?_
  refine Qd (js hX 4 Zy (jc [0] (c:=Z14) (a:=Qh) (k:=jf))) ?_
  refine Q21 (Le.trans (Le.trim 1 (by simp[hX]) _ Z3) (Le.of_eq Z8)) ?_
  first
  |(obtain ⟨s9,hs9⟩: ∃s,Qfl F o1 o2 st lo k=s:=⟨_,rfl⟩;rw[hs9];obtain ⟨p1,p2,pst,plo,pk⟩:=s9;cases p1)
  |(obtain ⟨s9,hs9⟩: ∃s,Qiu F o1 o2 st lo k=s:=⟨_,rfl⟩;rw[hs9];obtain ⟨p1,p2,pst,plo,pk⟩:=s9;cases p1)
  |(obtain ⟨s9,hs9⟩: ∃s,fdS F o1 o2 st lo k=s:=⟨_,rfl⟩;rw[hs9];obtain ⟨p1,p2,pst,plo,pk⟩:=s9;cases p1)
  |(obtain ⟨s9,hs9⟩: ∃s,Q48 F o1 o2 st lo k=s:=⟨_,rfl⟩;rw[hs9];obtain ⟨p1,p2,pst,plo,pk⟩:=s9;cases p1)
  |(obtain ⟨s9,hs9⟩: ∃s,Qbz F o1 o2 st lo k=s:=⟨_,rfl⟩;rw[hs9];obtain ⟨p1,p2,pst,plo,pk⟩:=s9;cases p1)
  |(obtain ⟨s9,hs9⟩: ∃s,Q2k F o1 o2 st lo k=s:=⟨_,rfl⟩;rw[hs9];obtain ⟨p1,p2,pst,plo,pk⟩:=s9;cases p1)
  |skip
  all_goals first|refine Q21 (Le.expose 0 0 22 Z24) ?_|refine Q21 (Le.nilOb 3 _) ?_
  all_goals
   refine Q2q (n:=13) (A:=[0,1,2,3,4,5,6,7,8,9,10,11,12]) (B:=[]) (L:=[0,1]) hmo (by kernel_rfl) tok hX Zy .nil (Q8.weak (jc [0,1] (c:=Z1h) (a:=Qa) (k:=jf)) (by first|exact Le.absorb 0 0 22 Z8|exact .refl)) ?_
   refine Ql Zy Z17 (.of_eq ?_) ?_
   all_goals clear hX
   ·skip
    rfl
   ·skip
    first|(simp_all[Q8n,Qa5,Qbk,Qq2];done)|(have c1:(8≤F.i.op∧F.i.op≤18)=False:=eq_false Za;(first|have c2:(26≤F.i.op∧F.i.op≤29)=True:=eq_true Za|have c2:(26≤F.i.op∧F.i.op≤29)=False:=eq_false Za);(first|have c3:(F.i.op=31)=True:=eq_true Za|have c3:(F.i.op=31)=False:=eq_false Za);(first|have c4:(32≤F.i.op∧F.i.op≤35)=True:=eq_true Za|have c4:(32≤F.i.op∧F.i.op≤35)=False:=eq_false Za);(first|have c5:(36≤F.i.op∧F.i.op≤38)=True:=eq_true Za|have c5:(36≤F.i.op∧F.i.op≤38)=False:=eq_false Za);(first|have c6:(41≤F.i.op)=True:=eq_true Za|have c6:(41≤F.i.op)=False:=eq_false Za);(first|(simp only[Qbf,Q8n,Qa5,c1,c2,c3,c4,c5,c6,hs9,Qbk,if_false,if_true];simp;done)|simp only[Qbf,Q8n,Qa5,c1,c2,c3,c4,c5,c6,hs9,Qbk,if_false,if_true]))
 ·try simp at h2
  refine Q0 [0,2,35] (js hX 3 Zy (jm 3 38 [0,2,41] (p:=fun b7_3=>by (try simp at b7_3);exact (jh hX (by simp[-Qc,-Qb,h2,b7_3];rfl))) (q:=fun b7_3=>by (try simp at b7_3);exact (jh hX (by simp[-Qc,-Qb,h2,b7_3];rfl))) (k:=(jh hX Zy)))) ?_
  refine jd (fun h7=> ?_) (fun h7=> ?_)
  ·try simp at h7
   refine Qd (js hX 1 (by simp[h2,h7];rfl) (jc [0] (c:=(by apply Qft<;>exact Z0)) (a:=Qg5) (k:=jf))) ?_
   first
   |(obtain ⟨s9,hs9⟩: ∃s,Qfl F o1 o2 st lo k=s:=⟨_,rfl⟩;rw[hs9];obtain ⟨p1,p2,pst,plo,pk⟩:=s9;cases p1)
   |(obtain ⟨s9,hs9⟩: ∃s,Qiu F o1 o2 st lo k=s:=⟨_,rfl⟩;rw[hs9];obtain ⟨p1,p2,pst,plo,pk⟩:=s9;cases p1)
   |(obtain ⟨s9,hs9⟩: ∃s,fdS F o1 o2 st lo k=s:=⟨_,rfl⟩;rw[hs9];obtain ⟨p1,p2,pst,plo,pk⟩:=s9;cases p1)
   |(obtain ⟨s9,hs9⟩: ∃s,Q48 F o1 o2 st lo k=s:=⟨_,rfl⟩;rw[hs9];obtain ⟨p1,p2,pst,plo,pk⟩:=s9;cases p1)
   |(obtain ⟨s9,hs9⟩: ∃s,Qbz F o1 o2 st lo k=s:=⟨_,rfl⟩;rw[hs9];obtain ⟨p1,p2,pst,plo,pk⟩:=s9;cases p1)
   |(obtain ⟨s9,hs9⟩: ∃s,Q2k F o1 o2 st lo k=s:=⟨_,rfl⟩;rw[hs9];obtain ⟨p1,p2,pst,plo,pk⟩:=s9;cases p1)
   |skip
   all_goals first|refine Q21 (Le.expose 0 0 22 Z24) ?_|refine Q21 (Le.nilOb 3 _) ?_
   all_goals
    refine Q2q (n:=13) (A:=[0,1,2,3,4,5,6,7,8,9,10,11,12]) (B:=[]) (L:=[0,1]) hmo (by kernel_rfl) tok hX (by simp[h2,h7];rfl) .nil (Q8.weak (jc [0,1] (c:=Z1h) (a:=Qa) (k:=jf)) (by first|exact Le.absorb 0 0 22 Z8|exact .refl)) ?_
    refine Ql (by simp[h2,h7];rfl) Z17 (.of_eq ?_) ?_
    all_goals clear hX
    ·skip
     rfl
    ·skip
     first|(simp_all[Q8n,Qa5,Qbk,Qq2];done)|(have c1:(8≤F.i.op∧F.i.op≤18)=False:=eq_false Za;(first|have c2:(26≤F.i.op∧F.i.op≤29)=True:=eq_true Za|have c2:(26≤F.i.op∧F.i.op≤29)=False:=eq_false Za);(first|have c3:(F.i.op=31)=True:=eq_true Za|have c3:(F.i.op=31)=False:=eq_false Za);(first|have c4:(32≤F.i.op∧F.i.op≤35)=True:=eq_true Za|have c4:(32≤F.i.op∧F.i.op≤35)=False:=eq_false Za);(first|have c5:(36≤F.i.op∧F.i.op≤38)=True:=eq_true Za|have c5:(36≤F.i.op∧F.i.op≤38)=False:=eq_false Za);(first|have c6:(41≤F.i.op)=True:=eq_true Za|have c6:(41≤F.i.op)=False:=eq_false Za);(first|(simp only[Qbf,Q8n,Qa5,c1,c2,c3,c4,c5,c6,hs9,Qbk,if_false,if_true];simp;done)|simp only[Qbf,Q8n,Qa5,c1,c2,c3,c4,c5,c6,hs9,Qbk,if_false,if_true]))
  ·try simp at h7
   refine Q0 [0,2,44] (jh hX (by simp[h2,h7];rfl)) ?_
   refine jd (fun h9=> ?_) (fun h9=> ?_)
   ·try simp at h9
    refine Qd (js hX 1 (by simp[h2,h7];rfl) (jc [0] (c:=(by apply Qf0<;>exact Z0)) (a:=Qf7) (k:=jf))) ?_
    first
    |(obtain ⟨s9,hs9⟩: ∃s,Qfl F o1 o2 st lo k=s:=⟨_,rfl⟩;rw[hs9];obtain ⟨p1,p2,pst,plo,pk⟩:=s9;cases p1)
    |(obtain ⟨s9,hs9⟩: ∃s,Qiu F o1 o2 st lo k=s:=⟨_,rfl⟩;rw[hs9];obtain ⟨p1,p2,pst,plo,pk⟩:=s9;cases p1)
    |(obtain ⟨s9,hs9⟩: ∃s,fdS F o1 o2 st lo k=s:=⟨_,rfl⟩;rw[hs9];obtain ⟨p1,p2,pst,plo,pk⟩:=s9;cases p1)
    |(obtain ⟨s9,hs9⟩: ∃s,Q48 F o1 o2 st lo k=s:=⟨_,rfl⟩;rw[hs9];obtain ⟨p1,p2,pst,plo,pk⟩:=s9;cases p1)
    |(obtain ⟨s9,hs9⟩: ∃s,Qbz F o1 o2 st lo k=s:=⟨_,rfl⟩;rw[hs9];obtain ⟨p1,p2,pst,plo,pk⟩:=s9;cases p1)
    |(obtain ⟨s9,hs9⟩: ∃s,Q2k F o1 o2 st lo k=s:=⟨_,rfl⟩;rw[hs9];obtain ⟨p1,p2,pst,plo,pk⟩:=s9;cases p1)
    |skip
    all_goals first|refine Q21 (Le.expose 0 0 22 Z24) ?_|refine Q21 (Le.nilOb 3 _) ?_
    all_goals
     refine Q2q (n:=13) (A:=[0,1,2,3,4,5,6,7,8,9,10,11,12]) (B:=[]) (L:=[0,1]) hmo (by kernel_rfl) tok hX (by simp[h2,h7];rfl) .nil (Q8.weak (jc [0,1] (c:=Z1h) (a:=Qa) (k:=jf)) (by first|exact Le.absorb 0 0 22 Z8|exact .refl)) ?_
     refine Ql (by simp[h2,h7];rfl) Z17 (.of_eq ?_) ?_
     all_goals clear hX
     ·skip
      rfl
     ·skip
      first|(simp_all[Q8n,Qa5,Qbk,Qq2];done)|(have c1:(8≤F.i.op∧F.i.op≤18)=False:=eq_false Za;(first|have c2:(26≤F.i.op∧F.i.op≤29)=True:=eq_true Za|have c2:(26≤F.i.op∧F.i.op≤29)=False:=eq_false Za);(first|have c3:(F.i.op=31)=True:=eq_true Za|have c3:(F.i.op=31)=False:=eq_false Za);(first|have c4:(32≤F.i.op∧F.i.op≤35)=True:=eq_true Za|have c4:(32≤F.i.op∧F.i.op≤35)=False:=eq_false Za);(first|have c5:(36≤F.i.op∧F.i.op≤38)=True:=eq_true Za|have c5:(36≤F.i.op∧F.i.op≤38)=False:=eq_false Za);(first|have c6:(41≤F.i.op)=True:=eq_true Za|have c6:(41≤F.i.op)=False:=eq_false Za);(first|(simp only[Qbf,Q8n,Qa5,c1,c2,c3,c4,c5,c6,hs9,Qbk,if_false,if_true];simp;done)|simp only[Qbf,Q8n,Qa5,c1,c2,c3,c4,c5,c6,hs9,Qbk,if_false,if_true]))
   ·try simp at h9
    refine Q0 [0,2,49] (js hX 3 (by simp[h2,h7];rfl) (jm 3 52 [0,2,55] (p:=fun b11_3=>by (try simp at b11_3);exact (jh hX (by simp[-Qc,-Qb,h2,h7,b11_3];rfl))) (q:=fun b11_3=>by (try simp at b11_3);exact (jh hX (by simp[-Qc,-Qb,h2,h7,b11_3];rfl))) (k:=(jh hX (by simp[h2,h7];rfl))))) ?_
    refine jd (fun h11=> ?_) (fun h11=> ?_)
    ·try simp at h11
     refine Qd (js hX 1 (by simp[h2,h7,h11];rfl) (jc [0] (c:=(by apply Qfv<;>exact Z0)) (a:=Qg6) (k:=jf))) ?_
     first
     |(obtain ⟨s9,hs9⟩: ∃s,Qfl F o1 o2 st lo k=s:=⟨_,rfl⟩;rw[hs9];obtain ⟨p1,p2,pst,plo,pk⟩:=s9;cases p1)
     |(obtain ⟨s9,hs9⟩: ∃s,Qiu F o1 o2 st lo k=s:=⟨_,rfl⟩;rw[hs9];obtain ⟨p1,p2,pst,plo,pk⟩:=s9;cases p1)
     |(obtain ⟨s9,hs9⟩: ∃s,fdS F o1 o2 st lo k=s:=⟨_,rfl⟩;rw[hs9];obtain ⟨p1,p2,pst,plo,pk⟩:=s9;cases p1)
     |(obtain ⟨s9,hs9⟩: ∃s,Q48 F o1 o2 st lo k=s:=⟨_,rfl⟩;rw[hs9];obtain ⟨p1,p2,pst,plo,pk⟩:=s9;cases p1)
     |(obtain ⟨s9,hs9⟩: ∃s,Qbz F o1 o2 st lo k=s:=⟨_,rfl⟩;rw[hs9];obtain ⟨p1,p2,pst,plo,pk⟩:=s9;cases p1)
     |(obtain ⟨s9,hs9⟩: ∃s,Q2k F o1 o2 st lo k=s:=⟨_,rfl⟩;rw[hs9];obtain ⟨p1,p2,pst,plo,pk⟩:=s9;cases p1)
     |skip
     all_goals first|refine Q21 (Le.expose 0 0 22 Z24) ?_|refine Q21 (Le.nilOb 3 _) ?_
     all_goals
      refine Q2q (n:=13) (A:=[0,1,2,3,4,5,6,7,8,9,10,11,12]) (B:=[]) (L:=[0,1]) hmo (by kernel_rfl) tok hX (by simp[h2,h7,h11];rfl) .nil (Q8.weak (jc [0,1] (c:=Z1h) (a:=Qa) (k:=jf)) (by first|exact Le.absorb 0 0 22 Z8|exact .refl)) ?_
      refine Ql (by simp[h2,h7,h11];rfl) Z17 (.of_eq ?_) ?_
      all_goals clear hX
      ·skip
       rfl
      ·skip
       first|(simp_all[Q8n,Qa5,Qbk,Qq2];done)|(have c1:(8≤F.i.op∧F.i.op≤18)=False:=eq_false Za;(first|have c2:(26≤F.i.op∧F.i.op≤29)=True:=eq_true Za|have c2:(26≤F.i.op∧F.i.op≤29)=False:=eq_false Za);(first|have c3:(F.i.op=31)=True:=eq_true Za|have c3:(F.i.op=31)=False:=eq_false Za);(first|have c4:(32≤F.i.op∧F.i.op≤35)=True:=eq_true Za|have c4:(32≤F.i.op∧F.i.op≤35)=False:=eq_false Za);(first|have c5:(36≤F.i.op∧F.i.op≤38)=True:=eq_true Za|have c5:(36≤F.i.op∧F.i.op≤38)=False:=eq_false Za);(first|have c6:(41≤F.i.op)=True:=eq_true Za|have c6:(41≤F.i.op)=False:=eq_false Za);(first|(simp only[Qbf,Q8n,Qa5,c1,c2,c3,c4,c5,c6,hs9,Qbk,if_false,if_true];simp;done)|simp only[Qbf,Q8n,Qa5,c1,c2,c3,c4,c5,c6,hs9,Qbk,if_false,if_true]))
    ·try simp at h11
     refine Q0 [0,2,58] (js hX 3 (by simp[h2,h7,h11];rfl) (jm 3 61 [0,2,64] (p:=fun b13_3=>by (try simp at b13_3);exact (jh hX (by simp[-Qc,-Qb,h2,h7,h11,b13_3];rfl))) (q:=fun b13_3=>by (try simp at b13_3);exact (jh hX (by simp[-Qc,-Qb,h2,h7,h11,b13_3];rfl))) (k:=(jh hX (by simp[h2,h7,h11];rfl))))) ?_
     refine jd (fun h13=> ?_) (fun h13=> ?_)
     ·try simp at h13
      refine Qd (js hX 1 (by simp[h2,h7,h11,h13];rfl) (jc [0] (c:=(by apply Qha<;>exact Z0)) (a:=Qhq) (k:=jf))) ?_
      first
      |(obtain ⟨s9,hs9⟩: ∃s,Qfl F o1 o2 st lo k=s:=⟨_,rfl⟩;rw[hs9];obtain ⟨p1,p2,pst,plo,pk⟩:=s9;cases p1)
      |(obtain ⟨s9,hs9⟩: ∃s,Qiu F o1 o2 st lo k=s:=⟨_,rfl⟩;rw[hs9];obtain ⟨p1,p2,pst,plo,pk⟩:=s9;cases p1)
      |(obtain ⟨s9,hs9⟩: ∃s,fdS F o1 o2 st lo k=s:=⟨_,rfl⟩;rw[hs9];obtain ⟨p1,p2,pst,plo,pk⟩:=s9;cases p1)
      |(obtain ⟨s9,hs9⟩: ∃s,Q48 F o1 o2 st lo k=s:=⟨_,rfl⟩;rw[hs9];obtain ⟨p1,p2,pst,plo,pk⟩:=s9;cases p1)
      |(obtain ⟨s9,hs9⟩: ∃s,Qbz F o1 o2 st lo k=s:=⟨_,rfl⟩;rw[hs9];obtain ⟨p1,p2,pst,plo,pk⟩:=s9;cases p1)
      |(obtain ⟨s9,hs9⟩: ∃s,Q2k F o1 o2 st lo k=s:=⟨_,rfl⟩;rw[hs9];obtain ⟨p1,p2,pst,plo,pk⟩:=s9;cases p1)
      |skip
      all_goals first|refine Q21 (Le.expose 0 0 22 Z24) ?_|refine Q21 (Le.nilOb 3 _) ?_
      all_goals
       refine Q2q (n:=13) (A:=[0,1,2,3,4,5,6,7,8,9,10,11,12]) (B:=[]) (L:=[0,1]) hmo (by kernel_rfl) tok hX (by simp[h2,h7,h11,h13];rfl) .nil (Q8.weak (jc [0,1] (c:=Z1h) (a:=Qa) (k:=jf)) (by first|exact Le.absorb 0 0 22 Z8|exact .refl)) ?_
       refine Ql (by simp[h2,h7,h11,h13];rfl) Z17 (.of_eq ?_) ?_
       all_goals clear hX
       ·skip
        rfl
       ·skip
        first|(simp_all[Q8n,Qa5,Qbk,Qq2];done)|(have c1:(8≤F.i.op∧F.i.op≤18)=False:=eq_false Za;(first|have c2:(26≤F.i.op∧F.i.op≤29)=True:=eq_true Za|have c2:(26≤F.i.op∧F.i.op≤29)=False:=eq_false Za);(first|have c3:(F.i.op=31)=True:=eq_true Za|have c3:(F.i.op=31)=False:=eq_false Za);(first|have c4:(32≤F.i.op∧F.i.op≤35)=True:=eq_true Za|have c4:(32≤F.i.op∧F.i.op≤35)=False:=eq_false Za);(first|have c5:(36≤F.i.op∧F.i.op≤38)=True:=eq_true Za|have c5:(36≤F.i.op∧F.i.op≤38)=False:=eq_false Za);(first|have c6:(41≤F.i.op)=True:=eq_true Za|have c6:(41≤F.i.op)=False:=eq_false Za);(first|(simp only[Qbf,Q8n,Qa5,c1,c2,c3,c4,c5,c6,hs9,Qbk,if_false,if_true];simp;done)|simp only[Qbf,Q8n,Qa5,c1,c2,c3,c4,c5,c6,hs9,Qbk,if_false,if_true]))
     ·try simp at h13
      refine Q0 [0,67] (jh hX (by simp[h2,h7,h11,h13];rfl)) ?_
      refine jd (fun h15=> ?_) (fun h15=> ?_)
      ·try simp at h15
       refine Qd (js hX 1 (by simp[h2,h7,h11,h13,h15];rfl) (jc [0] (c:=(by apply Qfs<;>exact Z0)) (a:=Qg4) (k:=jf))) ?_
       first
       |(obtain ⟨s9,hs9⟩: ∃s,Qfl F o1 o2 st lo k=s:=⟨_,rfl⟩;rw[hs9];obtain ⟨p1,p2,pst,plo,pk⟩:=s9;cases p1)
       |(obtain ⟨s9,hs9⟩: ∃s,Qiu F o1 o2 st lo k=s:=⟨_,rfl⟩;rw[hs9];obtain ⟨p1,p2,pst,plo,pk⟩:=s9;cases p1)
       |(obtain ⟨s9,hs9⟩: ∃s,fdS F o1 o2 st lo k=s:=⟨_,rfl⟩;rw[hs9];obtain ⟨p1,p2,pst,plo,pk⟩:=s9;cases p1)
       |(obtain ⟨s9,hs9⟩: ∃s,Q48 F o1 o2 st lo k=s:=⟨_,rfl⟩;rw[hs9];obtain ⟨p1,p2,pst,plo,pk⟩:=s9;cases p1)
       |(obtain ⟨s9,hs9⟩: ∃s,Qbz F o1 o2 st lo k=s:=⟨_,rfl⟩;rw[hs9];obtain ⟨p1,p2,pst,plo,pk⟩:=s9;cases p1)
       |(obtain ⟨s9,hs9⟩: ∃s,Q2k F o1 o2 st lo k=s:=⟨_,rfl⟩;rw[hs9];obtain ⟨p1,p2,pst,plo,pk⟩:=s9;cases p1)
       |skip
       all_goals first|refine Q21 (Le.expose 0 0 22 Z24) ?_|refine Q21 (Le.nilOb 3 _) ?_
       all_goals
        refine Q2q (n:=13) (A:=[0,1,2,3,4,5,6,7,8,9,10,11,12]) (B:=[]) (L:=[0,1]) hmo (by kernel_rfl) tok hX (by simp[h2,h7,h11,h13,h15];rfl) .nil (Q8.weak (jc [0,1] (c:=Z1h) (a:=Qa) (k:=jf)) (by first|exact Le.absorb 0 0 22 Z8|exact .refl)) ?_
        refine Ql (by simp[h2,h7,h11,h13,h15];rfl) Z17 (.of_eq ?_) ?_
        all_goals clear hX
        ·skip
         rfl
        ·skip
         first|(simp_all[Q8n,Qa5,Qbk,Qq2];done)|(have c1:(8≤F.i.op∧F.i.op≤18)=False:=eq_false Za;(first|have c2:(26≤F.i.op∧F.i.op≤29)=True:=eq_true Za|have c2:(26≤F.i.op∧F.i.op≤29)=False:=eq_false Za);(first|have c3:(F.i.op=31)=True:=eq_true Za|have c3:(F.i.op=31)=False:=eq_false Za);(first|have c4:(32≤F.i.op∧F.i.op≤35)=True:=eq_true Za|have c4:(32≤F.i.op∧F.i.op≤35)=False:=eq_false Za);(first|have c5:(36≤F.i.op∧F.i.op≤38)=True:=eq_true Za|have c5:(36≤F.i.op∧F.i.op≤38)=False:=eq_false Za);(first|have c6:(41≤F.i.op)=True:=eq_true Za|have c6:(41≤F.i.op)=False:=eq_false Za);(first|(simp only[Qbf,Q8n,Qa5,c1,c2,c3,c4,c5,c6,hs9,Qbk,if_false,if_true];simp;done)|simp only[Qbf,Q8n,Qa5,c1,c2,c3,c4,c5,c6,hs9,Qbk,if_false,if_true]))
      ·try simp at h15
       refine Qd (js hX 1 (by simp[h2,h7,h11,h13,h15];rfl) (jc [0] (c:=(by apply Qfr<;>exact Z0)) (a:=Qg3) (k:=jf))) ?_
       first
       |(obtain ⟨s9,hs9⟩: ∃s,Qfl F o1 o2 st lo k=s:=⟨_,rfl⟩;rw[hs9];obtain ⟨p1,p2,pst,plo,pk⟩:=s9;cases p1)
       |(obtain ⟨s9,hs9⟩: ∃s,Qiu F o1 o2 st lo k=s:=⟨_,rfl⟩;rw[hs9];obtain ⟨p1,p2,pst,plo,pk⟩:=s9;cases p1)
       |(obtain ⟨s9,hs9⟩: ∃s,fdS F o1 o2 st lo k=s:=⟨_,rfl⟩;rw[hs9];obtain ⟨p1,p2,pst,plo,pk⟩:=s9;cases p1)
       |(obtain ⟨s9,hs9⟩: ∃s,Q48 F o1 o2 st lo k=s:=⟨_,rfl⟩;rw[hs9];obtain ⟨p1,p2,pst,plo,pk⟩:=s9;cases p1)
       |(obtain ⟨s9,hs9⟩: ∃s,Qbz F o1 o2 st lo k=s:=⟨_,rfl⟩;rw[hs9];obtain ⟨p1,p2,pst,plo,pk⟩:=s9;cases p1)
       |(obtain ⟨s9,hs9⟩: ∃s,Q2k F o1 o2 st lo k=s:=⟨_,rfl⟩;rw[hs9];obtain ⟨p1,p2,pst,plo,pk⟩:=s9;cases p1)
       |skip
       all_goals first|refine Q21 (Le.expose 0 0 22 Z24) ?_|refine Q21 (Le.nilOb 3 _) ?_
       all_goals
        refine Q2q (n:=13) (A:=[0,1,2,3,4,5,6,7,8,9,10,11,12]) (B:=[]) (L:=[0,1]) hmo (by kernel_rfl) tok hX (by simp[h2,h7,h11,h13,h15];rfl) .nil (Q8.weak (jc [0,1] (c:=Z1h) (a:=Qa) (k:=jf)) (by first|exact Le.absorb 0 0 22 Z8|exact .refl)) ?_
        refine Ql (by simp[h2,h7,h11,h13,h15];rfl) Z17 (.of_eq ?_) ?_
        all_goals clear hX
        ·skip
         rfl
        ·skip
         first|(simp_all[Q8n,Qa5,Qbk,Qq2];done)|(have c1:(8≤F.i.op∧F.i.op≤18)=False:=eq_false Za;(first|have c2:(26≤F.i.op∧F.i.op≤29)=True:=eq_true Za|have c2:(26≤F.i.op∧F.i.op≤29)=False:=eq_false Za);(first|have c3:(F.i.op=31)=True:=eq_true Za|have c3:(F.i.op=31)=False:=eq_false Za);(first|have c4:(32≤F.i.op∧F.i.op≤35)=True:=eq_true Za|have c4:(32≤F.i.op∧F.i.op≤35)=False:=eq_false Za);(first|have c5:(36≤F.i.op∧F.i.op≤38)=True:=eq_true Za|have c5:(36≤F.i.op∧F.i.op≤38)=False:=eq_false Za);(first|have c6:(41≤F.i.op)=True:=eq_true Za|have c6:(41≤F.i.op)=False:=eq_false Za);(first|(simp only[Qbf,Q8n,Qa5,c1,c2,c3,c4,c5,c6,hs9,Qbk,if_false,if_true];simp;done)|simp only[Qbf,Q8n,Qa5,c1,c2,c3,c4,c5,c6,hs9,Qbk,if_false,if_true]))
end Go.Proofs
namespace Go.Proofs
open Go Go.Ev
theorem Qmd:Q6 Tryz.prog 55:=jcb Tryz.func55
theorem Qlr{l:List Cls}{c:Cls}{m:Mth}{a:Nat}{f:Frm}(hs:Q1r l≤1048576)(hw:Qx l=true)(ha:a<m.code.length)(hst:f.stack.length≤100)(hlo:f.locals.length≤100)(hia:m.code[a].op=3∨m.code[a].op=4→0≤m.code[a].a)(hd:m.code[a].desc.length≤1099511627776)(hmd:m.desc.length≤1099511627776)(hi:m.name=Qm→0<f.locals.length):Ct Tryz.prog 55 [.lst false 6 (l.map eC),eC c,eM m,.int .i64 (a:Nat),eFr f] [] (oFo (efT ⟨l,c,m,m.code[a],a⟩ f)) []:=by
 refine jbS Tryz.func55 52 fun X hX=> ?_
 refine Q0 [0,3,6,7,9,10] (jh hX (by simp[ha];rfl)) ?_
 refine jL 10 [0,1,2,3,4,5,6,7,8,9] [] [10,11] ([0,1,2]) hX (by simp[ha];rfl) .nil (jh hX (by simp[ha];rfl)) ?_
 refine Q0 [10,11] (js hX 1 (by simp[ha];rfl) (jc [4] (c:=(by apply (Qf2 (F:=⟨l,c,m,m.code[a],a⟩) (o1:=false) (o2:=false) (st:=f.stack) (lo:=f.locals) (k:=0))<;>exact Z20)) (a:=Qf8) (k:=jf))) ?_
 have hln:=Qwq ⟨l,c,m,m.code[a],a⟩ false false f.stack f.locals 0
 obtain ⟨s9,hs9⟩: ∃s,Q8n ⟨l,c,m,m.code[a],a⟩ false false f.stack f.locals 0=s:=⟨_,rfl⟩
 rw[hs9] at hln
 simp only[Qbf,hs9]
 unfold efT
 rw[hs9]
 obtain ⟨p1,p2,pst,plo,pk⟩:=s9
 have w1:pst.length*32≤140737488355328:=by simp at hln;omega
 have w2:pst.length≤1099511627776:=by simp at hln;omega
 have w3:plo.length*32≤140737488355328:=by simp at hln;omega
 have w4:plo.length≤1099511627776:=by simp at hln;omega
 refine Q5 (Q0 [10,11,30] (jh hX (by simp[ha];rfl)) ?_)
 refine jd (fun h3=> ?_) (fun h3=> ?_)
 ·try simp at h3
  refine Q0 [10] (jh hX (by simp[ha];rfl)) ?_
  refine Q4 (Q1z (by simp[ha];rfl) ?_ rfl)
  rw[frOf,if_neg h3]
  exact Wk.agg (.cons (Wk.nilSlice _ _) (.cons (Wk.nilSlice _ _) (.cons (Wk.refl _) .nil)))
 ·try simp at h3
  refine Q3 ?_
  cases p1<;>cases p2
  all_goals first|refine Q21 (Le.expose 4 0 22 Z24) ?_|refine Q21 (Le.nilOb 3 _) ?_
  all_goals first|refine Q21 (Le.expose 4 0 23 Z24) ?_|refine Q21 (Le.nilOb 3 _) ?_
  all_goals
   refine jP 13 (Q20 [1,2,3,4,5,8,9,10,11,12] (.alt 0 (.alt 6 (.alt 7 .tail .stop) (.alt 7 (.alt 6 .tail .stop) .stop)) (.alt 7 (.alt 0 (.alt 6 .tail .stop) .stop) .stop))) [10] [4] hX (jPp [1,2,3,4,5,8,9,10,11,12] _ (by simp[ha,w1,w2,w3,w4];try rfl) (jPa 0 7 (p:=fun X hX=>(jh hX (by simp[ha,w1,w2,w3,w4];rfl))) (k:=(jPa 6 7 (p:=fun X hX=>(jh hX (by simp[ha,w1,w2,w3,w4];rfl))) (k:=(jPa 7 7 (p:=fun X hX=>(jh hX (by simp[ha,w1,w2,w3,w4];rfl))) (k:=.tail) (kr:=.stop))) (kr:=(jPa 7 7 (p:=fun X hX=>(jh hX (by simp[ha,w1,w2,w3,w4];rfl))) (k:=(jPa 6 7 (p:=fun X hX=>(jh hX (by simp[ha,w1,w2,w3,w4];rfl))) (k:=.tail) (kr:=.stop))) (kr:=.stop))))) (kr:=(jPa 7 7 (p:=fun X hX=>(jh hX (by simp[ha,w1,w2,w3,w4];rfl))) (k:=(jPa 0 7 (p:=fun X hX=>(jh hX (by simp[ha,w1,w2,w3,w4];rfl))) (k:=(jPa 6 7 (p:=fun X hX=>(jh hX (by simp[ha,w1,w2,w3,w4];rfl))) (k:=(jPw 7 8 (by simp[];try rfl) .tail)) (kr:=.stop))) (kr:=.stop))) (kr:=.stop))))) (jh hX (by simp[ha,w1,w2,w3,w4];rfl)) ?_
   refine Q4 (Q1z (by simp[ha,w1,w2,w3,w4];rfl) ?_ rfl)
   rw[frOf,if_pos (by simpa using h3)]
   exact Wk.refl _
end Go.Proofs
namespace Go.Proofs
open Go Go.Ev
theorem Q6r:Q6 Tryz.prog 12:=jcb Tryz.func12
theorem Q6p{l:List Cls}{c m a:Int}{f:Frm}(hl:Q1r l≤1048576):Ct Tryz.prog 12 [.lst false 6 (l.map eC),.int .i64 c,.int .i64 m,.int .i64 a,eFr f] [] (oFo (Qc3 l c m a f)) []:=by
 have hll:l.length≤1099511627776:=by unfold Q1r at hl;omega
 rcases Qh0 l c m a f hl with hF|⟨i,j,n,rfl,rfl,rfl,hF,p1,p2,p3,hP,hsf⟩
 all_goals first|(have hx:=p1;clear hx)|(have p1:=trivial;have p2:=trivial;have p3:=trivial)
 all_goals
  refine jbS Tryz.func12 39 fun X hX=> ?_
  refine Q0 [0,1,2,3,9,10] (jh hX (by simp[hF,p1,p2,p3];rfl)) ?_
  refine Q5 (Q0 [0,1,2,3,9,10,13] (jh hX (by simp[hF,p1,p2,p3];rfl)) ?_)
  refine jd (fun h1=> ?_) (fun h1=> ?_)
  ·try simp at h1
   all_goals
    refine Q0 [10] (jh hX (by simp[hF,p1,p2,p3,h1];rfl)) ?_
    refine Q4 (Q1z (by simp[hF,p1,p2,p3,h1];rfl) ?_ rfl)
    rw[Qc3,if_pos Za]
    exact Wk.agg (.cons (Wk.nilSlice _ _) (.cons (Wk.nilSlice _ _) (.cons (Wk.refl _) .nil)))
  ·try simp at h1
   all_goals
    refine Q3 (Q5 (Q0 [0,1,2,3,9,10,21] (js hX 5 (by simp[hF,p1,p2,p3,h1];rfl) (jc [] (c:=(by apply Qna<;>first|assumption|omega|(exact hP.1)|simp_all)) (a:=Qnz) (k:=(jh hX (by simp[hF,p1,p2,p3,h1];rfl))))) ?_))
    refine jd (fun h3=> ?_) (fun h3=> ?_)
    ·try simp at h3
     all_goals
      refine Q0 [10] (jh hX (by simp[hF,p1,p2,p3,h1];rfl)) ?_
      refine Q4 (Q1z (by simp[hF,p1,p2,p3,h1];rfl) ?_ rfl)
      rw[Qc3,if_neg Za,if_neg (by simp[hF])]
      exact Wk.agg (.cons (Wk.nilSlice _ _) (.cons (Wk.nilSlice _ _) (.cons (Wk.refl _) .nil)))
    ·try simp at h3
     all_goals
      refine Q3 (jL 15 [0,1,2,3,4,5,6,7,8,9,10,11,12,13,14] [] [10] ([0]) hX (by simp[hF,p1,p2,p3,h1];rfl) .nil (jc [] (c:=(by apply Qlr<;>first|assumption|omega|exact hP.1|exact hP.2.1|exact hP.2.2.1|exact hP.2.2.2.1|exact hP.2.2.2.2.1|exact hP.2.2.2.2.2.1|exact hP.2.2.2.2.2.2)) (a:=Qmd) (k:=(jh hX (by simp[hF,p1,p2,p3,h1];rfl)))) ?_)
      refine Q4 (Q1z (by simp[hF,p1,p2,p3,h1];rfl) ?_ rfl)
      rw[Qc3,if_neg Za,if_pos hF,hsf]
      exact Wk.refl _
end Go.Proofs
namespace Go.Proofs
open Go Go.Ev
theorem Qps:Q6 Tryz.prog 176:=jcb Tryz.func176
theorem Qpg{x:Fld}:Ct Tryz.prog 176 [eF x] [] (eF x) []:=by
 refine jbS Tryz.func176 14 fun X hX=> ?_
 refine jq [1,2] ?_
 refine jq [1,2,3] ?_
 refine jq [1,2,3] ?_
 refine jq [1,2,3] ?_
 refine jq [2,3] ?_
 refine jq [2] ?_
 refine Q4 (je0 ?_)
 simp
end Go.Proofs
namespace Go.Proofs
open Go Go.Ev
theorem Qo8:Q6 Tryz.prog 109:=jcb Tryz.func109
theorem Qnj{l:List Fld}(q1:l.length≤1099511627776):Ct Tryz.prog 109 [.lst false 3 (l.map eF)] [] (.lst true 3 (l.map eF)) []:=by
 have w1:40*(l.length:Int)≤281474976710656:=by omega
 have w2:(l.length:Int)≤9223372036854775807:=by omega
 refine jbS Tryz.func109 23 fun X hX=> ?_
 refine Q0 [0] (jh hX Zt) ?_
 refine Q0 [0,3] (jh hX Zt) ?_
 refine Q5 (Q0 [0,3,4] (jh hX Zt) ?_)
 refine Q9 (Qo (α:=Nat) [0,3,4] (fun i=>[(4,.int .i64 i)]) (fun i=>[(0,some (3,Q8d eF (.agg [.str [],.str [],.bool false]) l i))]) (fun i=>i≤l.length) (fun i=>l.length-i) (0) (fun i=>by simp;rfl) (by simp[Qa3]) ?_ ?_)
 ·simp
 rintro i hi
 refine Q5 (Q0 [0,3,4,11] (jh hX Zt) ?_)
 refine jd (fun h3=> ?_) (fun h3=> ?_)
 ·try simp at h3
  refine Q3 (Q5 (Q9 (Qd (js hX 6 Z1v (Q8.call [] rfl Z3 rfl Zt Z8 (by apply Qpg<;>exact Z4) Qps Z3 Z3 Zt (jh hX Z1v))) ?_)))
  refine Qd (jh hX Z21) ?_
  refine Qp (i+1) [0,3,4] (by simp[h3,Q3r,Qaj];first|exact Q72 h3|(constructor<;>first|omega|exact Q72 h3)) ?_ ?_
  ·omega
  ·omega
 ·try simp at h3
  have hil:i=l.length:=by omega
  subst hil
  rw[Qa4]
  refine Qr (Q0 [2] (jh hX Zt) ?_)
  refine Q4 (je Z1v ?_)
  simp
end Go.Proofs
namespace Go.Proofs
open Go Go.Ev
theorem Qt5:Q6 Tryz.prog 299:=jcb Tryz.func299
theorem Qsz{x:Ins}:Ct Tryz.prog 299 [eI x] [] (eI x) []:=by
 refine jbS Tryz.func299 20 fun X hX=> ?_
 refine jq [1,2] ?_
 refine jq [1,2,3] ?_
 refine jq [1,2,3] ?_
 refine jq [1,2,3] ?_
 refine jq [1,2,3] ?_
 refine jq [1,2,3] ?_
 refine jq [2,3] ?_
 refine jq [2] ?_
 refine Q4 (je0 ?_)
 simp
end Go.Proofs
namespace Go.Proofs
open Go Go.Ev
theorem Qsc:Q6 Tryz.prog 249:=jcb Tryz.func249
theorem Qrx{l:List Ins}(q1:l.length≤1099511627776):Ct Tryz.prog 249 [.lst false 5 (l.map eI)] [] (.lst true 5 (l.map eI)) []:=by
 have w1:64*(l.length:Int)≤281474976710656:=by omega
 have w2:(l.length:Int)≤9223372036854775807:=by omega
 refine jbS Tryz.func249 23 fun X hX=> ?_
 refine Q0 [0] (jh hX Zt) ?_
 refine Q0 [0,3] (jh hX Zt) ?_
 refine Q5 (Q0 [0,3,4] (jh hX Zt) ?_)
 refine Q9 (Qo (α:=Nat) [0,3,4] (fun i=>[(4,.int .i64 i)]) (fun i=>[(0,some (5,Q8d eI (.agg [.int .i64 0,.int .i64 0,.str [],.str [],.str []]) l i))]) (fun i=>i≤l.length) (fun i=>l.length-i) (0) (fun i=>by simp;rfl) (by simp[Qa3]) ?_ ?_)
 ·simp
 rintro i hi
 refine Q5 (Q0 [0,3,4,11] (jh hX Zt) ?_)
 refine jd (fun h3=> ?_) (fun h3=> ?_)
 ·try simp at h3
  refine Q3 (Q5 (Q9 (Qd (js hX 6 Z1v (Q8.call [] rfl Z3 rfl Zt Z8 (by apply Qsz<;>exact Z4) Qt5 Z3 Z3 Zt (jh hX Z1v))) ?_)))
  refine Qd (jh hX Z21) ?_
  refine Qp (i+1) [0,3,4] (by simp[h3,Q3r,Qaj];first|exact Q72 h3|(constructor<;>first|omega|exact Q72 h3)) ?_ ?_
  ·omega
  ·omega
 ·try simp at h3
  have hil:i=l.length:=by omega
  subst hil
  rw[Qa4]
  refine Qr (Q0 [2] (jh hX Zt) ?_)
  refine Q4 (je Z1v ?_)
  simp
end Go.Proofs
namespace Go.Proofs
open Go Go.Ev
theorem Qmg:Q6 Tryz.prog 300:=jcb Tryz.func300
theorem Qlw{x:Hdl}:Ct Tryz.prog 300 [eH x] [] (eH x) []:=by
 refine jbS Tryz.func300 17 fun X hX=> ?_
 refine jq [1,2] ?_
 refine jq [1,2,3] ?_
 refine jq [1,2,3] ?_
 refine jq [1,2,3] ?_
 refine jq [1,2,3] ?_
 refine jq [2,3] ?_
 refine jq [2] ?_
 refine Q4 (je0 ?_)
 simp
end Go.Proofs
namespace Go.Proofs
open Go Go.Ev
theorem Qko:Q6 Tryz.prog 250:=jcb Tryz.func250
theorem Qk5{l:List Hdl}(q1:l.length≤1099511627776):Ct Tryz.prog 250 [.lst false 4 (l.map eH)] [] (.lst true 4 (l.map eH)) []:=by
 have w1:40*(l.length:Int)≤281474976710656:=by omega
 have w2:(l.length:Int)≤9223372036854775807:=by omega
 refine jbS Tryz.func250 23 fun X hX=> ?_
 refine Q0 [0] (jh hX Zt) ?_
 refine Q0 [0,3] (jh hX Zt) ?_
 refine Q5 (Q0 [0,3,4] (jh hX Zt) ?_)
 refine Q9 (Qo (α:=Nat) [0,3,4] (fun i=>[(4,.int .i64 i)]) (fun i=>[(0,some (4,Q8d eH (.agg [.int .i64 0,.int .i64 0,.int .i64 0,.str []]) l i))]) (fun i=>i≤l.length) (fun i=>l.length-i) (0) (fun i=>by simp;rfl) (by simp[Qa3]) ?_ ?_)
 ·simp
 rintro i hi
 refine Q5 (Q0 [0,3,4,11] (jh hX Zt) ?_)
 refine jd (fun h3=> ?_) (fun h3=> ?_)
 ·try simp at h3
  refine Q3 (Q5 (Q9 (Qd (js hX 6 Z1v (Q8.call [] rfl Z3 rfl Zt Z8 (by apply Qlw<;>exact Z4) Qmg Z3 Z3 Zt (jh hX Z1v))) ?_)))
  refine Qd (jh hX Z21) ?_
  refine Qp (i+1) [0,3,4] (by simp[h3,Q3r,Qaj];first|exact Q72 h3|(constructor<;>first|omega|exact Q72 h3)) ?_ ?_
  ·omega
  ·omega
 ·try simp at h3
  have hil:i=l.length:=by omega
  subst hil
  rw[Qa4]
  refine Qr (Q0 [2] (jh hX Zt) ?_)
  refine Q4 (je Z1v ?_)
  simp
end Go.Proofs
namespace Go.Proofs
open Go Go.Ev
theorem Qo7:Q6 Tryz.prog 177:=jcb Tryz.func177
theorem Qni{x:Mth}(h:Q3t x≤1099511627776):Ct Tryz.prog 177 [eM x] [] (oM x) []:=by
 simp only[Q3t] at h
 refine jbS Tryz.func177 34 fun X hX=> ?_
 refine jq [1,2] ?_
 refine jq [1,2,3] ?_
 refine jq [1,2,3] ?_
 refine jq [1,2,3] ?_
 refine jq [1,2,3] ?_
 refine jq [1,2,3] ?_
 refine jq [1,2,3] ?_
 refine jq [1,2,3] ?_
 refine jq [1,2,3] ?_
 refine Q0 [1,2,3] (jt 2 (k:=(jc [] (c:=(by apply Qrx<;>exact Z1q)) (a:=Qsc) (k:=jr)))) ?_
 refine Q0 [2,3] (jt 2 (k:=(jc [] (c:=(by apply Qk5<;>exact Z1q)) (a:=Qko) (k:=jr)))) ?_
 refine jq [2] ?_
 refine Q4 (je0 ?_)
 simp[oM]
end Go.Proofs
namespace Go.Proofs
open Go Go.Ev
theorem Qmf:Q6 Tryz.prog 110:=jcb Tryz.func110
theorem Qlv{l:List Mth}(q1:l.length≤1099511627776)(hb: ∀y∈l,Q3t y≤1099511627776):Ct Tryz.prog 110 [.lst false 9 (l.map eM)] [] (.lst true 9 (l.map oM)) []:=by
 have w1:104*(l.length:Int)≤281474976710656:=by omega
 have w2:(l.length:Int)≤9223372036854775807:=by omega
 refine jbS Tryz.func110 23 fun X hX=> ?_
 refine Q0 [0] (jh hX Zt) ?_
 refine Q0 [0,3] (jh hX Zt) ?_
 refine Q5 (Q0 [0,3,4] (jh hX Zt) ?_)
 refine Q9 (Qo (α:=Nat) [0,3,4] (fun i=>[(4,.int .i64 i)]) (fun i=>[(0,some (9,Q8d oM (.agg [.str [],.str [],.bool false,.bool false,.bool false,.int .i64 0,.int .i64 0,.raw (.slice none 0 0),.raw (.slice none 0 0)]) l i))]) (fun i=>i≤l.length) (fun i=>l.length-i) (0) (fun i=>by simp;rfl) (by simp[Qa3]) ?_ ?_)
 ·simp
 rintro i hi
 refine Q5 (Q0 [0,3,4,11] (jh hX Zt) ?_)
 refine jd (fun h3=> ?_) (fun h3=> ?_)
 ·try simp at h3
  refine Q3 (Q5 (Q9 (Qd (js hX 6 Z1v (Q8.call [] rfl Z3 rfl Zt Z8 (by apply Qni<;>first|assumption|omega|exact hb _ (List.getElem_mem _)) Qo7 Z3 Z3 Zt (jh hX Z1v))) ?_)))
  refine Qd (jh hX Z21) ?_
  refine ⟨i+1,Le.trans (Le.keep [0,3,4] _) (Le.trans (Le.absorb 0 i 7 (by simp[h3,Q3r];rfl)) (Le.trans (Le.absorb 0 i 8 (by simp[h3,Q3r];rfl)) (Le.trans (Le.trim 1 (by simp[hX]) _ Z3) (Le.of_eq (by simp[h3];exact (congrArg (jkL _) (Q72 h3)).trans (Qah _ _ (Qot (fun x=>by simp[V.pure,Q2t]) (by simp[V.pure,Q2t])))))))),?_,?_⟩
  ·omega
  ·omega
 ·try simp at h3
  have hil:i=l.length:=by omega
  subst hil
  rw[Qa4]
  refine Qr (Q0 [2] (jh hX Zt) ?_)
  refine Q4 (je Z1v ?_)
  simp
end Go.Proofs
namespace Go.Proofs
open Go Go.Ev
theorem Qpt:Q6 Tryz.prog 56:=jcb Tryz.func56
theorem Qph{x:Cls}(h:Q1n x≤1099511627776):Ct Tryz.prog 56 [eC x] [] (oC x) []:=by
 simp only[Q1n] at h
 refine jbS Tryz.func56 25 fun X hX=> ?_
 refine jq [1,2] ?_
 refine jq [1,2,3] ?_
 refine jq [1,2,3] ?_
 refine jq [1,2,3] ?_
 refine jq [1,2,3] ?_
 refine jq [1,2,3] ?_
 refine Q0 [1,2,3] (jt 2 (k:=(jc [] (c:=(by apply Qnj<;>exact Z1q)) (a:=Qo8) (k:=jr)))) ?_
 refine Q0 [2,3] (jt 2 (k:=(jc [] (c:=(by apply Qlv<;>exact Z1q)) (a:=Qmf) (k:=jr)))) ?_
 refine jq [2] ?_
 refine Q4 (je0 ?_)
 simp[oC]
end Go.Proofs
namespace Go.Proofs
open Go Go.Ev
theorem Q57:Q6 Tryz.prog 13:=jcb Tryz.func13
theorem Q56{l:List Cls}(q1:l.length≤1099511627776)(hb: ∀y∈l,Q1n y≤1099511627776):Ct Tryz.prog 13 [.lst false 6 (l.map eC)] [] (.lst true 6 (l.map oC)) []:=by
 have w1:88*(l.length:Int)≤281474976710656:=by omega
 have w2:(l.length:Int)≤9223372036854775807:=by omega
 refine jbS Tryz.func13 23 fun X hX=> ?_
 refine Q0 [0] (jh hX Zt) ?_
 refine Q0 [0,3] (jh hX Zt) ?_
 refine Q5 (Q0 [0,3,4] (jh hX Zt) ?_)
 refine Q9 (Qo (α:=Nat) [0,3,4] (fun i=>[(4,.int .i64 i)]) (fun i=>[(0,some (6,Q8d oC (.agg [.str [],.str [],.bool false,.bool false,.raw (.slice none 0 0),.raw (.slice none 0 0)]) l i))]) (fun i=>i≤l.length) (fun i=>l.length-i) (0) (fun i=>by simp;rfl) (by simp[Qa3]) ?_ ?_)
 ·simp
 rintro i hi
 refine Q5 (Q0 [0,3,4,11] (jh hX Zt) ?_)
 refine jd (fun h3=> ?_) (fun h3=> ?_)
 ·try simp at h3
  refine Q3 (Q5 (Q9 (Qd (js hX 6 Z1v (Q8.call [] rfl Z3 rfl Zt Z8 (by apply Qph<;>first|assumption|omega|exact hb _ (List.getElem_mem _)) Qpt Z3 Z3 Zt (jh hX Z1v))) ?_)))
  refine Qd (jh hX Z21) ?_
  refine ⟨i+1,Le.trans (Le.keep [0,3,4] _) (Le.trans (Le.absorb 0 i 4 (by simp[h3,Q3r];rfl)) (Le.trans (Le.absorb 0 i 5 (by simp[h3,Q3r];rfl)) (Le.trans (Le.trim 1 (by simp[hX]) _ Z3) (Le.of_eq (by simp[h3];exact (congrArg (jkL _) (Q72 h3)).trans (Qah _ _ (Qot (fun x=>by simp[V.pure,Q2t]) (by simp[V.pure,Q2t])))))))),?_,?_⟩
  ·omega
  ·omega
 ·try simp at h3
  have hil:i=l.length:=by omega
  subst hil
  rw[Qa4]
  refine Qr (Q0 [2] (jh hX Zt) ?_)
  refine Q4 (je Z1v ?_)
  simp
end Go.Proofs
namespace Go.Proofs
open Go Go.Ev
theorem Qsb:Q6 Tryz.prog 111:=jcb Tryz.func111
theorem Qrw{x:Typ}:Ct Tryz.prog 111 [eT x] [] (eT x) []:=by
 refine jbS Tryz.func111 14 fun X hX=> ?_
 refine jq [1,2] ?_
 refine jq [1,2,3] ?_
 refine jq [1,2,3] ?_
 refine jq [1,2,3] ?_
 refine jq [2,3] ?_
 refine jq [2] ?_
 refine Q4 (je0 ?_)
 simp
end Go.Proofs
namespace Go.Proofs
open Go Go.Ev
theorem Qfi:Q6 Tryz.prog 57:=jcb Tryz.func57
theorem Qfg{l:List Typ}(q1:l.length≤1099511627776):Ct Tryz.prog 57 [.lst false 3 (l.map eT)] [] (.lst true 3 (l.map eT)) []:=by
 have w1:32*(l.length:Int)≤281474976710656:=by omega
 have w2:(l.length:Int)≤9223372036854775807:=by omega
 refine jbS Tryz.func57 23 fun X hX=> ?_
 refine Q0 [0] (jh hX Zt) ?_
 refine Q0 [0,3] (jh hX Zt) ?_
 refine Q5 (Q0 [0,3,4] (jh hX Zt) ?_)
 refine Q9 (Qo (α:=Nat) [0,3,4] (fun i=>[(4,.int .i64 i)]) (fun i=>[(0,some (3,Q8d eT (.agg [.int .i64 0,.str [],.int .i64 0]) l i))]) (fun i=>i≤l.length) (fun i=>l.length-i) (0) (fun i=>by simp;rfl) (by simp[Qa3]) ?_ ?_)
 ·simp
 rintro i hi
 refine Q5 (Q0 [0,3,4,11] (jh hX Zt) ?_)
 refine jd (fun h3=> ?_) (fun h3=> ?_)
 ·try simp at h3
  refine Q3 (Q5 (Q9 (Qd (js hX 6 Z1v (Q8.call [] rfl Z3 rfl Zt Z8 (by apply Qrw<;>exact Z4) Qsb Z3 Z3 Zt (jh hX Z1v))) ?_)))
  refine Qd (jh hX Z21) ?_
  refine Qp (i+1) [0,3,4] (by simp[h3,Q3r,Qaj];first|exact Q72 h3|(constructor<;>first|omega|exact Q72 h3)) ?_ ?_
  ·omega
  ·omega
 ·try simp at h3
  have hil:i=l.length:=by omega
  subst hil
  rw[Qa4]
  refine Qr (Q0 [2] (jh hX Zt) ?_)
  refine Q4 (je Z1v ?_)
  simp
end Go.Proofs
namespace Go.Proofs
open Go Go.Ev
theorem Q47:Q6 Tryz.prog 14:=jcb Tryz.func14
theorem Qpf{x:Frm}(h:Qjt x≤1099511627776):Ct Tryz.prog 14 [eFr x] [] (oFr x) []:=by
 simp only[Qjt] at h
 refine jbS Tryz.func14 13 fun X hX=> ?_
 refine jq [1,2] ?_
 refine jq [1,2,3] ?_
 refine Q0 [1,2,3] (jt 2 (k:=(jc [] (c:=(by apply Qfg<;>exact Z1q)) (a:=Qfi) (k:=jr)))) ?_
 refine Q0 [2,3] (jt 2 (k:=(jc [] (c:=(by apply Qfg<;>exact Z1q)) (a:=Qfi) (k:=jr)))) ?_
 refine jq [2] ?_
 refine Q4 (je0 ?_)
 simp[oFr]
end Go.Proofs
namespace Go.Proofs
open Go Go.Ev
section
variable {X:Ctx} {ops:Array Oper} {ls:List Oper} {st s s1 s2 s3:St} {o:Oper} {n0:Nat} {L:List Nat} {Q:Exit→St→Prop}
theorem jZ{id:Nat}{y:Code}(t:Tm)(ks L:List Nat)(hX:X.n0=n0)(hH:Q51 Tryz.prog TT n0 ls.toArray L t st s2)(hk:W Tryz.prog X y (s2.keep ks) Q)
  (hB:tmsZ .any ls.toArray t=true:=by kernel_rfl):W Tryz.prog X (.seq (.region id ls.toArray true) y) st Q:=Q15l t ks L hmo hB tok hX hH hk
end
end Go.Proofs
namespace Go.Proofs
open Go Go.Ev
section
variable {X:Ctx} {ops:Array Oper} {ls:List Oper} {st s s1 s2 s3:St} {n0:Nat} {Q:Exit→St→Prop} {t u:Ti}
theorem jV{id:Nat}{y:Code}(n:Nat)(t:Ti)(ks:List Nat)(hX:X.n0=n0)(hH:Q6s Tryz.prog TT n0 ls.toArray t st s2)(h2:Q8 Tryz.prog X ls.toArray (ls.drop n) s2 s3)(hk:W Tryz.prog X y (s3.keep ks) Q)
  (hB:tisB .any ls.toArray n t=true:=by kernel_rfl):W Tryz.prog X (.seq (.region id ls.toArray true) y) st Q:=Q12q n t ks hmo hB tok hX hH h2 hk
theorem jVp{i:Nat}(h:Q5j TT n0 ops [] [i] s=some s1)(k:Q6s Tryz.prog TT n0 ops t s1 s2):Q6s Tryz.prog TT n0 ops (.pur i t) s s2:= .pur h k
theorem jVo{i:Nat}{o:Oper}(ho:ops[i]? =some o:=by rfl)(p: ∀X:Ctx,X.n0=n0→Q8 Tryz.prog X ops [o] s s1)(k:Q6s Tryz.prog TT n0 ops t s1 s2):Q6s Tryz.prog TT n0 ops (.one i t) s s2:= .one ho p k
theorem jVt{i j:Nat}(h1:Q6s Tryz.prog TT n0 ops (.one i t) s s2)(h2:Q6s Tryz.prog TT n0 ops (.one j u) s s2):Q6s Tryz.prog TT n0 ops (.two i j t u) s s2:= .two h1 h2
end
end Go.Proofs
namespace Go.Proofs
open Go Go.Ev
theorem Qck:Q6 Tryz.prog 68:=jcb Tryz.func68
theorem Qci{l:List Cls}:Ct Tryz.prog 68 [.lst false 6 (l.map eC)] [] (.bool (decide (l.length≤400))) []:=by
 refine jbS Tryz.func68 6 fun X hX=> ?_
 refine jq [0] ?_
 refine jq [2] ?_
 refine Q4 (je0 ?_)
 simp
end Go.Proofs
namespace Go.Proofs
open Go Go.Ev
end Go.Proofs
namespace Go.Proofs
open Go Go.Ev
theorem Q3p:Q6 Tryz.prog 115:=jcb Tryz.func115
theorem Q3o{l:List Typ}(hl:l.length≤1048576):Ct Tryz.prog 115 [.lst false 3 (l.map eT)] [] (.lst true 3 (l.map eT)) []:=by
 have w1:l.length*32≤140737488355328:=by omega
 have w2:l.length≤1099511627776:=by omega
 refine jbS Tryz.func115 8 fun X hX=> ?_
 refine Q0 [0] (jh hX (by simp[w1,w2];rfl)) ?_
 refine Q5 (Q145 [0,4] (Qee.step 1 tok hX (by simp[w1,w2];rfl) (Qee.eqNil tok rfl rfl rfl rfl Z3)) ?_)
 rintro _ ⟨b1,hb1,rfl⟩
 refine jd (fun h1=> ?_) (fun h1=> ?_)
 ·try simp at h1
  refine Q0 [2] (jh hX (by simp[w1,w2];rfl)) ?_
  refine Q4 (Q1z (by simp[w1,w2];rfl) ?_ rfl)
  obtain rfl:l=[]:=by
   cases l with
   |nil=>rfl
   |cons x l=>have:=hb1 Z3;simp_all
  exact Wk.nilSlice _ _
 ·try simp at h1
  refine Q3 (Q0 [2] (jh hX (by simp[w1,w2];rfl)) ?_)
  refine Q4 (Q1z (by simp[w1,w2];rfl) ?_ rfl)
  exact Wk.refl _
end Go.Proofs
namespace Go.Proofs
open Go Go.Ev
theorem Qmp:Q6 Tryz.prog 79:=jcb Tryz.func79
theorem Qm6{f:Frm}(h1:f.stack.length≤1048576)(h2:f.locals.length≤1048576):Ct Tryz.prog 79 [eFr f] [] (.agg [.lst true 3 (f.stack.map eT),.lst true 3 (f.locals.map eT)]) []:=by
 refine jbS Tryz.func79 10 fun X hX=> ?_
 refine jq [1,2] ?_
 refine jT 5 (Q20 [0,1,3,4] (.alt 2 .tail .stop)) [2] [0] hX (jTp [0,1,3,4] _ (by simp;try rfl) (jTa 2 (p:=fun X hX=>(jc [] (c:=(by apply Q3o<;>exact Z0)) (a:=Q3p) (k:=jf))) (k:=.tail) (kr:=.stop))) (jc [] (c:=(by apply Q3o<;>exact Z0)) (a:=Q3p) (k:=jr)) ?_
 refine Q4 (je0 ?_)
 rfl
end Go.Proofs
namespace Go.Proofs
open Go Go.Ev
theorem Q119{l:List Cls}{es:List (Str×Int)}{i:Nat}(h:i<l.length):
  plc es i (l.drop i)=plc (if (Q3i es l[i].name).isSome then es else es++[(l[i].name,(i:Int))]) (i+1) (l.drop (i+1)):=by
 rw[List.drop_eq_getElem_cons h];rfl
abbrev wob (l:List Cls) (bm:Nat):Ob:=some (2,[.agg [.lst false 6 (l.map eC),.raw (.map (some bm))]])
abbrev wst (l:List Cls) (bm:Nat) (a:Nat×List (Str×Int)):St:=⟨sp 40 [(3,.ptr 0 0 0),(12,.lst false 6 (l.map eC)),(13,.int .i64 l.length),(14,.int .i64 a.1)],[wob l bm]⟩
theorem Qpz:Q6 Tryz.prog 126:=jcb Tryz.func126
set_option maxHeartbeats 2000000 in
set_option maxRecDepth 100000 in
theorem Qpo{l:List Cls}(hl:l.length≤1099511627776):Ct Tryz.prog 126 [.lst false 6 (l.map eC)] [] (wv l) []:=by
 refine jbS Tryz.func126 40 fun X hX=> ?_
 refine Q0 [0] (Q8.run tok hX Z8) ?_
 refine Q21 (Le.of_eq Z8) ?_
 refine Q146 (Q10m (F:=Qdc l) (x:= .lst false 6 (l.map eC)) (t2:=2) (Qj:=fun bm e s es=>e= .ret∧s=⟨sp 40 [(2,.ptr 0 0 0)],[wob l bm]⟩∧es=Qdc l) hX Z17
  (by intro X hX;exact Qqu tok hX Z8) Z17 Z8 Z17 Z17 Z17 Z17 (by simp[V.fz]) Z17 ?_ ?_) ?_
 ·intro X1 bm hX1
  refine Q12v fun X' hX' hmk=> ?_
  refine Qx2 [3,0] (Q8.run tok hX' Z8) ⟨rfl,?_⟩
  refine Qfd ?_
  refine Qfd ?_
  refine Q8j fun X' hX' hmk=> ?_
  refine Ql0 [3,12,13,14] (Q8.run tok hX' Z8) ?_
  simp only[Qcm]
  refine Qx4 ?_
  refine Q14c (α:=Nat×List (Str×Int)) (wst l bm) (fun a=>a.2) (fun a=>a.1≤l.length∧plc a.2 a.1 (l.drop a.1)=Qdc l) (fun a=>l.length-a.1) (0,[]) Z3 rfl ⟨by simp,rfl⟩ ?_
  rintro ⟨i,es⟩ ⟨hi,hI⟩
  simp only at hi hI
  refine Qfd ?_
  refine Q8j fun X' hX' hmk=> ?_
  refine Ql0 [3,12,13,14,15] (Q8.run tok hX' Z8) ?_
  simp only[Qcm]
  refine Qfd ?_
  refine Qze Z8 (fun h=> ?_) (fun h=> ?_)
  ·simp at h
   refine Q8j fun X' hX' hmk=>Q3 ?_
   simp only[Qcm]
   refine Qfd ?_
   refine Qx4 ?_
   refine Qfd ?_
   refine Q8j fun X' hX' hmk=> ?_
   refine Ql0 [3,12,13,14,4,5] (Q8.run tok hX' (by simp[h];rfl)) ?_
   simp only[Qcm]
   refine Qfd ?_
   refine Q8j fun X' hX' hmk=> ?_
   refine Q12s [3,12,13,14,4,5,7] hmo (by kernel_rfl) (Q17.step (n0:=0) 6 tok Z8 (Q17.lookR tok hmk Z17 Z17 Z17 Z17 Z17 Z17 Z17 Z17 Z3 Z8 (Q17.run (n0:=0) tok Z8))) ?_
   simp only[Qcm]
   refine Qfd ?_
   refine Q8j fun X' hX' hmk=> ?_
   refine Ql0 [3,12,13,14,4,5,30] (Q8.run tok hX' Z8) ?_
   simp only[Qcm]
   have hnx:=Q119 (es:=es) h
   have hw:IntKind.i64.wrap ((i:Int)+1)=((i+1:Nat):Int):=by rw[Q7 Za Za];simp
   refine Qze Z8 (fun h2=> ?_) (fun h2=> ?_)
   ·have hn:Q3i es l[i].name=none:=by simpa using h2
    refine Q10n (s:=l[i].name) (i:=(i:Int)) 7 tok hmo (by kernel_rfl) (Quf.run (n0:=0) tok Z8) Z17 Z17 Z17 Z17 Z17 Z17 Z17 Z17 Z3 Z3 Z3 hn ?_
    simp only[Qsj,Qcm]
    refine Qx3 1 (by rw[hX1];omega) Z3 Z8 ?_
    refine Q8j fun X' hX' hmk=> ?_
    refine Ql0 [3,12,13,14] (Q8.run tok hX' Z8) ?_
    simp only[Qcm]
    refine ⟨(i+1,es++[(l[i].name,(i:Int))]),by simp[hw],rfl,⟨by simp;omega,?_⟩,by simp;omega⟩
    rw[hnx,hn] at hI
    exact hI
   ·have hn:(Q3i es l[i].name).isSome=true:=by simpa using h2
    refine Q8j fun X' hX' hmk=>Q3 ?_
    simp only[Qsj,Qcm]
    refine Qx3 1 (by rw[hX1];omega) Z3 Z8 ?_
    refine Q8j fun X' hX' hmk=> ?_
    refine Ql0 [3,12,13,14] (Q8.run tok hX' Z8) ?_
    simp only[Qcm]
    refine ⟨(i+1,es),by simp[hw],rfl,⟨by simp;omega,?_⟩,by simp;omega⟩
    rw[hnx,if_pos hn] at hI
    exact hI
  ·simp at h
   refine Q8j fun X' hX' hmk=>Qr ?_
   simp only[Qcm,Qsj]
   rw[if_pos trivial]
   rw[List.drop_eq_nil_of_le h] at hI
   simp only[plc] at hI
   subst hI
   refine Qfd ?_
   refine Q8j fun X' hX' hmk=> ?_
   refine Ql0 [2] (Q8.run tok hX' Z8) ?_
   simp only[Qcm]
   exact Q8j fun X' hX' hmk=>Q4 ⟨rfl,by simp,rfl⟩
 ·rintro bm e s es ⟨rfl,rfl,rfl⟩
  exact ⟨.inl rfl,rfl,by simp,by simp[Q5g],rfl⟩
 ·rintro e s ⟨he,rfl⟩
  rcases he with rfl|rfl
  ·exact Q1z Z8 (.of_eq Z17) rfl
  ·exact Qvl Z8 (.of_eq Z17) rfl
end Go.Proofs
namespace Go.Proofs
open Go Go.Ev
theorem Q23:Q6 Tryz.prog 230:=jcb Tryz.func230
theorem Q7k{t:Str}:Ct Tryz.prog 230 [.str t] [] (.int .i64 t.length) []:=by
 refine jbS Tryz.func230 5 fun X hX=> ?_
 refine jq [0] ?_
 refine jq [2] ?_
 refine Q4 (je0 ?_)
 simp
end Go.Proofs
namespace Go.Proofs
open Go Go.Ev
theorem Qmm:Q6 Tryz.prog 293:=jcb Tryz.func293
theorem Qm3{t:Str}{p:Nat}{b:Bool}{n:Int}(ht:t.length≤1099511627776)(hp:p≤t.length)(hn0:0≤n)(hn1:n<256):Ct Tryz.prog 293 [.ptr 0 0 0,.int .u8 n] [rdr t p b] (.bool (hit t p b n.toNat)) [rdr t p b]:=by
 obtain ⟨m,rfl⟩: ∃m:Nat,n=m:=⟨n.toNat,by omega⟩
 refine jbS Tryz.func293 35 fun X hX=> ?_
 refine jq [0,1] ?_
 refine jD [4] (jS 6 Z8 (jM 11 10 [0,1,21] (p:=by intro b;(try simp at b);exact (jS 8 Z1 (jC (c:=by apply Q7k<;>exact Z4) (a:=Q23) (k:=(jQ Z1))))) (q:=Z2e) (k:=(jS 1 Z8 (jM 12 22 [34] (p:=fun b1_18=>by (try simp at b1_18);exact (jQ (by simp[-Qc,-Qb,b1_18];rfl))) (q:=fun b1_18=>by (try simp at b1_18);exact (jQ Z1)) (k:=(jQ Z8))))))) ?_
 refine Q4 (je0 ?_)
 rcases Nat.lt_or_ge p t.length with h|h
 ·(simp[hit,Q3a h,h])<;>grind
 ·(simp[hit,Q6o h])<;>omega
end Go.Proofs
namespace Go.Proofs
open Go Go.Ev
theorem Q32:Q6 Tryz.prog 228:=jcb Tryz.func228
theorem Q31{t:Str}{p:Nat}{b:Bool}{n:Int}(ht:t.length≤1099511627776)(hp:p≤t.length)(hn0:0≤n)(hn1:n<256):Ct Tryz.prog 228 [.ptr 0 0 0,.int .u8 n] [rdr t p b] (.bool (hit t p b n.toNat)) [rdr t (adv (hit t p b n.toNat) p) b]:=by
 refine jbS Tryz.func228 16 fun X hX=> ?_
 refine jq [0,1] ?_
 refine Q5 (Q0 [0,8] (jt 2 (k:=(jc [0] (c:=(by apply Qm3<;>exact Z4)) (a:=Qmm) (k:=jr)))) ?_)
 refine jd (fun h1=> ?_) (fun h1=> ?_)
 ·try simp at h1
  refine jq [4] ?_
  refine Q4 (Qq Z8 Z17 (.of_eq ?_) ?_)
  all_goals clear hX
  ·skip
   simp_all
  ·skip
   simp_all
 ·try simp at h1
  refine Q3 (Q0 [] (jh hX Z6) ?_)
  refine jq [4] ?_
  refine Q4 (Qq Z8 Z17 (.of_eq ?_) ?_)
  all_goals clear hX
  ·skip
   simp_all
  ·skip
   simp_all
end Go.Proofs
namespace Go.Proofs
open Go Go.Ev
theorem Qbd:Q6 Tryz.prog 227:=jcb Tryz.func227
theorem Qbb{t:Str}{p:Nat}{b:Bool}{n:Int}(ht:t.length≤1099511627776)(hp:p≤t.length)(hn0:0≤n)(hn1:n<256):Ct Tryz.prog 227 [.ptr 0 0 0,.int .u8 n] [rdr t p b] (.tup []) [rdr t (adv (hit t p b n.toNat) p) (b|| !hit t p b n.toNat)]:=by
 refine jbS Tryz.func227 11 fun X hX=> ?_
 refine Q0 [0,7] (jt 2 (k:=(jc [0] (c:=(by apply Q31<;>exact Z4)) (a:=Q32) (k:=jr)))) ?_
 refine jd (fun h0=> ?_) (fun h0=> ?_)
 ·try simp at h0
  refine Qd jr ?_
  refine Ql Z8 Z17 (.of_eq ?_) ?_
  all_goals clear hX
  ·skip
   rfl
  ·skip
   simp_all
 ·try simp at h0
  refine Q3 (Ql Z8 Z17 (.of_eq ?_) ?_)
  all_goals clear hX
  ·skip
   rfl
  ·skip
   simp_all
end Go.Proofs
namespace Go.Proofs
open Go Go.Ev
theorem Q94:Q6 Tryz.prog 330:=jcb Tryz.func330
theorem Q91{t:Str}{c:UInt8}:Ct Tryz.prog 330 [.str t,.int .u8 c.toNat] [] (.int .i64 (ixL c t)) []:=by
 refine jbS Tryz.func330 8 fun X hX=> ?_
 refine jq [0,1] ?_
 refine Q0 [4] (jt 2 (k:=(Q8.extIB rfl Z3 Z8 Z8 Q15b Z8 jr))) ?_
 refine Q4 (je0 ?_)
 simp
end Go.Proofs
namespace Go.Proofs
open Go Go.Ev
theorem Qho:Q6 Tryz.prog 324:=jcb Tryz.func324
theorem Qh8{t:Str}{c:UInt8}:Ct Tryz.prog 324 [.str t,.int .u8 c.toNat] [] (.int .i64 (ixL c t)) []:=by
 refine jbS Tryz.func324 8 fun X hX=> ?_
 refine jq [0,1] ?_
 refine Q0 [4] (jt 2 (k:=(jc [] (c:=(by apply Q91<;>exact Z4)) (a:=Q94) (k:=jr)))) ?_
 refine Q4 (je0 ?_)
 simp
end Go.Proofs
namespace Go.Proofs
open Go Go.Ev
theorem Qce:Q6 Tryz.prog 307:=jcb Tryz.func307
theorem Qc8{c:UInt8}{n:Int}:Ct Tryz.prog 307 [.int .u8 c.toNat,.int .i64 n] [] (.bool (Q4w c (decide (n≤0)))) []:=by
 obtain ⟨k1,k2⟩:=Qr0 c
 rw[show Qdv=[48,49,50,51,52,53,54,55,56,57,97,98,99,100,101,102,103,104,105,106,107,108,109,110,111,112,113,114,115,116,117,118,119,120,121,122,65,66,67,68,69,70,71,72,73,74,75,76,77,78,79,80,81,82,83,84,85,86,87,88,89,90,36] from rfl] at k1 k2
 refine jbS Tryz.func307 18 fun X hX=> ?_
 refine jq [0,1] ?_
 refine Q0 [1,5] (jt 1 (k:=(jc [] (c:=(by apply Qh8<;>exact Z4)) (a:=Qho) (k:=jr)))) ?_
 refine Q0 [4] (jt 3 (k:=(jm 7 10 [17] (p:=Z1p) (q:=by intro b;(try simp at b);exact (js hX 3 Z1 (jm 3 13 [10,16] (p:=Z1p) (q:=Z1p) (k:=(jh hX Z1))))) (k:=jr)))) ?_
 refine Q4 (je0 ?_)
 by_cases hn:n≤0
 ·rw[decide_eq_true hn,←k1];simp;omega
 ·have hp:0<n:=by omega
  rw[decide_eq_false hn,←k2];simp[hp];grind
end Go.Proofs
