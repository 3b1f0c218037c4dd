/- Part 12 of what the proofs lean on: what the functions of the program and of the reference compute. Conditions: none. -/
import Derived.Test.YtkjgmpccmpmmiaaGreatK10
import Derived.Test.YtkjgmpccmpmmiaaGreatRows
set_option linter.all false
set_option linter.unusedVariables false
set_option linter.unusedSimpArgs false
set_option maxHeartbeats 2000000
set_option maxRecDepth 100000
namespace Go.Proofs
open Go Go.Ev
theorem Qob:Q6 Tryz.prog 116:=jcb Tryz.func116
theorem Qnp{F:SF}{st lo tk:List Typ}(hs:st.length≤1000)(hs2:lo.length≤1000)(ht:tk.length≤1000)(hl:F.l.length≤1048576)(h9:Qs F.l=true)(hz:Q1w F.l≤1048576)(hd:F.i.desc.length≤1099511627776)(hmd:F.m.desc.length≤1099511627776)(hc:F.i.cls.length≤1099511627776)(hia:F.i.op=3∨F.i.op=4→0≤F.i.a)(hds:F.i.op=36∨F.i.op=37∨F.i.op=38→Q45 F.i.desc=(Qy F.i.desc).params.length)(hop:1≤F.i.op∧F.i.op≤44)(kt:(tk.length:Int)=Q2a F.i):Ct Tryz.prog 116 [.ptr 0 0 0,eI F.i] [some (20,[oFl F st lo tk])] (.int .i64 (Q36 F st lo tk).k) [some (20,[oFl F ((Q36 F st lo tk).st) ((Q36 F st lo tk).lo) tk])]:=by
 have hl4:=Q66 h9
 refine jbS Tryz.func116 116 fun X hX=> ?_
 refine jq [0,3] ?_
 refine Q4 (Q7 (Q0 [0,3,5] (jt 4 (k:=(jm 9 9 [0,3,18] (p:=fun b1_4=>by (try simp at b1_4);exact (js hX 4 Z69 (jm 4 13 [0,3,9,17] (p:=fun b1_8=>by (try simp at b1_8);exact (jh hX (by simp[-Qr,-Qa,b1_4,b1_8];rfl))) (q:=fun b1_8=>by (try simp at b1_8);exact (jh hX (by simp[-Qr,-Qa,b1_4,b1_8];rfl))) (k:=(jh hX Z69))))) (q:=fun b1_4=>by (try simp at b1_4);exact (jh hX Z69)) (k:=jr)))) ?_))
 refine jd (fun h1=> ?_) (fun h1=> ?_)
 ·try simp at h1
  refine Q0 [4] (js hX 2 Zs (jc [0] (c:=(by apply Qk0<;>exact Zf)) (a:=Qkd) (k:=(jh hX Zs)))) ?_
  refine Q5 (Qp Zs Z15 (.of_eq ?_) ?_)
  all_goals clear hX
  ·first|(simp_all[Q36,cu];done)|(simp only[Q36];(repeat first|rw[if_pos Zb]|rw[if_neg Zb]);first|done|(simp_all[cu];done)|(simp;done)|rfl)
  ·first|(simp_all[Q36,cu];done)|(simp only[Q36];(repeat first|rw[if_pos Zb]|rw[if_neg Zb]);first|done|(simp_all[cu];done)|(simp;done)|rfl)
 ·try simp at h1
  refine Q0 [0,3,22] (js hX 2 Zs (jc [] (c:=Z18) (a:=Q2h) (k:=(jh hX Zs)))) ?_
  refine jd (fun h3=> ?_) (fun h3=> ?_)
  ·try simp at h3
   refine Q4 (Q0 [0,31] (js hX 4 Zs (jc [] (c:=Z2f) (a:=Q4o) (k:=(jh hX Zs)))) ?_)
   refine jd (fun h4=> ?_) (fun h4=> ?_)
   ·try simp at h4
    refine Q0 [4] (jh hX Zs) ?_
    refine Q5 (Qp Zs Z15 (.of_eq ?_) ?_)
    all_goals clear hX
    ·first|(simp_all[Q36,cu];done)|(simp only[Q36];(repeat first|rw[if_pos Zb]|rw[if_neg Zb]);first|done|(simp_all[cu];done)|(simp;done)|rfl)
    ·first|(simp_all[Q36,cu];done)|(simp only[Q36];(repeat first|rw[if_pos Zb]|rw[if_neg Zb]);first|done|(simp_all[cu];done)|(simp;done)|rfl)
   ·try simp at h4
    refine Q3 (Q0 [4] (js hX 1 Zs (jc [] (c:=(by apply Q9k<;>exact Zf)) (a:=Q38) (k:=(jFz (k:=(jc [0] (c:=Z33) (a:=Q1k) (k:=(jh hX Zs)))))))) ?_)
    refine Q5 (Qp Zs Z15 (.of_eq ?_) ?_)
    all_goals clear hX
    ·first|(simp_all[Q36,cu];done)|(simp only[Q36];(repeat first|rw[if_pos Zb]|rw[if_neg Zb]);first|done|(simp_all[cu];done)|(simp;done)|rfl)
    ·first|(simp_all[Q36,cu];done)|(simp only[Q36];(repeat first|rw[if_pos Zb]|rw[if_neg Zb]);first|done|(simp_all[cu];done)|(simp;done)|rfl)
  ·try simp at h3
   refine Q0 [0,3,36] (js hX 2 Zs (jc [] (c:=Z18) (a:=Q2h) (k:=(jh hX Zs)))) ?_
   refine jd (fun h7=> ?_) (fun h7=> ?_)
   ·try simp at h7
    refine Q0 [4] (js hX 4 Zs (jc [] (c:=Z2f) (a:=Q4o) (k:=(jc [] (c:=Z2d) (a:=Q1d) (k:=(jh hX Zs)))))) ?_
    refine Q5 (Qp Zs Z15 (.of_eq ?_) ?_)
    all_goals clear hX
    ·skip
     rw[show Q36 F st lo tk=⟨cu (Q2v tk) 10,st,lo⟩ from by (simp only[Q36];(repeat first|rw[if_pos Zb]|rw[if_neg Zb]))]
     first|done|rfl|simp[cu]
    ·first|(simp_all[Q36,cu];done)|(simp only[Q36];(repeat first|rw[if_pos Zb]|rw[if_neg Zb]);first|done|(simp_all[cu];done)|(simp;done)|rfl)
   ·try simp at h7
    refine Q0 [0,3,46] (js hX 4 Zs (jm 4 50 [0,3,54] (p:=Zcw) (q:=Zcw) (k:=(jh hX Zs)))) ?_
    refine jd (fun h9=> ?_) (fun h9=> ?_)
    ·try simp at h9
     refine Q0 [4] (js hX 4 Zs (jc [] (c:=(by apply Qb9<;>exact Zf)) (a:=Qbg) (k:=(jc [] (c:=Z2d) (a:=Q1d) (k:=(jh hX Zs)))))) ?_
     refine Q5 (Qp Zs Z15 (.of_eq ?_) ?_)
     all_goals clear hX
     ·skip
      rw[show Q36 F st lo tk=⟨cu (Qee tk) 10,st,lo⟩ from by (simp only[Q36];(repeat first|rw[if_pos Zb]|rw[if_neg Zb]))]
      first|done|rfl|simp[cu]
     ·first|(simp_all[Q36,cu];done)|(simp only[Q36];(repeat first|rw[if_pos Zb]|rw[if_neg Zb]);first|done|(simp_all[cu];done)|(simp;done)|rfl)
    ·try simp at h9
     refine Q0 [0,3,61] (js hX 2 Zs (jc [] (c:=Z18) (a:=Q2h) (k:=(jh hX Zs)))) ?_
     refine jd (fun h11=> ?_) (fun h11=> ?_)
     ·try simp at h11
      refine Q0 [4] (js hX 2 Zs (jB (c:=(by apply Qnq<;>first|assumption|omega|(intro e;rcases (by omega:F.i.op=27∨F.i.op=28∨F.i.op=29) with e|e|e<;>(have k2:=kt;simp[Q2a,tk1,tk2,e] at k2;omega)))) (a:=Qoc) (k:=(jh hX Zs)))) ?_
      refine Q5 (Qp Zs Z15 (.of_eq ?_) ?_)
      all_goals clear hX
      ·first|(simp_all[Q36,cu];done)|(simp only[Q36];(repeat first|rw[if_pos Zb]|rw[if_neg Zb]);first|done|(simp_all[cu];done)|(simp;done)|rfl)
      ·first|(simp_all[Q36,cu];done)|(simp only[Q36];(repeat first|rw[if_pos Zb]|rw[if_neg Zb]);first|done|(simp_all[cu];done)|(simp;done)|rfl)
     ·try simp at h11
      refine Q0 [0,3,68] (jh hX Zs) ?_
      refine jd (fun h13=> ?_) (fun h13=> ?_)
      ·try simp at h13
       refine Q0 [4] (js hX 2 Zs (jc [0] (c:=(by apply Qk1<;>exact Zf)) (a:=Qke) (k:=(jh hX Zs)))) ?_
       refine Q5 (Qp Zs Z15 (.of_eq ?_) ?_)
       all_goals clear hX
       ·first|(simp_all[Q36,cu];done)|(simp only[Q36];(repeat first|rw[if_pos Zb]|rw[if_neg Zb]);first|done|(simp_all[cu];done)|(simp;done)|rfl)
       ·first|(simp_all[Q36,cu];done)|(simp only[Q36];(repeat first|rw[if_pos Zb]|rw[if_neg Zb]);first|done|(simp_all[cu];done)|(simp;done)|rfl)
      ·try simp at h13
       refine Q0 [0,3,75] (js hX 2 Zs (jc [] (c:=Z18) (a:=Q2h) (k:=(jh hX Zs)))) ?_
       refine jd (fun h15=> ?_) (fun h15=> ?_)
       ·try simp at h15
        refine Q0 [4] (js hX 2 Zs (jc [0] (c:=(by apply Qk3<;>exact Zf)) (a:=Qkg) (k:=(jh hX Zs)))) ?_
        refine Q5 (Qp Zs Z15 (.of_eq ?_) ?_)
        all_goals clear hX
        ·first|(simp_all[Q36,cu];done)|(simp only[Q36];(repeat first|rw[if_pos Zb]|rw[if_neg Zb]);first|done|(simp_all[cu];done)|(simp;done)|rfl)
        ·first|(simp_all[Q36,cu];done)|(simp only[Q36];(repeat first|rw[if_pos Zb]|rw[if_neg Zb]);first|done|(simp_all[cu];done)|(simp;done)|rfl)
       ·try simp at h15
        refine Q0 [0,3,82] (jh hX Zs) ?_
        refine jd (fun h17=> ?_) (fun h17=> ?_)
        ·try simp at h17
         refine Q0 [4] (js hX 2 Zs (jc [0] (c:=(by apply Qh9<;>first|assumption|omega|(have k2:=kt;have d:=hds Zb;simp[Q2a,tk1,tk2,h17] at k2;omega))) (a:=Qho) (k:=(jh hX Zs)))) ?_
         refine Q5 (Qp Zs Z15 (.of_eq ?_) ?_)
         all_goals clear hX
         ·first|(simp_all[Q36,cu];done)|(simp only[Q36];(repeat first|rw[if_pos Zb]|rw[if_neg Zb]);first|done|(simp_all[cu];done)|(simp;done)|rfl)
         ·first|(simp_all[Q36,cu];done)|(simp only[Q36];(repeat first|rw[if_pos Zb]|rw[if_neg Zb]);first|done|(simp_all[cu];done)|(simp;done)|rfl)
        ·try simp at h17
         refine Q0 [0,3,89] (js hX 4 Zs (jm 4 93 [0,3,97] (p:=Zcw) (q:=Zcw) (k:=(jh hX Zs)))) ?_
         refine jd (fun h19=> ?_) (fun h19=> ?_)
         ·try simp at h19
          refine Q0 [4] (js hX 2 Zs (jc [0] (c:=(by apply Qlt<;>first|assumption|omega|(have k2:=kt;have d:=hds Zb;rcases h19 with e|e<;>(simp[Q2a,tk1,tk2,e] at k2;simp[e];omega)))) (a:=Qmf) (k:=(jh hX Zs)))) ?_
          refine Q5 (Qp Zs Z15 (.of_eq ?_) ?_)
          all_goals clear hX
          ·first|(simp_all[Q36,cu];done)|(simp only[Q36];(repeat first|rw[if_pos Zb]|rw[if_neg Zb]);first|done|(simp_all[cu];done)|(simp;done)|rfl)
          ·first|(simp_all[Q36,cu];done)|(simp only[Q36];(repeat first|rw[if_pos Zb]|rw[if_neg Zb]);first|done|(simp_all[cu];done)|(simp;done)|rfl)
         ·try simp at h19
          refine Q0 [0,3,101] (js hX 4 Zs (jm 4 105 [0,3,109] (p:=Zcw) (q:=Zcw) (k:=(jh hX Zs)))) ?_
          refine jd (fun h21=> ?_) (fun h21=> ?_)
          ·try simp at h21
           refine Q0 [4] (js hX 2 Zs (jc [0] (c:=(by apply Qls<;>exact Zf)) (a:=Qme) (k:=(jh hX Zs)))) ?_
           refine Q5 (Qp Zs Z15 (.of_eq ?_) ?_)
           all_goals clear hX
           ·first|(simp_all[Q36,cu];done)|(simp only[Q36];(repeat first|rw[if_pos Zb]|rw[if_neg Zb]);first|done|(simp_all[cu];done)|(simp;done)|rfl)
           ·first|(simp_all[Q36,cu];done)|(simp only[Q36];(repeat first|rw[if_pos Zb]|rw[if_neg Zb]);first|done|(simp_all[cu];done)|(simp;done)|rfl)
          ·try simp at h21
           refine Q3 (Q0 [4] (js hX 2 Zs (jc [0] (c:=(by apply Qk2<;>first|assumption|omega|(intro e;(have k2:=kt;simp[Q2a,tk1,tk2,e] at k2;omega))|(intro e;rcases e with e|e<;>(have k2:=kt;simp[Q2a,tk1,tk2,e] at k2;omega))|(rcases (by omega:F.i.op=41∨F.i.op=42∨F.i.op=43∨F.i.op=44) with e|e|e|e<;>(have k2:=kt;simp[Q2a,tk1,tk2,e] at k2;omega)))) (a:=Qkf) (k:=(jh hX Zs)))) ?_)
           refine Q5 (Qp Zs Z15 (.of_eq ?_) ?_)
           all_goals clear hX
           ·first|(simp_all[Q36,cu];done)|(simp only[Q36];(repeat first|rw[if_pos Zb]|rw[if_neg Zb]);first|done|(simp_all[cu];done)|(simp;done)|rfl)
           ·first|(simp_all[Q36,cu];done)|(simp only[Q36];(repeat first|rw[if_pos Zb]|rw[if_neg Zb]);first|done|(simp_all[cu];done)|(simp;done)|rfl)
theorem Qj3:Q6 Tryz.prog 59:=jcb Tryz.func59
theorem Qiu{F:SF}{st lo tk:List Typ}(hs:st.length≤100)(hs2:lo.length≤100)(ht:tk.length≤1000)(hl:F.l.length≤1048576)(h9:Qs F.l=true)(hz:Q1w F.l≤1048576)(hd:F.i.desc.length≤1099511627776)(hmd:F.m.desc.length≤1099511627776)(hc:F.i.cls.length≤1099511627776)(hia:F.i.op=3∨F.i.op=4→0≤F.i.a)(hds:F.i.op=36∨F.i.op=37∨F.i.op=38→Q45 F.i.desc=(Qy F.i.desc).params.length)(hop:1≤F.i.op∧F.i.op≤44)(hat:0≤F.at')(hlt:F.at'.toNat<F.m.code.length)(hfi:F.m.code[F.at'.toNat]=F.i)(htk:0≤Q2a F.i):Ct Tryz.prog 59 [.ptr 0 0 0] [some (20,[oFl F st lo tk])] (.int .i64 (Q4z F st lo).k) [some (20,[oFl F (Q4z F st lo).st (Q4z F st lo).lo (Qx9 F st tk)])]:=by
 have htk9:=Q140 F.i
 have wq:IntKind.i64.wrap ((st.length:Int)-Q2a F.i)=(st.length:Int)-Q2a F.i:=Qc Zb Zb
 have w5:st.length*32≤140737488355328:=by omega
 all_goals
  refine jbS Tryz.func59 69 fun X hX=> ?_
  refine Q0 [0] (jh hX Z2a) ?_
  refine jL 12 [0,1,2,3,4,5,6,7,8,9,10] [11] [0,3] ([0]) hX Z2a (jH (p:=fun X hX=>(jh hX Z2a)) (k:=.nil)) (jh hX Z2a) ?_
  refine Q15 (Le.expose 0 0 17 Z1g) ?_
  refine jT 7 (Q17 [0,1,2,3] (.alt 4 (.alt 5 (.alt 6 .tail .stop) (.alt 6 (.alt 5 .tail .stop) .stop)) (.alt 6 (.alt 4 (.alt 5 .tail .stop) .stop) .stop))) [0,3,4] [] hX (jTp [0,1,2,3] _ (by simp[wq,hat,hlt,hfi];try rfl) (jTa 4 (p:=fun X hX=>(jh hX Z72)) (k:=(jTa 5 (p:=fun X hX=>(Q8.callB rfl Z3 rfl Z2a Z1b Qz Z3 Z2a jf)) (k:=(jTa 6 (p:=fun X hX=>(jh hX Z72)) (k:=.tail) (kr:=.stop))) (kr:=(jTa 6 (p:=fun X hX=>(jh hX Z72)) (k:=(jTa 5 (p:=fun X hX=>(Q8.callB rfl Z3 rfl Z2a Z1b Qz Z3 Z2a jf)) (k:=.tail) (kr:=.stop))) (kr:=.stop))))) (kr:=(jTa 6 (p:=fun X hX=>(jh hX Z72)) (k:=(jTa 4 (p:=fun X hX=>(jh hX Z72)) (k:=(jTa 5 (p:=fun X hX=>(Q8.callB rfl Z3 rfl Z2a Z1b Qz Z3 Z2a jf)) (k:=.tail) (kr:=.stop))) (kr:=.stop))) (kr:=.stop))))) (Q8.call [] rfl Z3 rfl Z2a Z7 (by apply Qt5<;>exact Z0) Qtc Z3 Z3 Z2a (jh hX (by simp[wq,hat,hlt,hfi];(try (simp (disch:=omega) only[Qc];(try simp[wq,hat,hlt,hfi])));rfl))) ?_
  refine Q4 (Q0 [0,3,4,27] (jh hX Z72) ?_)
  refine jd (fun h3=> ?_) (fun h3=> ?_)
  ·try simp at h3
   refine Q15 (Le.absorb 0 0 17 Z7) ?_
   refine Q0 [2] (jh hX (by simp[wq,h3,hat,hlt,hfi];rfl)) ?_
   refine Q5 (Qp (by simp[wq,h3,hat,hlt,hfi];rfl) Z15 (.of_eq ?_) ?_)
   all_goals clear hX
   ·simp_all[Q4z,Qx9,cu]
   ·simp_all[Q4z,Qx9,cu]
  ·try simp at h3
   obtain ⟨q,hq⟩: ∃q:Nat,(st.length:Int)-Q2a F.i=(q:Int):=⟨((st.length:Int)-Q2a F.i).toNat,by omega⟩
   have hq1:q≤st.length:=by omega
   have d2:List.take st.length (st.map eT)=st.map eT:=List.take_of_length_le Z3
   obtain ⟨s1,hs1⟩: ∃s,s=st.take q:=⟨_,rfl⟩
   obtain ⟨t1,ht1⟩: ∃s,s=st.drop q:=⟨_,rfl⟩
   have hs1l:s1.length≤100:=by rw[hs1];simp;omega
   have ht1l:(t1.length:Int)=Q2a F.i:=by rw[ht1];simp;omega
   have ht1k:t1.length≤1000:=by omega
   have es:List.take q (st.map eT)=s1.map eT:=by rw[hs1,List.map_take]
   have et:List.drop q (st.map eT)=t1.map eT:=by rw[ht1,List.map_drop]
   refine Q3 (Q0 [0,3,4] (js hX 8 Z1y (Q8.callBF rfl Z3 rfl Z2a (by rw[if_pos Zb,List.take_of_length_le (show (List.drop q (List.map eT st)).length≤st.length-q by simp),←List.map_drop,Q6i eT (fun _=>rfl)];apply Q2z (l:=st.drop q)<;>exact Z0) Q20 Z3 Z2a (jh hX Z1y))) ?_)
   refine Q0 [0,3] (jh hX Z1y) ?_
   refine Q15 (Le.absorb 0 0 17 (by simp[hq,hq1,d2];rfl)) ?_
   refine Q15 (Le.of_eq (by simp only[es,et];rfl)) ?_
   refine Q4 (Q0 [0,5] (js hX 2 Z1y (Q8.call [0] rfl Z3 rfl Z2a Z7 (by apply Qnp (st:=s1) (lo:=lo) (tk:=t1)<;>exact Z1i) Qob Z3 Z3 Z2a (jh hX Z1y))) ?_)
   refine Q0 [0,5,54] (jh hX Z1y) ?_
   refine jd (fun h8=> ?_) (fun h8=> ?_)
   ·try simp at h8
    refine Q0 [2] (jh hX Z1y) ?_
    refine Q5 (Qp Z1y Z15 (.of_eq ?_) ?_)
    all_goals clear hX
    ·simp_all[Q4z,Qx9,cu]
    ·simp_all[Q4z,Qx9,cu]
   ·try simp at h8
    refine Q15 (Le.expose 0 0 17 Z1g) ?_
    refine Q3 (jT 11 (Q17 [0,1,2,3,6,7,8,9] (.alt 4 (.alt 5 (.alt 10 .tail .stop) (.alt 10 (.alt 5 .tail .stop) .stop)) (.alt 10 (.alt 4 (.alt 5 .tail .stop) .stop) .stop))) [2] [] hX (jTp [0,1,2,3,6,7,8,9] _ (by simp[wq,h3,hq,hq1,d2,hat,hlt,hfi];try rfl) (jTa 4 (p:=fun X hX=>(jh hX Z1y)) (k:=(jTa 5 (p:=fun X hX=>(Q8.callB rfl Z3 rfl Z2a Z1b Qz Z3 Z2a jf)) (k:=(jTa 10 (p:=fun X hX=>(jh hX Z1y)) (k:=.tail) (kr:=.stop))) (kr:=(jTa 10 (p:=fun X hX=>(jh hX Z1y)) (k:=(jTa 5 (p:=fun X hX=>(Q8.callB rfl Z3 rfl Z2a Z1b Qz Z3 Z2a jf)) (k:=.tail) (kr:=.stop))) (kr:=.stop))))) (kr:=(jTa 10 (p:=fun X hX=>(jh hX Z1y)) (k:=(jTa 4 (p:=fun X hX=>(jh hX Z1y)) (k:=(jTa 5 (p:=fun X hX=>(Q8.callB rfl Z3 rfl Z2a Z1b Qz Z3 Z2a jf)) (k:=.tail) (kr:=.stop))) (kr:=.stop))) (kr:=.stop))))) (Q8.weak (js hX 1 Z1y (Q8.call [] rfl Z3 rfl Z2a Z7 Z1k Q1d Z3 Z3 Z2a (jh hX Z1y))) (Le.absorb 0 0 17 Z7)) ?_)
    refine Q5 (Qp Z1y Z15 (.of_eq ?_) ?_)
    all_goals clear hX
    ·simp_all[Q4z,Qx9,cu]
    ·simp_all[Q4z,Qx9,cu]
theorem Q7s:Q6 Tryz.prog 147:=jcb Tryz.func147
theorem Q9t{ns:List Int}{fs:List Frm}{g:Frm}{n:Int}(hn:ns.length≤1000000)(hf:fs.length≤1000000)(h1:g.stack.length≤1048576)(h2:g.locals.length≤1048576):Ct Tryz.prog 147 [.int .i64 n,.agg [.arr 1 0 g.stack.length,.arr 2 0 g.locals.length],.ptr 0 0 0] [some (3,[.agg [.lst true 1 (ns.map iV),.lst true 2 (fs.map oFr),.int .i64 0]]),some (3,g.stack.map eT),some (3,g.locals.map eT)] (.tup []) [some (3,[.agg [.lst true 1 ((ns++[n]).map iV),.lst true 2 ((fs++[g]).map oFr),.int .i64 0]]),some (3,g.stack.map eT),some (3,g.locals.map eT)]:=by
 obtain ⟨Y,hY⟩: ∃Y,Y=fs.map oFr:=⟨_,rfl⟩
 rw[←hY]
 obtain ⟨N,hN⟩: ∃N,N=fs.length:=⟨_,rfl⟩
 have hYl:Y.length=N:=by rw[hY,hN];simp
 have hYt:Y.take N=Y:=List.take_of_length_le Zb
 have hYj: ∀p,jkL p Y=Y:=fun p=>by rw[hY];exact jkL_oFr p _
 have m1:=fun x=>midG hYl x []
 have m2:=fun x y=>midS hYl x y []
 have m3:=fun p x=>Qy7 (p:=p) (x:=x) (Y:=Y) (Z:=[]) (hYj p) rfl
 have hYu: ∀x,(Y++[x]).take (N+1)=Y++[x]:=fun x=>List.take_of_length_le Z3l
 have hYp:pureL Y=true:=by rw[hY];simp
 have w0:(N+1)*48≤140737488355328:=by omega
 have w2:N≤1099511627775:=by omega
 have w3:(ns.length+1)*8≤140737488355328:=by omega
 have w4:ns.length≤1099511627775:=by omega
 refine jbS Tryz.func147 18 fun X hX=> ?_
 refine Q0 [0,2,4] (jh hX Z4) ?_
 refine Q15 (Le.expose 0 0 0 Z1g) ?_
 refine Q15 (Le.expose 0 0 1 Z1g) ?_
 refine jPr 12 (Q17 [0,2,5,7] (.alt 1 (.alt 3 (.alt 4 (.alt 6 (Q17 [11] (.alt 8 (.alt 9 (.alt 10 .tail .stop) .stop) .stop)) (.alt 8 (.alt 6 (Q17 [11] (.alt 9 (.alt 10 .tail .stop) .stop)) (.alt 9 (.alt 6 (Q17 [11] (.alt 10 .tail .stop)) .stop) .stop)) .stop)) (.alt 6 (.alt 4 (Q17 [11] (.alt 8 (.alt 9 (.alt 10 .tail .stop) .stop) .stop)) .stop) .stop)) (.alt 6 (.alt 3 (.alt 4 (Q17 [11] (.alt 8 (.alt 9 (.alt 10 .tail .stop) .stop) .stop)) .stop) .stop) .stop)) (.alt 3 (.alt 1 (.alt 4 (.alt 6 (Q17 [11] (.alt 8 (.alt 9 (.alt 10 .tail .stop) .stop) .stop)) (.alt 8 (.alt 6 (Q17 [11] (.alt 9 (.alt 10 .tail .stop) .stop)) (.alt 9 (.alt 6 (Q17 [11] (.alt 10 .tail .stop)) .stop) .stop)) .stop)) (.alt 6 (.alt 4 (Q17 [11] (.alt 8 (.alt 9 (.alt 10 .tail .stop) .stop) .stop)) .stop) .stop)) (.alt 6 (.alt 1 (.alt 4 (Q17 [11] (.alt 8 (.alt 9 (.alt 10 .tail .stop) .stop) .stop)) .stop) .stop) .stop)) (.alt 6 (.alt 1 (.alt 3 (.alt 4 (Q17 [11] (.alt 8 (.alt 9 (.alt 10 .tail .stop) .stop) .stop)) .stop) .stop) (.alt 3 (.alt 1 (.alt 4 (Q17 [11] (.alt 8 (.alt 9 (.alt 10 .tail .stop) .stop) .stop)) .stop) .stop) .stop)) .stop)))) [3] hX (jPp [0,2,5,7] _ Zr (jPa 1 4 (p:=fun X hX=>(jh hX Z4)) (k:=(jPa 3 4 (p:=fun X hX=>(jFz (k:=jf))) (k:=(jPa 4 4 (p:=fun X hX=>(jh hX Z4)) (k:=(jPa 6 4 (p:=fun X hX=>(jh hX Z4)) (k:=(jPp [11] _ Zr (jPa 8 4 (p:=fun X hX=>(Q8.callB rfl Z3 rfl Z4 Zp Qx Z3 Z4 jf)) (k:=(jPa 9 4 (p:=fun X hX=>(jh hX Z4)) (k:=(jPa 10 4 (p:=fun X hX=>(jh hX Z4)) (k:=.tail) (kr:=.stop))) (kr:=.stop))) (kr:=.stop)))) (kr:=(jPa 8 4 (p:=fun X hX=>(Q8.callB rfl Z3 rfl Z4 Zp Qx Z3 Z4 jf)) (k:=(jPa 6 4 (p:=fun X hX=>(jh hX Z4)) (k:=(jPp [11] _ Zr (jPa 9 4 (p:=fun X hX=>(jh hX Z4)) (k:=(jPa 10 4 (p:=fun X hX=>(jh hX Z4)) (k:=.tail) (kr:=.stop))) (kr:=.stop)))) (kr:=(jPa 9 4 (p:=fun X hX=>(jh hX Z4)) (k:=(jPa 6 4 (p:=fun X hX=>(jh hX Z4)) (k:=(jPp [11] _ Zr (jPa 10 4 (p:=fun X hX=>(jh hX Z4)) (k:=.tail) (kr:=.stop)))) (kr:=.stop))) (kr:=.stop))))) (kr:=.stop))))) (kr:=(jPa 6 4 (p:=fun X hX=>(jh hX Z4)) (k:=(jPa 4 4 (p:=fun X hX=>(jh hX Z4)) (k:=(jPp [11] _ Zr (jPa 8 4 (p:=fun X hX=>(Q8.callB rfl Z3 rfl Z4 Zp Qx Z3 Z4 jf)) (k:=(jPa 9 4 (p:=fun X hX=>(jh hX Z4)) (k:=(jPa 10 4 (p:=fun X hX=>(jh hX Z4)) (k:=.tail) (kr:=.stop))) (kr:=.stop))) (kr:=.stop)))) (kr:=.stop))) (kr:=.stop))))) (kr:=(jPa 6 4 (p:=fun X hX=>(jh hX Z4)) (k:=(jPa 3 4 (p:=fun X hX=>(jFz (k:=jf))) (k:=(jPa 4 4 (p:=fun X hX=>(jh hX Z4)) (k:=(jPp [11] _ Zr (jPa 8 4 (p:=fun X hX=>(Q8.callB rfl Z3 rfl Z4 Zp Qx Z3 Z4 jf)) (k:=(jPa 9 4 (p:=fun X hX=>(jh hX Z4)) (k:=(jPa 10 4 (p:=fun X hX=>(jh hX Z4)) (k:=.tail) (kr:=.stop))) (kr:=.stop))) (kr:=.stop)))) (kr:=.stop))) (kr:=.stop))) (kr:=.stop))))) (kr:=(jPa 3 4 (p:=fun X hX=>(jFz (k:=jf))) (k:=(jPa 1 4 (p:=fun X hX=>(jh hX Z4)) (k:=(jPa 4 4 (p:=fun X hX=>(jh hX Z4)) (k:=(jPa 6 4 (p:=fun X hX=>(jh hX Z4)) (k:=(jPp [11] _ Zr (jPa 8 4 (p:=fun X hX=>(Q8.callB rfl Z3 rfl Z4 Zp Qx Z3 Z4 jf)) (k:=(jPa 9 4 (p:=fun X hX=>(jh hX Z4)) (k:=(jPa 10 4 (p:=fun X hX=>(jh hX Z4)) (k:=.tail) (kr:=.stop))) (kr:=.stop))) (kr:=.stop)))) (kr:=(jPa 8 4 (p:=fun X hX=>(Q8.callB rfl Z3 rfl Z4 Zp Qx Z3 Z4 jf)) (k:=(jPa 6 4 (p:=fun X hX=>(jh hX Z4)) (k:=(jPp [11] _ Zr (jPa 9 4 (p:=fun X hX=>(jh hX Z4)) (k:=(jPa 10 4 (p:=fun X hX=>(jh hX Z4)) (k:=.tail) (kr:=.stop))) (kr:=.stop)))) (kr:=(jPa 9 4 (p:=fun X hX=>(jh hX Z4)) (k:=(jPa 6 4 (p:=fun X hX=>(jh hX Z4)) (k:=(jPp [11] _ Zr (jPa 10 4 (p:=fun X hX=>(jh hX Z4)) (k:=.tail) (kr:=.stop)))) (kr:=.stop))) (kr:=.stop))))) (kr:=.stop))))) (kr:=(jPa 6 4 (p:=fun X hX=>(jh hX Z4)) (k:=(jPa 4 4 (p:=fun X hX=>(jh hX Z4)) (k:=(jPp [11] _ Zr (jPa 8 4 (p:=fun X hX=>(Q8.callB rfl Z3 rfl Z4 Zp Qx Z3 Z4 jf)) (k:=(jPa 9 4 (p:=fun X hX=>(jh hX Z4)) (k:=(jPa 10 4 (p:=fun X hX=>(jh hX Z4)) (k:=.tail) (kr:=.stop))) (kr:=.stop))) (kr:=.stop)))) (kr:=.stop))) (kr:=.stop))))) (kr:=(jPa 6 4 (p:=fun X hX=>(jh hX Z4)) (k:=(jPa 1 4 (p:=fun X hX=>(jh hX Z4)) (k:=(jPa 4 4 (p:=fun X hX=>(jh hX Z4)) (k:=(jPp [11] _ Zr (jPa 8 4 (p:=fun X hX=>(Q8.callB rfl Z3 rfl Z4 Zp Qx Z3 Z4 jf)) (k:=(jPa 9 4 (p:=fun X hX=>(jh hX Z4)) (k:=(jPa 10 4 (p:=fun X hX=>(jh hX Z4)) (k:=.tail) (kr:=.stop))) (kr:=.stop))) (kr:=.stop)))) (kr:=.stop))) (kr:=.stop))) (kr:=.stop))))) (kr:=(jPa 6 4 (p:=fun X hX=>(jh hX Z4)) (k:=(jPa 1 4 (p:=fun X hX=>(jh hX Z4)) (k:=(jPa 3 4 (p:=fun X hX=>(jFz (k:=jf))) (k:=(jPa 4 4 (p:=fun X hX=>(jh hX Z4)) (k:=(jPp [11] _ Zr (jPa 8 4 (p:=fun X hX=>(Q8.callB rfl Z3 rfl Z4 Zp Qx Z3 Z4 jf)) (k:=(jPa 9 4 (p:=fun X hX=>(jh hX Z4)) (k:=(jPa 10 4 (p:=fun X hX=>(jh hX Z4)) (k:=.tail) (kr:=.stop))) (kr:=.stop))) (kr:=.stop)))) (kr:=.stop))) (kr:=.stop))) (kr:=(jPa 3 4 (p:=fun X hX=>(jFz (k:=jf))) (k:=(jPa 1 4 (p:=fun X hX=>(jh hX Z4)) (k:=(jPa 4 4 (p:=fun X hX=>(jh hX Z4)) (k:=(jPp [11] _ Zr (jPa 8 4 (p:=fun X hX=>(Q8.callB rfl Z3 rfl Z4 Zp Qx Z3 Z4 jf)) (k:=(jPa 9 4 (p:=fun X hX=>(jh hX Z4)) (k:=(jPa 10 4 (p:=fun X hX=>(jh hX Z4)) (k:=.tail) (kr:=.stop))) (kr:=.stop))) (kr:=.stop)))) (kr:=.stop))) (kr:=.stop))) (kr:=.stop))))) (kr:=.stop))))))) (Q8.weak (jh hX Z4) (Le.trans (Le.absorb 5 N 0 Zbe) (Le.trans (Le.absorb 5 N 1 Zbe) (Le.trans (Le.absorb 0 0 0 Zaq) (Le.absorb 0 0 1 Zaq))))) ?_
 refine Qk Z4 Z15 (.of_eq ?_) ?_
 all_goals clear hX
 ·simp[hN]
 ·simp[hN,hY]
theorem Qjz{ns:List Int}{fs:List Frm}{g:Frm}{n:Int}(hn:ns.length≤1000000)(hf:fs.length≤1000000)(h1:g.stack.length≤1048576)(h2:g.locals.length≤1048576):Ct Tryz.prog 147 [.int .i64 n,eFr g,.ptr 0 0 0] [some (3,[.agg [.lst true 1 (ns.map iV),.lst true 2 (fs.map oFr),.int .i64 0]])] (.tup []) [some (3,[.agg [.lst true 1 ((ns++[n]).map iV),.lst true 2 ((fs++[g]).map oFr),.int .i64 0]])]:=by
 obtain ⟨Y,hY⟩: ∃Y,Y=fs.map oFr:=⟨_,rfl⟩
 rw[←hY]
 obtain ⟨N,hN⟩: ∃N,N=fs.length:=⟨_,rfl⟩
 have hYl:Y.length=N:=by rw[hY,hN];simp
 have hYt:Y.take N=Y:=List.take_of_length_le Zb
 have hYj: ∀p,jkL p Y=Y:=fun p=>by rw[hY];exact jkL_oFr p _
 have m1:=fun x=>midG hYl x []
 have m2:=fun x y=>midS hYl x y []
 have m3:=fun p x=>Qy7 (p:=p) (x:=x) (Y:=Y) (Z:=[]) (hYj p) rfl
 have hYu: ∀x,(Y++[x]).take (N+1)=Y++[x]:=fun x=>List.take_of_length_le Z3l
 have hYp:pureL Y=true:=by rw[hY];simp
 have w0:(N+1)*48≤140737488355328:=by omega
 have w2:N≤1099511627775:=by omega
 have w3:(ns.length+1)*8≤140737488355328:=by omega
 have w4:ns.length≤1099511627775:=by omega
 refine jbS Tryz.func147 18 fun X hX=> ?_
 refine Q0 [0,2,4] (jh hX Z4) ?_
 refine Q15 (Le.expose 0 0 0 Z1g) ?_
 refine Q15 (Le.expose 0 0 1 Z1g) ?_
 refine jPr 12 (Q17 [0,2,5,7] (.alt 1 (.alt 3 (.alt 4 (.alt 6 (Q17 [11] (.alt 8 (.alt 9 (.alt 10 .tail .stop) .stop) .stop)) (.alt 8 (.alt 6 (Q17 [11] (.alt 9 (.alt 10 .tail .stop) .stop)) (.alt 9 (.alt 6 (Q17 [11] (.alt 10 .tail .stop)) .stop) .stop)) .stop)) (.alt 6 (.alt 4 (Q17 [11] (.alt 8 (.alt 9 (.alt 10 .tail .stop) .stop) .stop)) .stop) .stop)) (.alt 6 (.alt 3 (.alt 4 (Q17 [11] (.alt 8 (.alt 9 (.alt 10 .tail .stop) .stop) .stop)) .stop) .stop) .stop)) (.alt 3 (.alt 1 (.alt 4 (.alt 6 (Q17 [11] (.alt 8 (.alt 9 (.alt 10 .tail .stop) .stop) .stop)) (.alt 8 (.alt 6 (Q17 [11] (.alt 9 (.alt 10 .tail .stop) .stop)) (.alt 9 (.alt 6 (Q17 [11] (.alt 10 .tail .stop)) .stop) .stop)) .stop)) (.alt 6 (.alt 4 (Q17 [11] (.alt 8 (.alt 9 (.alt 10 .tail .stop) .stop) .stop)) .stop) .stop)) (.alt 6 (.alt 1 (.alt 4 (Q17 [11] (.alt 8 (.alt 9 (.alt 10 .tail .stop) .stop) .stop)) .stop) .stop) .stop)) (.alt 6 (.alt 1 (.alt 3 (.alt 4 (Q17 [11] (.alt 8 (.alt 9 (.alt 10 .tail .stop) .stop) .stop)) .stop) .stop) (.alt 3 (.alt 1 (.alt 4 (Q17 [11] (.alt 8 (.alt 9 (.alt 10 .tail .stop) .stop) .stop)) .stop) .stop) .stop)) .stop)))) [1] hX (jPp [0,2,5,7] _ Zr (jPa 1 2 (p:=fun X hX=>(jh hX Z4)) (k:=(jPa 3 2 (p:=fun X hX=>(jFz (k:=jf))) (k:=(jPa 4 2 (p:=fun X hX=>(jh hX Z4)) (k:=(jPa 6 2 (p:=fun X hX=>(jh hX Z4)) (k:=(jPp [11] _ Zr (jPa 8 2 (p:=fun X hX=>(Q8.callB rfl Z3 rfl Z4 Zp Qx Z3 Z4 jf)) (k:=(jPa 9 2 (p:=fun X hX=>(jh hX Z4)) (k:=(jPa 10 2 (p:=fun X hX=>(jh hX Z4)) (k:=.tail) (kr:=.stop))) (kr:=.stop))) (kr:=.stop)))) (kr:=(jPa 8 2 (p:=fun X hX=>(Q8.callB rfl Z3 rfl Z4 Zp Qx Z3 Z4 jf)) (k:=(jPa 6 2 (p:=fun X hX=>(jh hX Z4)) (k:=(jPp [11] _ Zr (jPa 9 2 (p:=fun X hX=>(jh hX Z4)) (k:=(jPa 10 2 (p:=fun X hX=>(jh hX Z4)) (k:=.tail) (kr:=.stop))) (kr:=.stop)))) (kr:=(jPa 9 2 (p:=fun X hX=>(jh hX Z4)) (k:=(jPa 6 2 (p:=fun X hX=>(jh hX Z4)) (k:=(jPp [11] _ Zr (jPa 10 2 (p:=fun X hX=>(jh hX Z4)) (k:=.tail) (kr:=.stop)))) (kr:=.stop))) (kr:=.stop))))) (kr:=.stop))))) (kr:=(jPa 6 2 (p:=fun X hX=>(jh hX Z4)) (k:=(jPa 4 2 (p:=fun X hX=>(jh hX Z4)) (k:=(jPp [11] _ Zr (jPa 8 2 (p:=fun X hX=>(Q8.callB rfl Z3 rfl Z4 Zp Qx Z3 Z4 jf)) (k:=(jPa 9 2 (p:=fun X hX=>(jh hX Z4)) (k:=(jPa 10 2 (p:=fun X hX=>(jh hX Z4)) (k:=.tail) (kr:=.stop))) (kr:=.stop))) (kr:=.stop)))) (kr:=.stop))) (kr:=.stop))))) (kr:=(jPa 6 2 (p:=fun X hX=>(jh hX Z4)) (k:=(jPa 3 2 (p:=fun X hX=>(jFz (k:=jf))) (k:=(jPa 4 2 (p:=fun X hX=>(jh hX Z4)) (k:=(jPp [11] _ Zr (jPa 8 2 (p:=fun X hX=>(Q8.callB rfl Z3 rfl Z4 Zp Qx Z3 Z4 jf)) (k:=(jPa 9 2 (p:=fun X hX=>(jh hX Z4)) (k:=(jPa 10 2 (p:=fun X hX=>(jh hX Z4)) (k:=.tail) (kr:=.stop))) (kr:=.stop))) (kr:=.stop)))) (kr:=.stop))) (kr:=.stop))) (kr:=.stop))))) (kr:=(jPa 3 2 (p:=fun X hX=>(jFz (k:=jf))) (k:=(jPa 1 2 (p:=fun X hX=>(jh hX Z4)) (k:=(jPa 4 2 (p:=fun X hX=>(jh hX Z4)) (k:=(jPa 6 2 (p:=fun X hX=>(jh hX Z4)) (k:=(jPp [11] _ Zr (jPa 8 2 (p:=fun X hX=>(Q8.callB rfl Z3 rfl Z4 Zp Qx Z3 Z4 jf)) (k:=(jPa 9 2 (p:=fun X hX=>(jh hX Z4)) (k:=(jPa 10 2 (p:=fun X hX=>(jh hX Z4)) (k:=.tail) (kr:=.stop))) (kr:=.stop))) (kr:=.stop)))) (kr:=(jPa 8 2 (p:=fun X hX=>(Q8.callB rfl Z3 rfl Z4 Zp Qx Z3 Z4 jf)) (k:=(jPa 6 2 (p:=fun X hX=>(jh hX Z4)) (k:=(jPp [11] _ Zr (jPa 9 2 (p:=fun X hX=>(jh hX Z4)) (k:=(jPa 10 2 (p:=fun X hX=>(jh hX Z4)) (k:=.tail) (kr:=.stop))) (kr:=.stop)))) (kr:=(jPa 9 2 (p:=fun X hX=>(jh hX Z4)) (k:=(jPa 6 2 (p:=fun X hX=>(jh hX Z4)) (k:=(jPp [11] _ Zr (jPa 10 2 (p:=fun X hX=>(jh hX Z4)) (k:=.tail) (kr:=.stop)))) (kr:=.stop))) (kr:=.stop))))) (kr:=.stop))))) (kr:=(jPa 6 2 (p:=fun X hX=>(jh hX Z4)) (k:=(jPa 4 2 (p:=fun X hX=>(jh hX Z4)) (k:=(jPp [11] _ Zr (jPa 8 2 (p:=fun X hX=>(Q8.callB rfl Z3 rfl Z4 Zp Qx Z3 Z4 jf)) (k:=(jPa 9 2 (p:=fun X hX=>(jh hX Z4)) (k:=(jPa 10 2 (p:=fun X hX=>(jh hX Z4)) (k:=.tail) (kr:=.stop))) (kr:=.stop))) (kr:=.stop)))) (kr:=.stop))) (kr:=.stop))))) (kr:=(jPa 6 2 (p:=fun X hX=>(jh hX Z4)) (k:=(jPa 1 2 (p:=fun X hX=>(jh hX Z4)) (k:=(jPa 4 2 (p:=fun X hX=>(jh hX Z4)) (k:=(jPp [11] _ Zr (jPa 8 2 (p:=fun X hX=>(Q8.callB rfl Z3 rfl Z4 Zp Qx Z3 Z4 jf)) (k:=(jPa 9 2 (p:=fun X hX=>(jh hX Z4)) (k:=(jPa 10 2 (p:=fun X hX=>(jh hX Z4)) (k:=.tail) (kr:=.stop))) (kr:=.stop))) (kr:=.stop)))) (kr:=.stop))) (kr:=.stop))) (kr:=.stop))))) (kr:=(jPa 6 2 (p:=fun X hX=>(jh hX Z4)) (k:=(jPa 1 2 (p:=fun X hX=>(jh hX Z4)) (k:=(jPa 3 2 (p:=fun X hX=>(jFz (k:=jf))) (k:=(jPa 4 2 (p:=fun X hX=>(jh hX Z4)) (k:=(jPp [11] _ Zr (jPa 8 2 (p:=fun X hX=>(Q8.callB rfl Z3 rfl Z4 Zp Qx Z3 Z4 jf)) (k:=(jPa 9 2 (p:=fun X hX=>(jh hX Z4)) (k:=(jPa 10 2 (p:=fun X hX=>(jh hX Z4)) (k:=.tail) (kr:=.stop))) (kr:=.stop))) (kr:=.stop)))) (kr:=.stop))) (kr:=.stop))) (kr:=(jPa 3 2 (p:=fun X hX=>(jFz (k:=jf))) (k:=(jPa 1 2 (p:=fun X hX=>(jh hX Z4)) (k:=(jPa 4 2 (p:=fun X hX=>(jh hX Z4)) (k:=(jPp [11] _ Zr (jPa 8 2 (p:=fun X hX=>(Q8.callB rfl Z3 rfl Z4 Zp Qx Z3 Z4 jf)) (k:=(jPa 9 2 (p:=fun X hX=>(jh hX Z4)) (k:=(jPa 10 2 (p:=fun X hX=>(jh hX Z4)) (k:=.tail) (kr:=.stop))) (kr:=.stop))) (kr:=.stop)))) (kr:=.stop))) (kr:=.stop))) (kr:=.stop))))) (kr:=.stop))))))) (Q8.weak (jh hX Z4) (Le.trans (Le.absorb 3 N 0 Zbe) (Le.trans (Le.absorb 3 N 1 Zbe) (Le.trans (Le.absorb 0 0 0 Zaq) (Le.absorb 0 0 1 Zaq))))) ?_
 refine Qk Z4 Z15 (.of_eq ?_) ?_
 all_goals clear hX
 ·simp[hN]
 ·simp[hN,hY]
theorem Qco:Q6 Tryz.prog 148:=jcb Tryz.func148
theorem Qcm{F:SF}{x y z:V}(hl:F.l.length≤1048576)(hk:0≤F.m.stack){h:Hdl}:Ct Tryz.prog 148 [pFl F x y z,eH h] [] (.int .i64 (hdK F h)) []:=by
 refine jbS Tryz.func148 30 fun X hX=> ?_
 refine jq [0,3] ?_
 refine Q4 (Q7 (jL 6 [0,1,2,3,4,5] [] [0,3,5] ([0]) hX Z7 .nil (jc [] (c:=Z2e) (a:=Q1z) (k:=jr)) ?_))
 refine jd (fun h1=> ?_) (fun h1=> ?_)
 ·try simp at h1
  refine jq [4] ?_
  refine Q5 (je0 ?_)
  simp_all[hdK]
 ·try simp at h1
  refine jL 6 [0,1,2,3,4,5] [] [0,14] ([0]) hX Z7 .nil (jc [] (c:=(by apply Qad (a:=h.cls) (b:=Q16)<;>assumption)) (a:=Q7a) (k:=jr)) ?_
  refine jd (fun h3=> ?_) (fun h3=> ?_)
  ·try simp at h3
   refine jq [4] ?_
   refine Q5 (je0 ?_)
   have e1:isKnown F.l Q16=true:=Q3f Z3w
   have e2:=Qzi (F:=F) (h:=h) Z6y
   rw[e1,Bool.true_and] at e2
   simp_all[hdK]
  ·try simp at h3
   refine Q3 (Q0 [4] (jt 6 (k:=(jc [] (c:=Z1k) (a:=Q1d) (k:=jr)))) ?_)
   refine Q5 (je0 ?_)
   have e1:isKnown F.l Q16=true:=Q3f Z3w
   have e2:=Qzi (F:=F) (h:=h) Z6y
   rw[e1,Bool.true_and] at e2
   simp_all[hdK]
   grind
theorem Q70:Q6 Tryz.prog 82:=jcb Tryz.func82
theorem Qno{F:SF}{st lo tk:List Typ}(hs:st.length≤100)(hs2:lo.length≤100)(ht:tk.length≤1000)(hl:F.l.length≤1048576)(h9:Qs F.l=true)(hz:Q1w F.l≤1048576)(hd:F.i.desc.length≤1099511627776)(hmd:F.m.desc.length≤1099511627776)(hc:F.i.cls.length≤1099511627776)(hia:F.i.op=3∨F.i.op=4→0≤F.i.a)(hds:F.i.op=36∨F.i.op=37∨F.i.op=38→Q45 F.i.desc=(Qy F.i.desc).params.length)(hop:1≤F.i.op∧F.i.op≤44)(hat:0≤F.at')(hlt:F.at'.toNat<F.m.code.length)(hfi:F.m.code[F.at'.toNat]=F.i)(htk:0≤Q2a F.i)(hk:0≤F.m.stack)(hcl:F.m.code.length≤1048576)(hhl:F.m.hdls.length≤1000)(hel:(Q4z F st lo).k=0→(Q4z F st lo).st.length≤1000∧(Q4z F st lo).lo.length≤1000):Ct Tryz.prog 82 [.ptr 0 0 0] [some (20,[oFl F st lo tk])] (oFl2 (Qsz F st lo)) [some (20,[oFl F (Q4z F st lo).st (Q4z F st lo).lo (Qx9 F st tk)])]:=by
 have d2:List.take lo.length (lo.map eT)=lo.map eT:=List.take_of_length_le Z3
 have wa:IntKind.i64.wrap (F.at'+1)=F.at'+1:=Qc Zb Zb
 refine jbS Tryz.func82 120 fun X hX=> ?_
 refine Q0 [0,2] (jh hX Zz) ?_
 refine Q15 (Le.expose 0 0 18 Z1g) ?_
 refine jT 18 (Q17 [0,1,2,3,4,5,6,7,8,9,10,11,12,13,14,15] (.alt 16 (.alt 17 .tail .stop) (.alt 17 (.alt 16 .tail .stop) .stop))) [0,2,3,4] [0] hX (jTp [0,1,2,3,4,5,6,7,8,9,10,11,12,13,14,15] _ (by simp[hat,hlt,hfi,d2,wa];try rfl) (jTa 16 (p:=fun X hX=>(Q8.callBF rfl Z3 rfl Zz Z62 Q20 Z3 Zz jf)) (k:=(jTa 17 (p:=fun X hX=>(jh hX Zz)) (k:=.tail) (kr:=.stop))) (kr:=(jTa 17 (p:=fun X hX=>(jh hX Zz)) (k:=(jTa 16 (p:=fun X hX=>(Q8.callBF rfl Z3 rfl Zz Z62 Q20 Z3 Zz jf)) (k:=.tail) (kr:=.stop))) (kr:=.stop))))) (jh hX Zz) ?_
 refine Q15 (Le.absorb 0 0 18 Z7) ?_
 refine Q4 (Q0 [0,2,3,4,5] (js hX 1 Zz (Q8.call [0] rfl Z3 rfl Zz Z7 (by apply Qiu<;>exact Z0) Qj3 Z3 Z3 Zz (jh hX Zz))) ?_)
 obtain ⟨x9,hx9⟩: ∃x,Q4z F st lo=x:=⟨_,rfl⟩
 rw[hx9] at hel
 simp only[hx9]
 obtain ⟨xk,xst,xlo⟩:=x9
 simp only at hel
 refine Q0 [0,2,3,4,5,31] (jh hX Zz) ?_
 refine jd (fun h3=> ?_) (fun h3=> ?_)
 ·try simp at h3
  refine Q0 [2] (jh hX Zz) ?_
  refine Q5 (Qp Zz Z15 ?_ ?_)
  all_goals clear hX
  ·skip
   rw[Qsz,hx9,Qvj Z9d]
   exact Wk.agg (.cons (Wk.nilSlice _ _) (.cons (Wk.nilSlice _ _) (.cons (Wk.refl _) .nil)))
  ·simp[hx9]
 ·try simp at h3
  have hel2:=hel Z9d
  obtain ⟨hel3,hel4⟩:=hel2
  refine Q15 (Le.expose 0 0 17 Z1g) ?_
  refine Q15 (Le.expose 0 0 18 Z1g) ?_
  refine Q3 (Q0 [0,2,3,4,6] (jh hX Zz) ?_)
  refine Q15 (Le.nilC 6 0 0 1 Z7) ?_
  refine Q15 (Le.absorb 6 0 0 Z7) ?_
  refine Q15 (Le.nilC 6 0 1 2 Z7) ?_
  refine Q15 (Le.absorb 6 0 1 Z7) ?_
  refine Q15 (Le.trans (Le.trim 7 Z1r _ Z3) (Le.of_eq Z7)) ?_
  refine Q0 [0,2,3,4,6,7] (jh hX Zz) ?_
  refine Q4 (Q0 [0,2,3,4,6,7,39] (js hX 2 Zz (Q8.call [] rfl Z3 rfl Zz Z7 (by apply Qnt<;>exact Z0) Qof Z3 Z3 Zz (jh hX Zz))) ?_)
  refine Qkk (α:=List Int×List Frm) [0,2,3,4,6,7] (fun p=>[]) (fun p=>[(6,some (3,[.agg [.lst true 1 (p.1.map iV),.lst true 2 (p.2.map oFr),.int .i64 0]]))]) (fun p=>p.1=nx0 F∧p.2=fs0 F ⟨xst,xlo⟩∧ ¬(Qje F.i.op=false∧(F.m.code.length:Int)≤F.at'+1)) (fun p=>by simp;rfl) ?_ ?_
  ·skip
   refine jd (fun h7=> ?_) (fun h7=> ?_)
   ·try simp at h7
    refine Q4 (jL 11 [0,1,2,3,4,5,6,7,8,9] [10] [0,2,3,4,6,7,51] ([0]) hX Zz (jH (p:=fun X hX=>(Q8.call [] rfl Z3 rfl Zz Z7 (by apply Q91<;>exact Z0) Q95 Z3 Z3 Zz jf)) (k:=.nil)) (jh hX Zz) ?_)
    refine jd (fun h8=> ?_) (fun h8=> ?_)
    ·try simp at h8
     refine Q0 [2] (jh hX Zz) ?_
     refine Q15 (Le.absorb 0 0 17 Z7) ?_
     refine Q15 (Le.absorb 0 0 18 Z7) ?_
     refine Q5 (Qp Zz Z15 ?_ ?_)
     all_goals clear hX
     ·skip
      rw[Qsz,hx9,Qp5,if_pos Z9d,if_pos (by simp_all;try omega)]
      exact Wk.agg (.cons (Wk.nilSlice _ _) (.cons (Wk.nilSlice _ _) (.cons (Wk.refl _) .nil)))
     ·simp[hx9]
    ·try simp at h8
     refine Q3 (Q1x (n:=10) (A:=[0,1,2,3,4,5,6,7,8,9]) (B:=[]) (L:=[0]) hmo Z24 tok hX Zz .nil (Q8.call [6,4,5] rfl Z3 rfl Zz Z7 (by apply (Q9t (ns:=[]) (fs:=[]) (g:=⟨xst,xlo⟩) (n:=F.at'+1))<;>exact Z0) Q7s Z3 Z3 Zz jf) ?_)
     refine Qc4 (([F.at'+1],[⟨xst,xlo⟩])) [0,2,3,4,6,7] Z3j ?_
     first|(simp_all[nx0,fs0,nx1,fs1];done)|(simp_all[nx0,fs0,nx1,fs1];omega)
   ·try simp at h7
    refine Q3 (Qc4 (([],[])) [0,2,3,4,6,7] Z3j ?_)
    first|(simp_all[nx0,fs0,nx1,fs1];done)|(simp_all[nx0,fs0,nx1,fs1];omega)
  ·rintro ⟨ns,fs⟩ ⟨hn_ns,hf_fs,hE⟩
   simp only at hn_ns hf_fs
   have hfl:Qsz F st lo=Q61 F lo F.m.hdls (nx1 F) (fs1 F ⟨xst,xlo⟩):=by rw[Qsz,hx9,Qp5,if_pos Z9d,if_neg hE]
   have u1:=Qv4 F
   have u2:=Qvg F ⟨xst,xlo⟩
   rw[←hn_ns] at u1
   rw[←hf_fs] at u2
   refine Q4 (Q0 [0,2,3,4,6,7,66] (js hX 2 Zz (Q8.call [] rfl Z3 rfl Zz Z7 (by apply Qlx<;>exact Z0) Qmi Z3 Z3 Zz jf)) ?_)
   refine Qkk (α:=List Int×List Frm) [0,2,4,6,7] (fun p=>[]) (fun p=>[(6,some (3,[.agg [.lst true 1 (p.1.map iV),.lst true 2 (p.2.map oFr),.int .i64 0]]))]) (fun p=>p.1=nx1 F∧p.2=fs1 F ⟨xst,xlo⟩) (fun p=>by simp;rfl) ?_ ?_
   ·skip
    refine jd (fun h11=> ?_) (fun h11=> ?_)
    ·try simp at h11
     refine Q1x (n:=7) (A:=[0,1,2,3,4,5,6]) (B:=[]) (L:=[0,3]) hmo Z24 tok hX Zz .nil (Q8.call [6,4,5] rfl Z3 rfl Zz Z7 (by apply (Q9t (g:=⟨xst,xlo⟩))<;>exact Z0) Q7s Z3 Z3 Zz jf) ?_
     refine Qc4 ((ns++[F.i.a],fs++[⟨xst,xlo⟩])) [0,2,4,6,7] Z3j ?_
     first|(simp_all[nx0,fs0,nx1,fs1];done)|(simp_all[nx0,fs0,nx1,fs1];omega)
    ·try simp at h11
     refine Q3 (Qc4 ((ns,fs)) [0,2,4,6,7] Z3j ?_)
     first|(simp_all[nx0,fs0,nx1,fs1];done)|(simp_all[nx0,fs0,nx1,fs1];omega)
   ·rintro ⟨n2,f2⟩ ⟨hn_n2,hf_f2⟩
    simp only at hn_n2 hf_f2
    have u1:=Qv3 F
    have u2:=Qzk F ⟨xst,xlo⟩
    rw[←hn_n2] at u1
    rw[←hf_f2] at u2
    refine Q4 (Q0 [0,2,4,6,7,79,80,81] (jh hX Zz) ?_)
    refine Q7 (Qh (α:=Nat×List Int×List Frm) [0,2,4,6,7,79,80,81] (fun p=>[(81,.int .i64 (p.1:Nat))]) (fun p=>[(6,some (3,[.agg [.lst true 1 (p.2.1.map iV),.lst true 2 (p.2.2.map oFr),.int .i64 0]]))]) (fun p=>p.1≤F.m.hdls.length∧p.2.1.length≤p.1+2∧p.2.2.length≤p.1+2∧Q61 F lo (F.m.hdls.drop p.1) p.2.1 p.2.2=Q61 F lo F.m.hdls (nx1 F) (fs1 F ⟨xst,xlo⟩)) (fun p=>F.m.hdls.length-p.1) (0,n2,f2) (fun p=>by simp;rfl) Z3 ?_ ?_)
    ·exact ⟨by simp,by simp;omega,by simp;omega,by simp[hn_n2,hf_f2]⟩
    rintro ⟨i,ns,fs⟩ ⟨hi1,hi2,hi3,hI⟩
    simp only at hi1 hi2 hi3 hI
    refine Q0 [0,2,4,6,7,79,80,81,82] (jh hX Zz) ?_
    refine Q4 (jd (fun h14=> ?_) (fun h14=> ?_))
    ·try simp at h14
     refine Q3 (Q4 (Qkk (α:=List Int×List Frm) [0,2,4,6,7,79,80,81] (fun p=>[]) (fun p=>[(6,some (3,[.agg [.lst true 1 (p.1.map iV),.lst true 2 (p.2.map oFr),.int .i64 0]]))]) (fun p=>p.1.length≤i+3∧p.2.length≤i+3∧Q61 F lo (F.m.hdls.drop (i+1)) p.1 p.2=Q61 F lo F.m.hdls (nx1 F) (fs1 F ⟨xst,xlo⟩)) (fun p=>by simp;rfl) ?_ ?_))
     ·skip
      refine Q7 (Q0 [0,2,4,6,7,9,79,80,81] (jh hX Za4) ?_)
      refine Q4 ?_
      by_cases hB:F.at'<F.m.hdls[i].frm
      all_goals
       first|(refine jL 14 [0,1,2,3,4,5,6,7,8,9,10,11,12,13] [] [0,2,4,6,7,9,79,80,81,100] ([0,7]) hX Z7k .nil (jh hX Z7k) ?_)|(refine jL 14 [0,1,2,3,4,5,6,7,8,9,10,11,12,13] [] [0,2,4,6,7,9,79,80,81,100] ([0,7]) hX Z7k .nil (jh hX Z7k) ?_)
       refine jd (fun h16=> ?_) (fun h16=> ?_)
       ·try simp at h16
        all_goals
         refine Ql (Qb6 ((ns,fs)) [0,2,4,6,7,79,80,81] 7 Z1r Z3 Z3 ?_)
         exact ⟨by simp only;omega,by simp only;omega,by rw[←hI,Q6h h14,if_neg Z8b]⟩
       ·try simp at h16
        all_goals
         refine Q3 (Q4 (Q0 [0,2,4,6,7,9,10,79,80,81] (js hX 2 Z5l (Q8.callB rfl Z3 rfl Zz (by apply Qcm<;>exact Z0) Qco Z3 Zz (jh hX Z5l))) ?_))
         refine Q0 [0,2,4,6,7,9,10,79,80,81,105] (jh hX Z5l) ?_
         refine jd (fun h18=> ?_) (fun h18=> ?_)
         ·try simp at h18
          refine Q0 [2] (jh hX Z5l) ?_
          refine Q15 (Le.absorb 0 0 17 Z7) ?_
          refine Q15 (Le.absorb 0 0 18 Z7) ?_
          refine Q5 (Qp Z5l Z15 ?_ ?_)
          all_goals clear hX
          ·skip
           rw[hfl,←hI,Q6h h14,if_pos Z8b,if_neg h18]
           exact Wk.agg (.cons (Wk.nilSlice _ _) (.cons (Wk.nilSlice _ _) (.cons (Wk.refl _) .nil)))
          ·simp[hx9]
         ·try simp at h18
          refine Q3 (jTr 9 (Q17 [0,1,2,3,4,7] (.alt 5 (.alt 6 (Q17 [8] .tail) .stop) .stop)) [7] hX (jTp [0,1,2,3,4,7] _ Zau (jTa 5 (p:=fun X hX=>(Q8.call [] rfl Z3 rfl Zz Z7 Z2u Q3y Z3 Z3 Zz jf)) (k:=(jTa 6 (p:=fun X hX=>(jFz (k:=jf))) (k:=(jTp [8] _ Zau .tail)) (kr:=.stop))) (kr:=.stop))) (Q8.call [6] rfl Z3 rfl Zz Z7 (by apply (Qjz (g:=⟨[Q11 F.m.hdls[i].cls],lo⟩))<;>exact Z0) Q7s Z3 Z3 Zz jf) ?_)
          refine Qb6 ((ns++[F.m.hdls[i].at'],fs++[⟨[Q11 F.m.hdls[i].cls],lo⟩])) [0,2,4,6,7,79,80,81] 7 Z1r Z3 Z3 ?_
          exact ⟨by simp;omega,by simp;omega,by rw[←hI,Q6h h14,if_pos Z8b,if_pos (by simp_all)]⟩
     ·rintro ⟨n3,f3⟩ ⟨hk1,hk2,hK⟩
      simp only at hk1 hk2 hK
      refine Qb (jh hX (by simp[h14,hat,hlt,hfi,d2,wa];(try (simp (disch:=omega) only[Qc];(try simp[h14,hat,hlt,hfi,d2,wa])));rfl)) ?_
      refine Qo ((i+1,n3,f3)) [0,2,4,6,7,79,80,81] (by simp[h14];try (simp (disch:=omega) only[Qc])) ?_ ?_
      ·exact ⟨by simp only;omega,by simp only;omega,by simp only;omega,hK⟩
      ·simp only;omega
    ·try simp at h14
     refine Q15 (Le.absorb 0 0 17 Z7) ?_
     refine Q15 (Le.absorb 0 0 18 Z7) ?_
     refine Q15 (Le.expose 6 0 0 Z1g) ?_
     refine Q15 (Le.expose 6 0 1 Z1g) ?_
     refine Ql (Q0 [2] (jh hX Za4) ?_)
     refine Q5 (Qp Za4 Z15 ?_ ?_)
     all_goals clear hX
     ·skip
      rw[hfl,←hI,Qu1 Zb]
      exact Wk.refl _
     ·simp[hx9]
theorem Qkc:Q6 Tryz.prog 96:=jcb Tryz.func96
theorem Qjy{n:Str}{m:Mth}(hd:m.desc.length≤1099511627776)(hL:m.locals≤1048576):Ct Tryz.prog 96 [.str n,eM m] [] (oFr ⟨[],Qe3 n (Qy m.desc).params m⟩) []:=by
 have hpl:=Ql9 m.desc
 have hpp:=(Q6l m.desc).2
 refine jbS Tryz.func96 60 fun X hX=> ?_
 refine jq [0,3,4] ?_
 refine jq [0,3,4,5] ?_
 refine Q15 (Le.nilC 2 0 1 3 Z7) ?_
 refine Q4 (Q7 (jq [0,3,4,5,16] ?_))
 refine jd (fun h3=> ?_) (fun h3=> ?_)
 ·try simp at h3
  refine Q3 (Q4 (Q0 [3,4,5,33,34,35] (jt 2 (k:=(jF (c:=Z6h) (a:=Q1v) (k:=jr)))) ?_))
  refine Q7 (Qh (α:=List Typ×Nat) [3,4,5,33,34,35] (fun p=>[(35,.int .i64 p.2)]) (fun p=>[(2,some (2,[.agg [.raw (.slice none 0 0),.arr 3 0 p.1.length]])),(3,some (3,p.1.map eT))]) (fun p=>p.2≤(Qy m.desc).params.length∧p.1.length≤1+p.2∧p.1=Q4p n m++((Qy m.desc).params.take p.2).map Q1o) (fun p=>(Qy m.desc).params.length-p.2) ((Q4p n m,0)) (fun p=>by simp;rfl) Z60 ?_ ?_)
  ·exact ⟨by simp,by simpa using Q4l _ _,by simp⟩
  rintro ⟨o,i⟩ ⟨hi,hn,hI⟩
  simp only at hi hn hI
  have w0:o.length≤1099511627776:=by omega
  have w1:(o.length+1)*32≤140737488355328:=by omega
  have w2:o.length≤1099511627775:=by omega
  refine Q0 [3,4,5,33,34,35,36] (jh hX Z84) ?_
  refine Q4 (jd (fun h7=> ?_) (fun h7=> ?_))
  ·try simp at h7
   have hp:((Qy m.desc).params[i]).length≤1099511627776:=Nat.le_trans (hpp _ (List.getElem_mem _)) Zb
   refine Q3 (Q4 (Q7 (Q0 [3,4,5,7,33,34,35] (jh hX Z3c) ?_)))
   refine Q1x (n:=5) (A:=[0,1,2]) (B:=[3,4]) (L:=[2]) hmo Z24 tok hX Z3c (jH (p:=fun X hX=>(jc [] (c:=Z6i) (a:=Q4g) (k:=jf))) (k:=(jH (p:=fun X hX=>(jh hX Z3c)) (k:=.nil)))) (jh hX Z3c) ?_
   refine Qb (jh hX Z42) ?_
   refine Qm ((o++[Q1o (Qy m.desc).params[i]],i+1)) [3,4,5,33,34,35] 4 Z1r Z3 Z6e ?_ ?_
   ·exact ⟨by simp only;omega,by simp;omega,by simp only;rw[Qd6 h7,←List.append_assoc,←hI]⟩
   ·simp only;omega
  ·try simp at h7
   have hil:i=(Qy m.desc).params.length:=by omega
   subst hil
   rw[List.take_of_length_le (Nat.le_refl _)] at hI
   subst hI
   refine Ql (Q4 (Q7 (Qh (α:=List Typ) [3,4,5] (fun o=>[]) (fun o=>[(2,some (2,[.agg [.raw (.slice none 0 0),.arr 3 0 o.length]])),(3,some (3,o.map eT))]) (fun o=>o.length≤1048600∧Qii m.locals.toNat o=Qe3 n (Qy m.desc).params m) (fun o=>m.locals.toNat-o.length) (Q4p n m++(Qy m.desc).params.map Q1o) (fun o=>by simp;rfl) Z3 ?_ ?_)))
   ·exact ⟨by have:=Q4l n m;simp;omega,rfl⟩
   rintro o ⟨ho,hJ⟩
   refine Q4 (jL 5 [0,1,3,4] [2] [3,4,5,52] ([0,2]) hX Z86 (jH (p:=fun X hX=>(jB (c:=Z61) (a:=Qz) (k:=jf))) (k:=.nil)) (jh hX Z86) ?_)
   refine jd (fun h11=> ?_) (fun h11=> ?_)
   ·try simp at h11
    have x1:(o.length+1)*32≤140737488355328:=by omega
    have x2:o.length≤1099511627775:=by omega
    refine Q3 (Q7 (Qb (jh hX Z9q) ?_))
    refine Qm (o++[zT]) [3,4,5] 4 Z1r Z3 Z40 ?_ ?_
    ·exact ⟨by simp;omega,by rw[Qi6 Zb];exact hJ⟩
    ·simp;omega
   ·try simp at h11
    rw[Qd0 Zb] at hJ
    subst hJ
    refine Ql (Q0 [4] (jh hX Z6u) ?_)
    refine Q5 (Q1b Z6u ?_ rfl)
    exact Wk.agg (.cons (Wk.nilSlice _ _) (.cons (Wk.refl _) .nil))
 ·try simp at h3
  refine jq [0,3,4,5,19] ?_
  refine jd (fun h4=> ?_) (fun h4=> ?_)
  ·try simp at h4
   refine Q1x (n:=4) (A:=[0,1]) (B:=[2,3]) (L:=[2]) hmo Z24 tok hX Z7 (jH (p:=fun X hX=>(jc [] (c:=(by apply Q9k<;>exact Z1o)) (a:=Q38) (k:=jf))) (k:=(jH (p:=fun X hX=>jr) (k:=.nil)))) jr ?_
   refine Q15 (Le.trans (Le.trim 4 Z1r _ Z3) (Le.of_eq Z7)) ?_
   refine Q4 (Q0 [3,4,5,33,34,35] (jt 2 (k:=(jF (c:=Z6h) (a:=Q1v) (k:=jr)))) ?_)
   refine Q7 (Qh (α:=List Typ×Nat) [3,4,5,33,34,35] (fun p=>[(35,.int .i64 p.2)]) (fun p=>[(2,some (2,[.agg [.raw (.slice none 0 0),.arr 3 0 p.1.length]])),(3,some (3,p.1.map eT))]) (fun p=>p.2≤(Qy m.desc).params.length∧p.1.length≤1+p.2∧p.1=Q4p n m++((Qy m.desc).params.take p.2).map Q1o) (fun p=>(Qy m.desc).params.length-p.2) ((Q4p n m,0)) (fun p=>by simp;rfl) Z60 ?_ ?_)
   ·exact ⟨by simp,by simpa using Q4l _ _,by simp⟩
   rintro ⟨o,i⟩ ⟨hi,hn,hI⟩
   simp only at hi hn hI
   have w0:o.length≤1099511627776:=by omega
   have w1:(o.length+1)*32≤140737488355328:=by omega
   have w2:o.length≤1099511627775:=by omega
   refine Q0 [3,4,5,33,34,35,36] (jh hX Z84) ?_
   refine Q4 (jd (fun h7=> ?_) (fun h7=> ?_))
   ·try simp at h7
    have hp:((Qy m.desc).params[i]).length≤1099511627776:=Nat.le_trans (hpp _ (List.getElem_mem _)) Zb
    refine Q3 (Q4 (Q7 (Q0 [3,4,5,7,33,34,35] (jh hX Z3c) ?_)))
    refine Q1x (n:=5) (A:=[0,1,2]) (B:=[3,4]) (L:=[2]) hmo Z24 tok hX Z3c (jH (p:=fun X hX=>(jc [] (c:=Z6i) (a:=Q4g) (k:=jf))) (k:=(jH (p:=fun X hX=>(jh hX Z3c)) (k:=.nil)))) (jh hX Z3c) ?_
    refine Qb (jh hX Z42) ?_
    refine Qm ((o++[Q1o (Qy m.desc).params[i]],i+1)) [3,4,5,33,34,35] 4 Z1r Z3 Z6e ?_ ?_
    ·exact ⟨by simp only;omega,by simp;omega,by simp only;rw[Qd6 h7,←List.append_assoc,←hI]⟩
    ·simp only;omega
   ·try simp at h7
    have hil:i=(Qy m.desc).params.length:=by omega
    subst hil
    rw[List.take_of_length_le (Nat.le_refl _)] at hI
    subst hI
    refine Ql (Q4 (Q7 (Qh (α:=List Typ) [3,4,5] (fun o=>[]) (fun o=>[(2,some (2,[.agg [.raw (.slice none 0 0),.arr 3 0 o.length]])),(3,some (3,o.map eT))]) (fun o=>o.length≤1048600∧Qii m.locals.toNat o=Qe3 n (Qy m.desc).params m) (fun o=>m.locals.toNat-o.length) (Q4p n m++(Qy m.desc).params.map Q1o) (fun o=>by simp;rfl) Z3 ?_ ?_)))
    ·exact ⟨by have:=Q4l n m;simp;omega,rfl⟩
    rintro o ⟨ho,hJ⟩
    refine Q4 (jL 5 [0,1,3,4] [2] [3,4,5,52] ([0,2]) hX Z86 (jH (p:=fun X hX=>(jB (c:=Z61) (a:=Qz) (k:=jf))) (k:=.nil)) (jh hX Z86) ?_)
    refine jd (fun h11=> ?_) (fun h11=> ?_)
    ·try simp at h11
     have x1:(o.length+1)*32≤140737488355328:=by omega
     have x2:o.length≤1099511627775:=by omega
     refine Q3 (Q7 (Qb (jh hX Z9q) ?_))
     refine Qm (o++[zT]) [3,4,5] 4 Z1r Z3 Z40 ?_ ?_
     ·exact ⟨by simp;omega,by rw[Qi6 Zb];exact hJ⟩
     ·simp;omega
    ·try simp at h11
     rw[Qd0 Zb] at hJ
     subst hJ
     refine Ql (Q0 [4] (jh hX Z6u) ?_)
     refine Q5 (Q1b Z6u ?_ rfl)
     exact Wk.agg (.cons (Wk.nilSlice _ _) (.cons (Wk.refl _) .nil))
  ·try simp at h4
   refine Q1x (n:=5) (A:=[0,1,2]) (B:=[3,4]) (L:=[2]) hmo Z24 tok hX Z7 (jH (p:=fun X hX=>(jc [] (c:=(by apply Qh5<;>exact Z1o)) (a:=Q3y) (k:=jf))) (k:=(jH (p:=fun X hX=>jr) (k:=.nil)))) jr ?_
   refine Q15 (Le.trans (Le.trim 4 Z1r _ Z3) (Le.of_eq Z7)) ?_
   refine Q4 (Q0 [3,4,5,33,34,35] (jt 2 (k:=(jF (c:=Z6h) (a:=Q1v) (k:=jr)))) ?_)
   refine Q7 (Qh (α:=List Typ×Nat) [3,4,5,33,34,35] (fun p=>[(35,.int .i64 p.2)]) (fun p=>[(2,some (2,[.agg [.raw (.slice none 0 0),.arr 3 0 p.1.length]])),(3,some (3,p.1.map eT))]) (fun p=>p.2≤(Qy m.desc).params.length∧p.1.length≤1+p.2∧p.1=Q4p n m++((Qy m.desc).params.take p.2).map Q1o) (fun p=>(Qy m.desc).params.length-p.2) ((Q4p n m,0)) (fun p=>by simp;rfl) Z60 ?_ ?_)
   ·exact ⟨by simp,by simpa using Q4l _ _,by simp⟩
   rintro ⟨o,i⟩ ⟨hi,hn,hI⟩
   simp only at hi hn hI
   have w0:o.length≤1099511627776:=by omega
   have w1:(o.length+1)*32≤140737488355328:=by omega
   have w2:o.length≤1099511627775:=by omega
   refine Q0 [3,4,5,33,34,35,36] (jh hX Z84) ?_
   refine Q4 (jd (fun h7=> ?_) (fun h7=> ?_))
   ·try simp at h7
    have hp:((Qy m.desc).params[i]).length≤1099511627776:=Nat.le_trans (hpp _ (List.getElem_mem _)) Zb
    refine Q3 (Q4 (Q7 (Q0 [3,4,5,7,33,34,35] (jh hX Z3c) ?_)))
    refine Q1x (n:=5) (A:=[0,1,2]) (B:=[3,4]) (L:=[2]) hmo Z24 tok hX Z3c (jH (p:=fun X hX=>(jc [] (c:=Z6i) (a:=Q4g) (k:=jf))) (k:=(jH (p:=fun X hX=>(jh hX Z3c)) (k:=.nil)))) (jh hX Z3c) ?_
    refine Qb (jh hX Z42) ?_
    refine Qm ((o++[Q1o (Qy m.desc).params[i]],i+1)) [3,4,5,33,34,35] 4 Z1r Z3 Z6e ?_ ?_
    ·exact ⟨by simp only;omega,by simp;omega,by simp only;rw[Qd6 h7,←List.append_assoc,←hI]⟩
    ·simp only;omega
   ·try simp at h7
    have hil:i=(Qy m.desc).params.length:=by omega
    subst hil
    rw[List.take_of_length_le (Nat.le_refl _)] at hI
    subst hI
    refine Ql (Q4 (Q7 (Qh (α:=List Typ) [3,4,5] (fun o=>[]) (fun o=>[(2,some (2,[.agg [.raw (.slice none 0 0),.arr 3 0 o.length]])),(3,some (3,o.map eT))]) (fun o=>o.length≤1048600∧Qii m.locals.toNat o=Qe3 n (Qy m.desc).params m) (fun o=>m.locals.toNat-o.length) (Q4p n m++(Qy m.desc).params.map Q1o) (fun o=>by simp;rfl) Z3 ?_ ?_)))
    ·exact ⟨by have:=Q4l n m;simp;omega,rfl⟩
    rintro o ⟨ho,hJ⟩
    refine Q4 (jL 5 [0,1,3,4] [2] [3,4,5,52] ([0,2]) hX Z86 (jH (p:=fun X hX=>(jB (c:=Z61) (a:=Qz) (k:=jf))) (k:=.nil)) (jh hX Z86) ?_)
    refine jd (fun h11=> ?_) (fun h11=> ?_)
    ·try simp at h11
     have x1:(o.length+1)*32≤140737488355328:=by omega
     have x2:o.length≤1099511627775:=by omega
     refine Q3 (Q7 (Qb (jh hX Z9q) ?_))
     refine Qm (o++[zT]) [3,4,5] 4 Z1r Z3 Z40 ?_ ?_
     ·exact ⟨by simp;omega,by rw[Qi6 Zb];exact hJ⟩
     ·simp;omega
    ·try simp at h11
     rw[Qd0 Zb] at hJ
     subst hJ
     refine Ql (Q0 [4] (jh hX Z6u) ?_)
     refine Q5 (Q1b Z6u ?_ rfl)
     exact Wk.agg (.cons (Wk.nilSlice _ _) (.cons (Wk.refl _) .nil))
theorem Qhm:Q6 Tryz.prog 333:=jcb Tryz.func333
theorem Qh4{l:List Cls}(hl:l.length≤1048576){a b:Str}:Ct Tryz.prog 333 [wv l,.str a,.str b] [] (.str (comI l a b)) []:=by
 have hcl:=Q6z l a
 refine jbS Tryz.func333 23 fun X hX=> ?_
 refine jq [0,1,2] ?_
 refine Q4 (Q0 [0,2,11,12,13] (jt 2 (k:=(jF (c:=Z7a) (a:=Q2n) (k:=jr)))) ?_)
 refine Q7 (Qh (α:=Nat) [0,2,11,12,13] (fun i=>[(13,.int .i64 i)]) (fun i=>[]) (fun i=>i≤(Qq l a).length∧((Qq l a).drop i).find? (fun x=>isKnown l x&&out (Qq l b) x)=(Qq l a).find? (fun x=>isKnown l x&&out (Qq l b) x)) (fun i=>(Qq l a).length-i) (0) (fun i=>by simp;rfl) Z3 ?_ ?_)
 ·simp
 rintro i ⟨hi,hI⟩
 refine jq [0,2,11,12,13,14] ?_
 refine Q4 (jd (fun h2=> ?_) (fun h2=> ?_))
 ·try simp at h2
  rw[Q115 h2] at hI
  refine Q3 (Q4 (Q7 (Q0 [0,2,8,11,12,13] (jh hX Zw) ?_)))
  refine Q0 [0,2,8,11,12,13,20] (jt 3 (k:=(jc [] (c:=Z7b) (a:=Q7a) (k:=jf)))) ?_
  refine jd (fun h4=> ?_) (fun h4=> ?_)
  ·try simp at h4
   refine jq [6] ?_
   refine Q5 (je Zw ?_)
   have h4b:(isKnown l (Qq l a)[i]&&out (Qq l b) (Qq l a)[i])=true:=by simpa using h4
   rw[if_pos h4b] at hI
   unfold comI;rw[←hI];rfl
  ·try simp at h4
   have h4b: ¬(isKnown l (Qq l a)[i]&&out (Qq l b) (Qq l a)[i])=true:=by simpa using h4
   rw[if_neg h4b] at hI
   refine Q3 (Qb (jh hX Z9) ?_)
   refine Qo (i+1) [0,2,11,12,13] Z1x ?_ ?_
   ·exact ⟨by omega,hI⟩
   ·omega
 ·try simp at h2
  rw[List.drop_eq_nil_of_le h2] at hI
  refine Ql (jq [6] ?_)
  refine Q5 (je Zw ?_)
  unfold comI;rw[←hI];rfl
theorem Qfv:Q6 Tryz.prog 328:=jcb Tryz.func328
theorem Qfj{l:List Cls}(hl:l.length≤1048576){a b:Typ}:Ct Tryz.prog 328 [wv l,eT a,eT b] [] (eT (Qjo l a b)) []:=by
 refine jbS Tryz.func328 48 fun X hX=> ?_
 refine jq [0,4,5,6] ?_
 refine Q4 (Q7 (jq [0,4,5,6,7] ?_))
 refine jd (fun h1=> ?_) (fun h1=> ?_)
 ·try simp at h1
  refine jq [6] ?_
  refine Q5 (je0 ?_)
  cases a;cases b;simp only[Qjo,Q48,Q7z,Qt,zT,eT] at*
  (try simp_all)<;>grind
 ·try simp at h1
  refine Q0 [0,4,5,6,12] (jt 1 (k:=(jc [] (c:=Z3k) (a:=Q3m) (k:=(jt 2 (k:=(jm 4 16 [0,4,5,6,20] (p:=Zcb) (q:=by intro b;(try simp at b);exact (js hX 1 Z1 (Q8.call [] rfl Z3 rfl Z1 Z7 Z3k Q3m Z3 Z3 Z1 (jh hX Z1)))) (k:=jr)))))))) ?_
  refine jd (fun h3=> ?_) (fun h3=> ?_)
  ·try simp at h3
   refine jq [6] ?_
   refine Q5 (je0 ?_)
   cases a;cases b;simp only[Qjo,Q48,Q7z,Qt,zT,eT] at*
   (try simp_all)<;>grind
  ·try simp at h3
   refine jq [0,4,5,6,22] ?_
   refine jd (fun h5=> ?_) (fun h5=> ?_)
   ·try simp at h5
    refine jq [6] ?_
    refine Q5 (je0 ?_)
    cases a;cases b;simp only[Qjo,Q48,Q7z,Qt,zT,eT] at*
    (try simp_all)<;>grind
   ·try simp at h5
    refine jq [0,4,5,6,27] ?_
    refine jd (fun h7=> ?_) (fun h7=> ?_)
    ·try simp at h7
     refine jq [6] ?_
     refine Q5 (je0 ?_)
     cases a;cases b;simp only[Qjo,Q48,Q7z,Qt,zT,eT] at*
     (try simp_all)<;>grind
    ·try simp at h7
     refine jq [0,4,5,6,32] ?_
     refine jd (fun h9=> ?_) (fun h9=> ?_)
     ·try simp at h9
      refine jL 8 [0,1,2,3,4,5,6] [7] [6] ([0,1]) hX Z7 (jH (p:=fun X hX=>(jc [] (c:=(by apply Qh4<;>exact Z6)) (a:=Qhm) (k:=jf))) (k:=.nil)) jr ?_
      refine Q5 (je0 ?_)
      cases a;cases b;simp only[Qjo,Q48,Q7z,Qt,zT,eT] at*
      (try simp_all)<;>grind
     ·try simp at h9
      refine Q3 (Q0 [6] (jc [] (c:=Z45) (a:=Q3y) (k:=jr)) ?_)
      refine Q5 (je0 ?_)
      cases a;cases b;simp only[Qjo,Q48,Q7z,Qt,zT,eT] at*
      (try simp_all)<;>grind
theorem Qbe:Q6 Tryz.prog 317:=jcb Tryz.func317
theorem Qjw{l:List Cls}(hl:l.length≤1048576){x y:List Typ}(hx:x.length≤1048576)(e:x.length=y.length):Ct Tryz.prog 317 [wv l,.lst false 3 (x.map eT),.lst false 3 (y.map eT)] [] (.lst true 3 ((Q5w (Qjo l) x y).map eT)) []:=by
 refine jbS Tryz.func317 30 fun X hX=> ?_
 refine jq [0,1,2] ?_
 refine jq [0,1,2,7] ?_
 refine Q4 (jq [0,1,2,7,11,12] ?_)
 refine Q7 (Qh (α:=List Typ×Nat) [0,1,2,7,11,12] (fun p=>[(7,.arr 0 0 p.1.length),(12,.int .i64 p.2)]) (fun p=>[(0,some (3,p.1.map eT))]) (fun p=>p.2≤x.length∧p.1.length=p.2∧p.1=Q5w (Qjo l) (x.take p.2) (y.take p.2)) (fun p=>x.length-p.2) (([],0)) (fun p=>by simp;rfl) Z3 ?_ ?_)
 ·simp[Q5w]
 rintro ⟨o,i⟩ ⟨hi,hn,hI⟩
 simp only at hi hn hI
 have w0:o.length≤1099511627776:=by omega
 have w1:(o.length+1)*32≤140737488355328:=by omega
 have w2:o.length≤1099511627775:=by omega
 refine jq [0,1,2,7,11,12,13] ?_
 refine Q4 (jd (fun h3=> ?_) (fun h3=> ?_))
 ·try simp at h3
  have h3b:i<y.length:=by omega
  refine Q3 (Q4 (Q7 (jq [0,1,2,7,8,11,12] ?_)))
  refine Q1x (n:=12) (A:=[0,1,2,3,4,5,6,7,8,9]) (B:=[10,11]) (L:=[]) hmo Z24 tok hX Z99 (jH (p:=fun X hX=>(jc [] (c:=(by apply Qfj<;>exact Z6)) (a:=Qfv) (k:=jf))) (k:=(jH (p:=fun X hX=>jr) (k:=.nil)))) (jh hX Z99) ?_
  refine Qb (jh hX Z9) ?_
  refine Qm ((o++[Qjo l x[i] y[i]],i+1)) [0,1,2,7,11,12] 1 Z1r Z3 Z8t ?_ ?_
  ·exact ⟨by simp only;omega,by simp[hn],by simp only;rw[Qra h3 e,hI]⟩
  ·simp only;omega
 ·try simp at h3
  refine Ql (jq [6] ?_)
  refine Q5 (Q1b (by simp[w0,w1,w2,h3];rfl) ?_ rfl)
  obtain rfl:i=x.length:=by omega
  rw[List.take_of_length_le (Nat.le_refl _),List.take_of_length_le Zb] at hI
  rw[←hI]
  exact Wk.refl _
theorem Qeu:Q6 Tryz.prog 280:=jcb Tryz.func280
theorem Qen{l:List Cls}(hl:l.length≤1048576){a b:Frm}(ha:a.stack.length≤1048576)(hb:a.locals.length≤1048576)(e:a.stack.length=b.stack.length)(e2:a.locals.length=b.locals.length):Ct Tryz.prog 280 [wv l,eFr a,eFr b] [] (oFr (Qvh l a b)) []:=by
 refine jbS Tryz.func280 20 fun X hX=> ?_
 refine jq [0,4,5,6] ?_
 refine jL 11 [0,1,2,3,4,6,7,8,9,10] [5] [6] ([0,1]) hX Z7 (jH (p:=fun X hX=>(jc [] (c:=Z7d) (a:=Qbe) (k:=jf))) (k:=.nil)) (jc [] (c:=Z7d) (a:=Qbe) (k:=jr)) ?_
 refine Q5 (je0 ?_)
 rfl
theorem Q4d:Q6 Tryz.prog 318:=jcb Tryz.func318
theorem Q7j{x y:List Typ}(hl:x.length≤1099511627776):Ct Tryz.prog 318 [.lst false 3 (x.map eT),.lst false 3 (y.map eT)] [] (.bool (decide (x=y))) []:=by
 refine jbS Tryz.func318 26 fun X hX=> ?_
 refine jq [0,1] ?_
 refine Q4 (jq [0,1,10] ?_)
 refine jd (fun h1=> ?_) (fun h1=> ?_)
 ·try simp at h1
  refine jq [4] ?_
  refine Q5 (je0 ?_)
  rw[decide_eq_false (fun e=>by subst e;simp at h1)]
 ·try simp at h1
  have hl1:x.length=y.length:=by omega
  refine Q3 (Q4 (jq [0,1,12,13] ?_))
  refine Q7 (Qh (α:=Nat) [0,1,12,13] (fun i=>[(13,.int .i64 (i:Nat))]) (fun i=>[]) (fun i=>i≤x.length∧x.take i=y.take i) (fun i=>x.length-i) (0) (fun i=>by simp;rfl) Z3 ?_ ?_)
  ·simp
  rintro i ⟨hi,hI⟩
  refine jq [0,1,12,13,14] ?_
  refine Q4 (jd (fun h4=> ?_) (fun h4=> ?_))
  ·try simp at h4
   have h4b:i<y.length:=by omega
   refine Q3 (Q4 (Q7 (Q0 [0,1,5,12,13] (jh hX Z8r) ?_)))
   refine jD [0,1,12,13,24] (jQ Z8r) ?_
   refine jd (fun h6=> ?_) (fun h6=> ?_)
   ·try simp at h6
    refine Q0 [4] (jh hX Z8r) ?_
    refine Q5 (je Z8r ?_)
    rw[decide_eq_false (fun e=>by subst e;simp at h6)]
   ·try simp at h6
    refine Q3 (Qb (jh hX Z75) ?_)
    refine Qo (i+1) [0,1,12,13] Z9t ?_ ?_
    ·exact ⟨by omega,Qup hI h4 h4b (Q87.2 (by simpa using h6))⟩
    ·omega
  ·try simp at h4
   refine Ql (Q0 [4] (jh hX Z7f) ?_)
   refine Q5 (je Z7f ?_)
   rw[decide_eq_true (Qqm hI Zb hl1)]
theorem Qmc:Q6 Tryz.prog 281:=jcb Tryz.func281
theorem Qlp{a b:Frm}(h1:a.stack.length≤1048576)(h2:a.locals.length≤1048576):Ct Tryz.prog 281 [eFr a,eFr b] [] (.bool (decide (a=b))) []:=by
 refine jbS Tryz.func281 17 fun X hX=> ?_
 refine jq [2,3] ?_
 refine Q0 [4] (jt 4 (k:=(jc [] (c:=Z8p) (a:=Q4d) (k:=(jt 1 (k:=(jm 6 10 [16] (p:=by intro b;(try simp at b);exact (js hX 4 Z1 (Q8.call [] rfl Z3 rfl Z1 Z7 Z8p Q4d Z3 Z3 Z1 (jh hX Z1)))) (q:=Zcb) (k:=jr)))))))) ?_
 refine Q5 (je0 ?_)
 simp[Q12v]
theorem Q96:Q6 Tryz.prog 204:=jcb Tryz.func204
theorem Q92{l:List Cls}{m:Mth}{s:CkS}{n:Nat}{f:Frm}(hl:l.length≤1048576)(hI:CI l m s)(hf:FG l m f)(hn:n<m.code.length):Ct Tryz.prog 204 [.ptr 0 0 0,wv l,.int .i64 (n:Nat),eFr f] [some (5,[.agg [.lst true 1 (s.seen.map bW),.lst true 2 (s.frs.map eFr),.int .i64 0,.int .i64 0,.lst true 1 (s.waits.map bW)]])] (.int .i64 (cmK l s n f)) [some (5,[.agg [.lst true 1 ((cmS l s n f).seen.map bW),.lst true 2 ((cmS l s n f).frs.map eFr),.int .i64 0,.int .i64 0,.lst true 1 ((cmS l s n f).waits.map bW)]])]:=by
 obtain ⟨c1,c2,c3,c4⟩:=hI
 have n1:n<s.seen.length:=by omega
 have n2:n<s.frs.length:=by omega
 have n3:n<s.waits.length:=by omega
 have hfl:=Qgl hf.1
 refine jbS Tryz.func204 78 fun X hX=> ?_
 refine Q0 [0,1,2,7] (jh hX Z2r) ?_
 refine Q15 (Le.expose 0 0 0 Z1g) ?_
 refine Q15 (Le.expose 0 0 1 Z1g) ?_
 refine Q15 (Le.expose 0 0 4 Z1g) ?_
 refine Q4 (Q0 [0,1,2,7,19] (jh hX Z2r) ?_)
 refine jd (fun h1=> ?_) (fun h1=> ?_)
 ·try simp at h1
  have ho:=trivial;have hol:=trivial;have hll:=trivial
  refine jT 22 (Q17 [0,1,2,3,4,5,6,7,8,9,10,11,12,13,14,15,16,17,18] (.alt 19 (Q17 [20] (.alt 21 .tail .stop)) .stop)) [] [0,1] hX (jTp [0,1,2,3,4,5,6,7,8,9,10,11,12,13,14,15,16,17,18] _ Zby (jTa 19 (p:=fun X hX=>(jh hX Z2r)) (k:=(jTp [20] _ Zby (jTa 21 (p:=fun X hX=>(jh hX Z2r)) (k:=.tail) (kr:=.stop)))) (kr:=.stop))) (jh hX Z2r) ?_
  obtain ⟨a2,ha2⟩: ∃x,x=s.seen.set n true:=⟨_,rfl⟩
  rw[show (List.map bW s.seen).set n (V.bool true)=a2.map bW from by rw[ha2,List.map_set];rfl]
  have la2:a2.length=s.seen.length:=by rw[ha2];simp
  have ta2:List.take s.seen.length (a2.map bW)=a2.map bW:=List.take_of_length_le (by simp[la2])
  obtain ⟨a3,ha3⟩: ∃x,x=s.frs.set n f:=⟨_,rfl⟩
  rw[show (List.map eFr s.frs).set n (V.agg [V.lst false 3 (List.map eT f.stack),V.lst false 3 (List.map eT f.locals)])=a3.map eFr from by rw[ha3,List.map_set];rfl]
  have la3:a3.length=s.frs.length:=by rw[ha3];simp
  have ta3:List.take s.frs.length (a3.map eFr)=a3.map eFr:=List.take_of_length_le (by simp[la3])
  obtain ⟨a4,ha4⟩: ∃x,x=s.waits.set n true:=⟨_,rfl⟩
  rw[show (List.map bW s.waits).set n (V.bool true)=a4.map bW from by rw[ha4,List.map_set];rfl]
  have la4:a4.length=s.waits.length:=by rw[ha4];simp
  have ta4:List.take s.waits.length (a4.map bW)=a4.map bW:=List.take_of_length_le (by simp[la4])
  refine Q0 [8] (jh hX Z2r) ?_
  refine Q15 (Le.absorb 0 0 0 Z9j) ?_
  refine Q15 (Le.absorb 0 0 1 Z9j) ?_
  refine Q15 (Le.absorb 0 0 4 Z9j) ?_
  refine Q5 (Qp Z2r Z15 (.of_eq ?_) ?_)
  all_goals clear hX
  ·rw[cmK,Qhf n1 Z6y];rfl
  ·simp[cmS,Qhf n1 (show s.seen[n]=false by simpa using h1),←ha2,←ha3,←ha4]
 ·try simp at h1
  have ho:FG l m s.frs[n]:=by have:=(c4 n hn).1 (by rw[Qq4 n1];simpa using h1);rwa [Qa n2] at this
  have hol:=Qgl ho.1
  have hll:s.frs[n].locals.length=f.locals.length:=by have:=ho.2.1;have:=hf.2.1;omega
  refine Q3 (Q0 [0,1,2,7,9] (jh hX Z2r) ?_)
  refine Q4 (Q0 [0,1,2,7,9,55] (jh hX Z2r) ?_)
  refine jd (fun h5=> ?_) (fun h5=> ?_)
  ·try simp at h5
   refine Q0 [8] (jh hX Z2r) ?_
   refine Q15 (Le.absorb 0 0 0 Z7) ?_
   refine Q15 (Le.absorb 0 0 1 Z7) ?_
   refine Q15 (Le.absorb 0 0 4 Z7) ?_
   refine Q5 (Qp Z2r Z15 (.of_eq ?_) ?_)
   all_goals clear hX
   ·rw[cmK,Qvr n1 Z6y n2 Zb];rfl
   ·simp[cmS,Qvr n1 (show s.seen[n]=true by simpa using h1) n2 Zb]
  ·try simp at h5
   refine Q3 (Q4 (Q0 [0,2,9,10] (js hX 3 Z2r (jF (c:=(by apply Qen<;>exact Z1i)) (a:=Qeu) (k:=(jh hX Z2r)))) ?_))
   rw[Q110 ho.1 hf.1]
   have hL1:(Q40 l s.frs[n] f).stack.length=s.frs[n].stack.length:=Qar Zb
   have hL2:(Q40 l s.frs[n] f).locals.length=s.frs[n].locals.length:=Qar hll
   obtain ⟨u,hu⟩: ∃u,Q40 l s.frs[n] f=u:=⟨_,rfl⟩
   rw[hu] at hL1 hL2
   simp only[hu]
   refine Q0 [0,2,10,63] (js hX 2 Z2r (jF (c:=(by apply (Qlp (a:=u) (b:=s.frs[n]))<;>exact Z1i)) (a:=Qmc) (k:=(jh hX Z2r)))) ?_
   refine jd (fun h8=> ?_) (fun h8=> ?_)
   ·try simp at h8
    refine jTr 14 (Q17 [0,1,2,3,4,5,6,7,8,9,10,11,12] (.alt 13 .tail .stop)) [0,6] hX (jTp [0,1,2,3,4,5,6,7,8,9,10,11,12] _ Zby (jTa 13 (p:=fun X hX=>(jh hX Z2r)) (k:=.tail) (kr:=.stop))) (jh hX Z2r) ?_
    obtain ⟨a3,ha3⟩: ∃x,x=s.frs.set n u:=⟨_,rfl⟩
    rw[show (List.map eFr s.frs).set n (V.agg [V.lst false 3 (List.map eT u.stack),V.lst false 3 (List.map eT u.locals)])=a3.map eFr from by rw[ha3,List.map_set];rfl]
    have la3:a3.length=s.frs.length:=by rw[ha3];simp
    have ta3:List.take s.frs.length (a3.map eFr)=a3.map eFr:=List.take_of_length_le (by simp[la3])
    obtain ⟨a4,ha4⟩: ∃x,x=s.waits.set n true:=⟨_,rfl⟩
    rw[show (List.map bW s.waits).set n (V.bool true)=a4.map bW from by rw[ha4,List.map_set];rfl]
    have la4:a4.length=s.waits.length:=by rw[ha4];simp
    have ta4:List.take s.waits.length (a4.map bW)=a4.map bW:=List.take_of_length_le (by simp[la4])
    refine Q15 (Le.absorb 0 0 0 Zbn) ?_
    refine Q15 (Le.absorb 0 0 1 Zbn) ?_
    refine Q15 (Le.absorb 0 0 4 Zbn) ?_
    refine Q0 [8] (jh hX Z2r) ?_
    refine Q5 (Qp Z2r Z15 (.of_eq ?_) ?_)
    all_goals clear hX
    ·first|(rw[cmK,Qdo n1 Z6y n2 Zb Z6r];rfl)|(rw[cmK,Qih n1 Z6y n2 Zb Z6r];rfl)
    ·first|(simp[cmS,Qdo n1 (show s.seen[n]=true by simpa using h1) n2 Zb Z6r];done)|(simp[cmS,Qih n1 (show s.seen[n]=true by simpa using h1) n2 Zb Z6r,hu,←ha3,←ha4])
   ·try simp at h8
    refine Q15 (Le.absorb 0 0 0 Z7) ?_
    refine Q15 (Le.absorb 0 0 1 Z7) ?_
    refine Q15 (Le.absorb 0 0 4 Z7) ?_
    refine Q3 (Q0 [8] (jh hX Z2r) ?_)
    refine Q5 (Qp Z2r Z15 (.of_eq ?_) ?_)
    all_goals clear hX
    ·first|(rw[cmK,Qdo n1 Z6y n2 Zb Z6r];rfl)|(rw[cmK,Qih n1 Z6y n2 Zb Z6r];rfl)
    ·first|(simp[cmS,Qdo n1 (show s.seen[n]=true by simpa using h1) n2 Zb Z6r];done)|(simp[cmS,Qih n1 (show s.seen[n]=true by simpa using h1) n2 Zb Z6r,hu,←ha3,←ha4])
theorem Qbm:Q6 Tryz.prog 205:=jcb Tryz.func205
theorem Qbj{w:List Bool}(hl:w.length≤1099511627776):Ct Tryz.prog 205 [.lst false 1 (w.map bW),.bool true] [] (.int .i64 (Q7g w)) []:=by
 refine jbS Tryz.func205 19 fun X hX=> ?_
 refine jq [0,1] ?_
 refine Q4 (jq [0,1,7,8] ?_)
 refine Q7 (Qh (α:=Nat) [0,1,7,8] (fun i=>[(8,.int .i64 (i:Nat))]) (fun i=>[]) (fun i=>i≤w.length∧ ∀x∈w.take i,x=false) (fun i=>w.length-i) (0) (fun i=>by simp;rfl) Z3 ?_ ?_)
 ·simp
 rintro i ⟨hi,hI⟩
 refine jq [0,1,7,8,9] ?_
 refine Q4 (jd (fun h2=> ?_) (fun h2=> ?_))
 ·try simp at h2
  refine Q3 (Q4 (Q7 (Q0 [0,1,5,7,8] (jh hX Zw) ?_)))
  refine Q0 [0,1,5,7,8,16] (jh hX Zw) ?_
  refine jd (fun h4=> ?_) (fun h4=> ?_)
  ·try simp at h4
   refine Q0 [4] (jh hX Zw) ?_
   refine Q5 (je Zw ?_)
   rw[Q7g,Q5y (p:=fun b=>b) h2 hI Z4j]
  ·try simp at h4
   refine Q3 (Qb (jh hX Z37) ?_)
   refine Qo (i+1) [0,1,7,8] Z1x ?_ ?_
   ·exact ⟨by omega,Q7d (p:=fun b=>b) h2 hI Z4j⟩
   ·omega
 ·try simp at h2
  refine Ql (Q0 [4] (jh hX Zw) ?_)
  refine Q5 (je Zw ?_)
  obtain rfl:i=w.length:=by omega
  rw[List.take_of_length_le (Nat.le_refl _)] at hI
  rw[Q7g,Q5h (p:=fun b=>b) hI]
theorem Qbn:Q6 Tryz.prog 128:=jcb Tryz.func128
theorem Qbk{l:List Cls}{i j:Nat}{c:Cls}{m:Mth}(hp:PL l i j c m):Ct Tryz.prog 128 [wv l,eC c,eM m] [] (mCk (ckW l c m)) []:=by
 have hw:=hp.hw
 have hs:=hp.hs
 have hll:=Q66 hw
 obtain ⟨q1,q2,q3,q4,q5,q6,q7⟩:=hp.nums
 obtain ⟨d1,d2,d3,d4,d5⟩:=hp.desc
 have q0:0<m.code.length:=by omega
 have w1:(m.code.length:Int)≤281474976710656:=by omega
 have w2:48*(m.code.length:Int)≤281474976710656:=by omega
 have w3:m.code.length≤281474976710656:=by omega
 have w4:m.code.length≤9223372036854775807:=by omega
 refine Q11k tok Tryz.func128 rfl 96 Z24 Z24 fun X hX h0=> ?_
 refine Q0 [0,4,5,6] (jh hX Z10) ?_
 refine Q0 [0,4,5,6,7] (jh hX Z10) ?_
 refine jT 7 (Q17 [0,2,5] (.alt 1 (.alt 3 (Q17 [4] (.alt 6 .tail .stop)) (.alt 6 (.alt 3 (Q17 [4] .tail) .stop) .stop)) (.alt 3 (.alt 1 (Q17 [4] (.alt 6 .tail .stop)) (.alt 6 (.alt 1 (Q17 [4] .tail) .stop) .stop)) (.alt 6 (.alt 1 (.alt 3 (Q17 [4] .tail) .stop) (.alt 3 (.alt 1 (Q17 [4] .tail) .stop) .stop)) .stop)))) [0,4,5,6,8] [] hX (jTp [0,2,5] _ Z2l (jTa 1 (p:=fun X hX=>(jh hX Z10)) (k:=(jTa 3 (p:=fun X hX=>(jh hX Z10)) (k:=(jTp [4] _ Z2l (jTa 6 (p:=fun X hX=>(jh hX Z10)) (k:=.tail) (kr:=.stop)))) (kr:=(jTa 6 (p:=fun X hX=>(jh hX Z10)) (k:=(jTa 3 (p:=fun X hX=>(jh hX Z10)) (k:=(jTp [4] _ Z2l (jTw 4 5 Z11 .tail))) (kr:=.stop))) (kr:=.stop))))) (kr:=(jTa 3 (p:=fun X hX=>(jh hX Z10)) (k:=(jTa 1 (p:=fun X hX=>(jh hX Z10)) (k:=(jTp [4] _ Z2l (jTa 6 (p:=fun X hX=>(jh hX Z10)) (k:=(jTw 3 4 Z11 .tail)) (kr:=.stop)))) (kr:=(jTa 6 (p:=fun X hX=>(jh hX Z10)) (k:=(jTa 1 (p:=fun X hX=>(jh hX Z10)) (k:=(jTp [4] _ Z2l (jTw 3 5 Z11 (jTw 4 5 Z11 .tail)))) (kr:=.stop))) (kr:=.stop))))) (kr:=(jTa 6 (p:=fun X hX=>(jh hX Z10)) (k:=(jTa 1 (p:=fun X hX=>(jh hX Z10)) (k:=(jTa 3 (p:=fun X hX=>(jh hX Z10)) (k:=(jTp [4] _ Z2l (jTw 3 4 Z11 (jTw 4 5 Z11 .tail)))) (kr:=.stop))) (kr:=(jTa 3 (p:=fun X hX=>(jh hX Z10)) (k:=(jTa 1 (p:=fun X hX=>(jh hX Z10)) (k:=(jTp [4] _ Z2l (jTw 3 5 Z11 .tail))) (kr:=.stop))) (kr:=.stop))))) (kr:=.stop))))))) (jh hX Z10) ?_
 refine Q15 (Le.nil2 4 3 Z7 Z15) ?_
 obtain ⟨z1,hz1⟩: ∃x,x=List.replicate m.code.length false:=⟨_,rfl⟩
 obtain ⟨z2,hz2⟩: ∃x:List Frm,x=List.replicate m.code.length ⟨[],[]⟩:=⟨_,rfl⟩
 have lz1:z1.length=m.code.length:=by rw[hz1];simp
 have lz2:z2.length=m.code.length:=by rw[hz2];simp
 rw[show List.replicate m.code.length (V.bool false)=z1.map bW from by rw[hz1];simp,show List.replicate m.code.length (Qwp 3)=z2.map eFr from by rw[hz2];simp[Qwp]]
 have tz1:List.take m.code.length (z1.map bW)=z1.map bW:=List.take_of_length_le (by simp[lz1])
 have tz2:List.take m.code.length (z2.map eFr)=z2.map eFr:=List.take_of_length_le (by simp[lz2])
 refine Q15 (Le.absorb 6 0 0 Zbo) ?_
 refine Q15 (Le.absorb 6 0 1 Zbo) ?_
 refine Q15 (Le.absorb 6 0 4 Zbo) ?_
 have hz:CI l m ⟨z1,z2,z1⟩:=by rw[hz1,hz2];exact Q14x l m
 have hst:=hp.start
 have hcm:cmS l ⟨z1,z2,z1⟩ 0 (stF c m)=Qpm m.code.length (stF c m):=by rw[hz1,hz2];exact Q14t q0 _
 refine Q0 [0,4,5,6,8] (js hX 5 Z10 (jF (c:=(by have h:=Qjy (n:=c.name) (m:=m) Zb Zb;rw[←d1] at h;exact h)) (a:=Qkc) (k:=(jc [6] (c:=(by (try simp only[mapL_repB,mapL_repN,mapL_T,mapL_iV,mapL_oFr,mapL_bW,mapL_eFr]);apply (Q92 (l:=l) (m:=m) (s:=⟨z1,z2,z1⟩) (n:=0) (f:=stF c m))<;>exact Z1i)) (a:=Q96) (k:=jf))))) ?_
 rw[hcm]
 refine Q15 (Le.trans (Le.trim 7 Z1r _ Z3) (Le.of_eq Z7)) ?_
 refine Q7 (Qh (α:=CkS) [0,4,5,6,8] (fun s=>[]) (fun s=>[(6,some (5,[.agg [.lst true 1 (s.seen.map bW),.lst true 2 (s.frs.map eFr),.int .i64 0,.int .i64 0,.lst true 1 (s.waits.map bW)]]))]) (fun s=>CI l m s∧Q8l l c m (Q6a l m.code.length s) s=ckW l c m) (fun s=>Q6a l m.code.length s) (Qpm m.code.length (stF c m)) (fun s=>by simp;rfl) Z3 ?_ ?_)
 ·exact ⟨hp.begin,rfl⟩
 rintro s ⟨hC,hR⟩
 obtain ⟨c1,c2,c3,c4⟩:=id hC
 refine Q15 (Le.expose 6 0 4 Z1g) ?_
 refine Q7 (Q0 [0,4,5,6,8,9] (js hX 4 Z10 (jB (c:=(by apply (Qbj (w:=s.waits))<;>exact Z1i)) (a:=Qbm) (k:=(jh hX Z10)))) ?_)
 refine Q4 (Q0 [0,4,5,6,8,9,39] (jh hX Z10) ?_)
 refine jd (fun h5=> ?_) (fun h5=> ?_)
 ·try simp at h5
  refine Q15 (Le.expose 6 0 0 Z1g) ?_
  refine Q15 (Le.expose 6 0 1 Z1g) ?_
  refine Q0 [6] (jh hX (by simp[q0,w1,w2,w3,w4,h5];rfl)) ?_
  refine Q5 (Q1b (by simp[q0,w1,w2,w3,w4,h5];rfl) ?_ rfl)
  have e9:Q7g s.waits= -1:=by have:=Qgn (p:=fun b:Bool=>b) (l:=s.waits);unfold Q7g at h5⊢;omega
  rw[←hR,Q138 e9]
  exact Wk.refl _
 ·try simp at h5
  obtain ⟨i0,hf,hwi,hw2⟩:=Qvf (show¬Q7g s.waits<0 by omega)
  rw[hf]
  have hb:i0<m.code.length:=by omega
  have hG0:=PL.seen hC hb hw2
  have n2:i0<s.frs.length:=by omega
  have hG:FG l m s.frs[i0]:=by rwa [Qa n2] at hG0
  have hC9:=(hp.flow hb hG).2.2
  have hFF:=Qox hs hC9
  have hFM:=Qyk hs hC9
  rw[hp.sf] at hFF hFM
  obtain ⟨hP1,hP2,hP3,hP4,hP5,hP6,hP7,hP8,hP9,hP10,⟨hP11,hP14⟩,hP12,hP13⟩:=hFF
  obtain ⟨hQ1,hQ2,hQ3,hQ4,hQ5⟩:=hFM
  have hl2:(fAt l c m i0).l.length≤1048576:=by show l.length≤_;omega
  refine Q3 (Q0 [0,4,5,6,8,9] (jh hX Z2b) ?_)
  rw[show (List.map bW s.waits).set i0 (V.bool false)=(unw s i0).waits.map bW from by simp[unw,List.map_set]]
  have lu:(unw s i0).waits.length=s.waits.length:=by simp[unw]
  have tu:List.take s.waits.length ((unw s i0).waits.map bW)=(unw s i0).waits.map bW:=List.take_of_length_le (by simp[lu])
  refine Q15 (Le.absorb 6 0 4 (by simp[lu,tu];rfl)) ?_
  refine Q15 (Le.expose 6 0 1 Z1g) ?_
  refine jT 17 (Q17 [0,1,2,3,4,5,6,7,8,9,10,11] (.alt 12 (Q17 [13] (.alt 14 (.alt 15 (.alt 16 .tail .stop) (.alt 16 (.alt 15 .tail .stop) .stop)) (.alt 16 (.alt 14 (.alt 15 .tail .stop) .stop) .stop))) (.alt 16 (.alt 12 (Q17 [13] (.alt 14 (.alt 15 .tail .stop) .stop)) .stop) .stop))) [0,4,5,6,8,9,10] [0,1,6,8] hX (jTp [0,1,2,3,4,5,6,7,8,9,10,11] _ Z8s (jTa 12 (p:=fun X hX=>(jc [] (c:=Zp) (a:=Qx) (k:=jf))) (k:=(jTp [13] _ Z8s (jTa 14 (p:=fun X hX=>(Q8.weak (jh hX Z2b) (Le.trans (Le.nilF 11 0 19 3 (by simp[St.nilF];rfl)) (Le.trans (Le.absorb 11 0 17 Z7) (Le.absorb 11 0 18 Z7))))) (k:=(jTa 15 (p:=fun X hX=>(jc [11] (c:=Z1p) (a:=Q70) (k:=jf))) (k:=(jTa 16 (p:=fun X hX=>(jh hX Z2b)) (k:=.tail) (kr:=.stop))) (kr:=(jTa 16 (p:=fun X hX=>(jh hX Z2b)) (k:=(jTa 15 (p:=fun X hX=>(jc [11] (c:=Z1p) (a:=Q70) (k:=jf))) (k:=(jTw 12 13 Z11 (jTw 13 14 Z11 .tail))) (kr:=.stop))) (kr:=.stop))))) (kr:=(jTa 16 (p:=fun X hX=>(jh hX Z2b)) (k:=(jTa 14 (p:=fun X hX=>(Q8.weak (jh hX Z2b) (Le.trans (Le.nilF 12 0 19 3 (by simp[St.nilF];rfl)) (Le.trans (Le.absorb 12 0 17 Z7) (Le.absorb 12 0 18 Z7))))) (k:=(jTa 15 (p:=fun X hX=>(jc [12] (c:=Z1p) (a:=Q70) (k:=jf))) (k:=(jTw 11 12 Z11 (jTw 12 13 Z11 (jTw 13 14 Z11 .tail)))) (kr:=.stop))) (kr:=.stop))) (kr:=.stop)))))) (kr:=(jTa 16 (p:=fun X hX=>(jh hX Z2b)) (k:=(jTa 12 (p:=fun X hX=>(jc [] (c:=Zp) (a:=Qx) (k:=jf))) (k:=(jTp [13] _ Z8s (jTa 14 (p:=fun X hX=>(Q8.weak (jh hX Z2b) (Le.trans (Le.nilF 12 0 19 3 (by simp[St.nilF];rfl)) (Le.trans (Le.absorb 12 0 17 Z7) (Le.absorb 12 0 18 Z7))))) (k:=(jTa 15 (p:=fun X hX=>(jc [12] (c:=Z1p) (a:=Q70) (k:=jf))) (k:=(jTw 9 10 Z11 (jTw 10 11 Z11 (jTw 11 12 Z11 (jTw 12 13 Z11 (jTw 13 14 Z11 .tail)))))) (kr:=.stop))) (kr:=.stop)))) (kr:=.stop))) (kr:=.stop))))) (jh hX Z2b) ?_
  refine Q15 (Le.absorb 14 0 0 Z7) ?_
  refine Q15 (Le.absorb 14 0 1 Z7) ?_
  refine Q15 (Le.frzO h0 14 (by simp[St.frzO];rfl)) ?_
  refine Q15 (Le.absorb 6 0 1 Z7) ?_
  rw[hQ5]
  have hfl:=hp.flw hb hG
  have he:=Q137 (l:=l) (c:=c) hC hb hw2 hf
  have hlu:=Q136 (l:=l) (c:=c) hC hb hw2 hf
  have hgo:=fun s2=>hp.go (s2:=s2) hC hb hw2 hf
  rw[Qa n2] at he hlu hgo
  obtain ⟨x,hx⟩: ∃x,Q7h (fAt l c m i0) s.frs[i0]=x:=⟨_,rfl⟩
  rw[hx] at hfl he hlu hgo
  rw[hx]
  refine Q4 (Q0 [0,4,5,6,8,9,10,68] (jh hX Z2b) ?_)
  refine jd (fun h9=> ?_) (fun h9=> ?_)
  ·try simp at h9
   refine Q0 [6] (jh hX Z2b) ?_
   refine Q5 (Q1b Z2b ?_ rfl)
   rw[←hR,he h9]
   exact Wk.agg (.cons (Wk.nilSlice _ _) (.cons (Wk.nilSlice _ _) (.cons (Wk.refl _) (.cons (Wk.refl _) .nil))))
  ·try simp at h9
   have h14:x.k=0:=by simpa using h9
   obtain ⟨f1,f2,f3,f4⟩:=hfl h14
   obtain ⟨u1,u2⟩:=Qml hC hb hw2
   refine Q3 (Q0 [0,4,5,6,8,9,10,74,75,76] (jh hX Z2b) ?_)
   refine Q7 (Qh (α:=Nat×CkS) [0,4,5,6,8,9,10,74,75,76] (fun p=>[(76,.int .i64 (p.1:Nat))]) (fun p=>[(6,some (5,[.agg [.lst true 1 (p.2.seen.map bW),.lst true 2 (p.2.frs.map eFr),.int .i64 0,.int .i64 0,.lst true 1 (p.2.waits.map bW)]]))]) (fun p=>p.1≤x.nx.length∧CI l m p.2∧Q6a l m.code.length p.2≤Q6a l m.code.length (unw s i0)∧Q68 l (x.nx.drop p.1) (x.fs.drop p.1) p.2=Q68 l x.nx x.fs (unw s i0)) (fun p=>x.nx.length-p.1) (0,unw s i0) (fun p=>by simp;rfl) (by simp[unw]) ?_ ?_)
   ·exact ⟨by simp,u1,Nat.le_refl _,rfl⟩
   rintro ⟨k,s2⟩ ⟨hk1,hk2,hk3,hk4⟩
   simp only at hk1 hk2 hk3 hk4
   refine Q0 [0,4,5,6,8,9,10,74,75,76,77] (jh hX Z2b) ?_
   refine Q4 (jd (fun h12=> ?_) (fun h12=> ?_))
   ·try simp at h12
    have kf:k<x.fs.length:=by omega
    obtain ⟨p,hpx⟩: ∃p:Nat,x.nx[k]=p:=⟨x.nx[k].toNat,by have:=f1 _ (List.getElem_mem h12);omega⟩
    have hpn:p<m.code.length:=by have:=f1 _ (List.getElem_mem h12);omega
    have hg:FG l m x.fs[k]:=f2 _ (List.getElem_mem kf)
    have hcd:=Qs5 (l:=l) h12 kf s2
    rw[hk4,hpx,Int.toNat_natCast] at hcd
    refine Q3 (Q4 (Q7 (Q0 [0,4,5,6,8,9,10,11,12,74,75,76] (jh hX Z3q) ?_)))
    refine Q0 [0,4,5,6,8,9,10,13,74,75,76] (js hX 8 Z3q (jc [6] (c:=(by (try simp only[mapL_repB,mapL_repN,mapL_T,mapL_iV,mapL_oFr,mapL_bW,mapL_eFr]);apply (Q92 (l:=l) (m:=m) (s:=s2) (n:=p) (f:=x.fs[k]))<;>exact Z1i)) (a:=Q96) (k:=(jh hX Z3q)))) ?_
    refine Q0 [0,4,5,6,8,9,10,13,74,75,76,91] (jh hX Z3q) ?_
    refine jd (fun h15=> ?_) (fun h15=> ?_)
    ·try simp at h15
     refine Q0 [6] (jh hX Z3q) ?_
     refine Q5 (Q1b Z3q ?_ rfl)
     obtain ⟨v1,v2⟩:=Q14v (show¬cmK l s2 p x.fs[k]=0 by simpa using h15)
     rw[v1] at hcd
     rw[v2,←hR,hlu h14 hcd]
     exact Wk.agg (.cons (Wk.nilSlice _ _) (.cons (Wk.nilSlice _ _) (.cons (Wk.refl _) (.cons (Wk.refl _) .nil))))
    ·try simp at h15
     have v1:=Q14u (show cmK l s2 p x.fs[k]=0 by simpa using h15)
     rw[v1] at hcd
     obtain ⟨v2,v3⟩:=Qqg hw ⟨q5,q7⟩ hk2 hpn hg v1
     refine Q3 (Qb (jh hX (by simp[q0,w1,w2,w3,w4,h5,hwi,n2,h12,kf,hpx];(try (simp (disch:=omega) only[Qc];(try simp[q0,w1,w2,w3,w4,h5,hwi,n2,h12,kf,hpx])));rfl)) ?_)
     refine Qm ((k+1,cmS l s2 p x.fs[k])) [0,4,5,6,8,9,10,74,75,76] 15 Z1r Z3 (by simp[q0,w1,w2,w3,w4,h5,hwi,n2,h12,kf,hpx];try (simp (disch:=omega) only[Qc])) ?_ ?_
     ·exact ⟨by simp only;omega,v2,Nat.le_trans v3 hk3,hcd.symm⟩
     ·simp only;omega
   ·try simp at h12
    have hk4b:=hk4
    rw[Qub Zb] at hk4b
    obtain ⟨g1,g2⟩:=hgo s2 h14 hk4b.symm hk2 hk3
    refine Ql (Qm (s2) [0,4,5,6,8] 7 Z1r Z3 (by simp[q0,w1,w2,w3,w4,h5,hwi,n2,h12];try (simp (disch:=omega) only[Qc])) ?_ ?_)
    ·exact ⟨hk2,by rw[←g1];exact hR⟩
    ·exact g2
theorem Qod:Q6 Tryz.prog 69:=jcb Tryz.func69
theorem Qnr{l:List Cls}(hl:Q1w l≤1048576)(h4: ¬400<l.length):Ct Tryz.prog 69 [.lst false 6 (l.map eC)] [] (eAl (caW l)) []:=by
 have hll:l.length≤1099511627776:=by unfold Q1w at hl;omega
 have hwc:=Qj7 l
 rw[if_neg h4] at hwc
 refine jbS Tryz.func69 56 fun X hX=> ?_
 refine jq [0,2] ?_
 refine Q0 [0,2,3] (jt 1 (k:=(jF (c:=(by apply Qpj<;>exact Z1i)) (a:=Qpx) (k:=jr)))) ?_
 refine Q4 (Q0 [0,2,3,4] (jt 1 (k:=(jF (c:=(by have h:=Qip (l:=l) Zb Zb;rw[hwc] at h;exact h)) (a:=Qj0) (k:=jr)))) ?_)
 refine jq [0,2,3,4,16] ?_
 refine jd (fun h3=> ?_) (fun h3=> ?_)
 ·try simp at h3
  refine jq [2] ?_
  refine Q5 (je0 ?_)
  rw[caW,if_neg h4,if_neg Z9d];rfl
 ·try simp at h3
  have hw:Qs l=true:=by rw[Qs];exact decide_eq_true Z9d
  have hW2:(Q31 l).2=0:=by simpa using h3
  have hlen:=Q66 hw
  refine Q3 (Q4 (jq [2,3,22,23,24] ?_))
  refine Q7 (Qh (α:=Nat) [2,3,22,23,24] (fun i=>[(24,.int .i64 (i:Nat))]) (fun i=>[]) (fun i=>i≤l.length∧caC l (l.drop i) i=caC l l 0) (fun i=>l.length-i) (0) (fun i=>by simp;rfl) Z3 ?_ ?_)
  ·simp
  rintro i ⟨hi,hI⟩
  refine jq [2,3,22,23,24,25] ?_
  refine Q4 (jd (fun h6=> ?_) (fun h6=> ?_))
  ·try simp at h6
   have p1:i<l.length:=by omega
   have hmz:l[i].methods.length≤1048576:=Nat.le_trans (Qwu p1) hl
   refine Q3 (Q4 (Q7 (Q0 [2,3,5,6,22,23,24] (jh hX (by simp[h6,p1];rfl)) ?_)))
   refine Q0 [2,3,5,6,22,23,24,30,31,32] (jh hX (by simp[h6,p1];rfl)) ?_
   refine Q7 (Qh (α:=Nat) [2,3,5,6,22,23,24,30,31,32] (fun j=>[(32,.int .i64 (j:Nat))]) (fun j=>[]) (fun j=>j≤l[i].methods.length∧caM l l[i] i (l[i].methods.drop j) j=caM l l[i] i l[i].methods 0) (fun j=>l[i].methods.length-j) (0) (fun j=>by simp;rfl) Z3 ?_ ?_)
   ·simp
   rintro j ⟨hj,hJ⟩
   refine Q0 [2,3,5,6,22,23,24,30,31,32,33] (jh hX (by simp[h6,p1];rfl)) ?_
   refine Q4 (jd (fun h9=> ?_) (fun h9=> ?_))
   ·try simp at h9
    have p2:j<l[i].methods.length:=by omega
    refine Q3 (Q4 (Q7 (Q0 [2,3,5,6,7,8,22,23,24,30,31,32] (jh hX Z6w) ?_)))
    refine Q4 (Q0 [2,3,5,6,7,8,22,23,24,30,31,32,38] (jh hX Z6w) ?_)
    refine jd (fun h11=> ?_) (fun h11=> ?_)
    ·try simp at h11
     refine Ql (Qb (jh hX Z6o) ?_)
     refine Qm (j+1) [2,3,5,6,22,23,24,30,31,32] 3 Z1r Z3 Z96 ?_ ?_
     ·first|exact ⟨by omega,by rw[←Qhs p2 (.inl h11)];exact hJ⟩|exact ⟨by omega,by rw[←Qhs p2 (.inr Zc9)];exact hJ⟩
     ·omega
    ·try simp at h11
     have hp:PL l i j l[i] l[i].methods[j]:=⟨hw,hl,p1,p2,rfl,rfl,by simpa using h11⟩
     refine Q3 (Q0 [2,3,5,6,7,9,22,23,24,30,31,32] (js hX 3 Z6w (jF (c:=(by apply (Qbk (i:=i) (j:=j) hp)<;>skip)) (a:=Qbn) (k:=(jh hX Z6w)))) ?_)
     obtain ⟨x,hx⟩: ∃x,ckW l l[i] l[i].methods[j]=x:=⟨_,rfl⟩
     rw[hx]
     refine Q0 [2,3,5,6,7,9,22,23,24,30,31,32,45] (jh hX Z6w) ?_
     refine jd (fun h13=> ?_) (fun h13=> ?_)
     ·try simp at h13
      refine Q0 [2] (jh hX Z6w) ?_
      refine Q5 (je Z6w ?_)
      rw[←hx] at h13⊢
      have e1:=Q13a (l:=l) (c:=l[i]) (i:=i) p2 (by simpa using h11) Zc9
      rw[hJ] at e1
      rw[caW,if_neg Zb,if_pos hW2,←hI,Q13b p1 e1]
      rfl
     ·try simp at h13
      rw[←hx] at h13
      refine Q3 (Qb (jh hX Z6o) ?_)
      refine Qm (j+1) [2,3,5,6,22,23,24,30,31,32] 3 Z1r Z3 Z96 ?_ ?_
      ·first|exact ⟨by omega,by rw[←Qhs p2 (.inl h11)];exact hJ⟩|exact ⟨by omega,by rw[←Qhs p2 (.inr Zc9)];exact hJ⟩
      ·omega
   ·try simp at h9
    have hM:caM l l[i] i l[i].methods 0=none:=by rw[←hJ];exact Qzw Zb
    refine Ql (Qb (jh hX (by simp[h6,p1,h9];(try (simp (disch:=omega) only[Qc];(try simp[h6,p1,h9])));rfl)) ?_)
    refine Qm (i+1) [2,3,22,23,24] 2 Z1r Z3 (by simp[h6,p1,h9];try (simp (disch:=omega) only[Qc])) ?_ ?_
    ·exact ⟨by omega,by rw[←Q13c p1 hM];exact hI⟩
    ·omega
  ·try simp at h6
   refine Ql (Q0 [2] (jh hX (by simp[h6];rfl)) ?_)
   refine Q5 (je (by simp[h6];rfl) ?_)
   rw[caW,if_neg h4,if_pos hW2,←hI,Qzx Zb]
   rfl
theorem Qoh:Q6 Tryz.prog 24:=jcb Tryz.func24
theorem Qnv{l:List Cls}(hl:Q1w l≤1048576):Ct Tryz.prog 24 [.lst false 6 (l.map eC)] [] (eAl (caW l)) []:=by
 have hll:l.length≤1099511627776:=by unfold Q1w at hl;omega
 refine jbS Tryz.func24 9 fun X hX=> ?_
 refine jq [0,2] ?_
 refine Q4 (Q0 [0,2,5] (jt 1 (k:=(jc [] (c:=(by apply Qbl<;>exact Z1i)) (a:=Qbo) (k:=jr)))) ?_)
 refine jd (fun h1=> ?_) (fun h1=> ?_)
 ·try simp at h1
  refine jq [2] ?_
  refine Q5 (je0 ?_)
  rw[caW,if_pos Z6y];rfl
 ·try simp at h1
  refine Q3 (Q0 [2] (jt 1 (k:=(jc [] (c:=(by apply Qnr<;>exact Z1i)) (a:=Qod) (k:=jr)))) ?_)
  refine Q5 (je0 ?_)
  rfl
theorem Qoa:Q6 Tryz.prog 25:=jcb Tryz.func25
theorem Qnn{x y:AlO}:Ct Tryz.prog 25 [eAl x,eAl y] [] (.bool (decide (x=y))) []:=by
 refine jbS Tryz.func25 25 fun X hX=> ?_
 refine jq [2,3] ?_
 refine Q4 (jq [2,3,9] ?_)
 refine jd (fun h1=> ?_) (fun h1=> ?_)
 ·try simp at h1
  refine jq [4] ?_
  refine Q5 (je0 ?_)
  cases x;cases y;simp_all
 ·try simp at h1
  refine Q3 (Q4 (jq [2,3,14] ?_))
  refine jd (fun h3=> ?_) (fun h3=> ?_)
  ·try simp at h3
   refine jq [4] ?_
   refine Q5 (je0 ?_)
   cases x;cases y;simp_all
  ·try simp at h3
   refine Q3 (Q4 (jq [2,3,19] ?_))
   refine jd (fun h5=> ?_) (fun h5=> ?_)
   ·try simp at h5
    refine jq [4] ?_
    refine Q5 (je0 ?_)
    cases x;cases y;simp_all
   ·try simp at h5
    refine Q3 (Q4 (jq [24] ?_))
    refine jd (fun h7=> ?_) (fun h7=> ?_)
    ·try simp at h7
     refine jq [4] ?_
     refine Q5 (je0 ?_)
     cases x;cases y;simp_all
    ·try simp at h7
     refine Q3 (jq [4] ?_)
     refine Q5 (je0 ?_)
     cases x;cases y;simp_all
theorem Qdh{l:List Cls}(hl:l.length<4611686018427387904)(bl: ∀y∈l,Qpz y):Ct Tryz.prog 4 [.lst false 6 (l.map eC)] [] (.bool true) []:=by
 refine jbS Tryz.func4 28 fun X hX=> ?_
 refine jq [0] ?_
 refine jq [0,3] ?_
 refine Q0 [0,3] (jt 2 (k:=(jc [] (c:=(by apply Qnj<;>exact Z1i)) (a:=Qo6) (k:=jr)))) ?_
 refine Q4 (jq [0,11] ?_)
 refine jd (fun h3=> ?_) (fun h3=> ?_)
 ·try simp at h3
  refine jq [2] ?_
  refine Q5 (je Z3i ?_)
  first|omega|(simp_all;done)|(simp_all<;>omega)
 ·try simp at h3
  have k3:=Q163 h3
  have hsL:Q1w l≤1048576:=by have:=k3.1;unfold Q1w;omega
  refine Q3 (Q0 [0,4] (jt 1 (k:=(jF (c:=Zcv) (a:=Q9f) (k:=(jc [] (c:=(by apply Qnd<;>exact Z1i)) (a:=Qo1) (k:=(jh hX Z3i))))))) ?_)
  refine Q0 [0,4,5] (jt 1 (k:=(jF (c:=Zcv) (a:=Q9f) (k:=jr)))) ?_
  refine Q0 [0,4,5,6] (jt 1 (k:=(jc [] (c:=(by apply Qnv<;>exact Z1i)) (a:=Qoh) (k:=(jh hX Z3i))))) ?_
  refine Q4 (Q0 [0,5,22] (js hX 2 Z3i (jc [] (c:=(by apply Qnn<;>exact Z1i)) (a:=Qoa) (k:=jr))) ?_)
  refine jd (fun h8=> ?_) (fun h8=> ?_)
  ·try simp at h8
   all_goals
    refine jq [2] ?_
    refine Q5 (je Z3i ?_)
    first|omega|(simp_all;done)|(simp_all<;>omega)
  ·try simp at h8
   all_goals
    refine Q3 (Q4 (Q0 [27] (jt 2 (k:=(jF (c:=Zcv) (a:=Q9f) (k:=(jc [] (c:=(by apply Qnm<;>exact Z1i)) (a:=Qo9) (k:=jr)))))) ?_))
    refine jd (fun h10=> ?_) (fun h10=> ?_)
    ·try simp at h10
     all_goals
      refine jq [2] ?_
      refine Q5 (je Z3i ?_)
      first|omega|(simp_all;done)|(simp_all<;>omega)
    ·try simp at h10
     all_goals
      refine Q3 (jq [2] ?_)
      refine Q5 (je Z3i ?_)
      first|omega|(simp_all;done)|(simp_all<;>omega)
end Go.Proofs
namespace Go.Proofs
open Go Go.Ev
abbrev tcF:List Tc:=[.str,.str,.bool]
abbrev tcI:List Tc:=[.int .i64,.int .i64,.str,.str,.str]
abbrev tcH:List Tc:=[.int .i64,.int .i64,.int .i64,.str]
abbrev tcM:List Tc:=[.str,.str,.bool,.bool,.bool,.int .i64,.int .i64,.lst false tcI,.lst false tcH]
abbrev tcC:List Tc:=[.str,.str,.bool,.bool,.lst false tcF,.lst false tcM]
theorem Qxa{α:Type}{enc:α→V}{Q:α→Prop}: ∀{xs:List V},(∀x∈xs,∃a,x=enc a∧Q a)→ ∃l:List α,xs=l.map enc∧ ∀a∈l,Q a
 |[],_=>⟨[],rfl,fun _ h=>by cases h⟩
 |x::xs,h=>by
  obtain ⟨a,rfl,ha⟩:=h x Z3
  obtain ⟨l,rfl,hl⟩:=Qxa (enc:=enc) (Q:=Q) (xs:=xs) fun y hy=>h y Zca
  exact ⟨a::l,rfl,fun b hb=>by
   rcases List.mem_cons.1 hb with rfl|hb
   ·exact ha
   ·exact hl b hb⟩
theorem Q2d{c:Tc}{cs:List Tc}{vs:List V}(h:okL (c::cs) vs): ∃v ws,vs=v::ws∧okC c v∧okL cs ws:=by
 cases vs with
 |nil=>simp[okL] at h
 |cons v ws=>exact ⟨v,ws,rfl,h⟩
theorem Qkv{vs:List V}(h:okL [] vs):vs=[]:=by
 cases vs with
 |nil=>rfl
 |cons v ws=>simp[okL] at h
theorem Q9h{v:V}(h:okC .str v): ∃l,v= .str l∧l.length≤140737488351232:=h
theorem Qd1{v:V}(h:okC .bool v): ∃b,v= .bool b:=h
theorem Qe9{v:V}(h:okC (.int .i64) v): ∃n,v= .int .i64 n∧ -9223372036854775808≤n∧n<9223372036854775808:=by
 obtain ⟨n,rfl,hn⟩:=h
 refine ⟨n,rfl,?_⟩
 simp[Lit.wf,IntKind.min,IntKind.max,IntKind.signed,IntKind.bits] at hn
 omega
theorem Qkw{α:Type}{enc:α→V}{Q:α→Prop}{cs:List Tc}{v:V}(h:okC (.lst false cs) v)(hd: ∀vs,okL cs vs→ ∃a,V.agg vs=enc a∧Q a):
  ∃l:List α,v= .lst false cs.length (l.map enc)∧l.length≤140737488351232∧ ∀a∈l,Q a:=by
 obtain ⟨xs,rfl,hl,hx⟩:=h
 obtain ⟨l,rfl,hq⟩:=Qxa (enc:=enc) (Q:=Q) (xs:=xs) fun x hx'=>by
  have:=hx x hx'
  simp only[Bool.false_eq_true,if_false] at this
  obtain ⟨vs,rfl,hv⟩:=this
  exact hd vs hv
 exact ⟨l,rfl,by rw[List.length_map] at hl;exact hl,hq⟩
theorem decF{vs:List V}(h:okL tcF vs): ∃x:Fld,V.agg vs=eF x∧bigF x:=by
 obtain ⟨_,_,rfl,h0,h⟩:=Q2d h
 obtain ⟨_,_,rfl,h1,h⟩:=Q2d h
 obtain ⟨_,_,rfl,h2,h⟩:=Q2d h
 obtain rfl:=Qkv h
 obtain ⟨a,rfl,ha⟩:=Q9h h0
 obtain ⟨b,rfl,hb⟩:=Q9h h1
 obtain ⟨c,rfl⟩:=Qd1 h2
 exact ⟨⟨a,b,c⟩,rfl,by simp only[bigF];omega⟩
theorem decI{vs:List V}(h:okL tcI vs): ∃x:Ins,V.agg vs=eI x∧bigI x:=by
 obtain ⟨_,_,rfl,h0,h⟩:=Q2d h
 obtain ⟨_,_,rfl,h1,h⟩:=Q2d h
 obtain ⟨_,_,rfl,h2,h⟩:=Q2d h
 obtain ⟨_,_,rfl,h3,h⟩:=Q2d h
 obtain ⟨_,_,rfl,h4,h⟩:=Q2d h
 obtain rfl:=Qkv h
 obtain ⟨a,rfl,ha⟩:=Qe9 h0
 obtain ⟨b,rfl,hb⟩:=Qe9 h1
 obtain ⟨c,rfl,hc⟩:=Q9h h2
 obtain ⟨d,rfl,hd⟩:=Q9h h3
 obtain ⟨e,rfl,he⟩:=Q9h h4
 exact ⟨⟨a,b,c,d,e⟩,rfl,by simp only[bigI];omega⟩
theorem decH{vs:List V}(h:okL tcH vs): ∃x:Hdl,V.agg vs=eH x∧bigH x:=by
 obtain ⟨_,_,rfl,h0,h⟩:=Q2d h
 obtain ⟨_,_,rfl,h1,h⟩:=Q2d h
 obtain ⟨_,_,rfl,h2,h⟩:=Q2d h
 obtain ⟨_,_,rfl,h3,h⟩:=Q2d h
 obtain rfl:=Qkv h
 obtain ⟨a,rfl,ha⟩:=Qe9 h0
 obtain ⟨b,rfl,hb⟩:=Qe9 h1
 obtain ⟨c,rfl,hc⟩:=Qe9 h2
 obtain ⟨d,rfl,hd⟩:=Q9h h3
 exact ⟨⟨a,b,c,d⟩,rfl,by simp only[bigH];omega⟩
theorem decM{vs:List V}(h:okL tcM vs): ∃x:Mth,V.agg vs=eM x∧Qsk x:=by
 obtain ⟨_,_,rfl,h0,h⟩:=Q2d h
 obtain ⟨_,_,rfl,h1,h⟩:=Q2d h
 obtain ⟨_,_,rfl,h2,h⟩:=Q2d h
 obtain ⟨_,_,rfl,h3,h⟩:=Q2d h
 obtain ⟨_,_,rfl,h4,h⟩:=Q2d h
 obtain ⟨_,_,rfl,h5,h⟩:=Q2d h
 obtain ⟨_,_,rfl,h6,h⟩:=Q2d h
 obtain ⟨_,_,rfl,h7,h⟩:=Q2d h
 obtain ⟨_,_,rfl,h8,h⟩:=Q2d h
 obtain rfl:=Qkv h
 obtain ⟨a,rfl,ha⟩:=Q9h h0
 obtain ⟨b,rfl,hb⟩:=Q9h h1
 obtain ⟨c,rfl⟩:=Qd1 h2
 obtain ⟨d,rfl⟩:=Qd1 h3
 obtain ⟨e,rfl⟩:=Qd1 h4
 obtain ⟨f,rfl,_⟩:=Qe9 h5
 obtain ⟨g,rfl,_⟩:=Qe9 h6
 obtain ⟨i,rfl,hi,hi2⟩:=Qkw h7 fun vs=>decI
 obtain ⟨j,rfl,hj,hj2⟩:=Qkw h8 fun vs=>decH
 exact ⟨⟨a,b,c,d,e,f,g,i,j⟩,rfl,by simp only[Qsk];exact ⟨by omega,by omega,by omega,hi2,by omega,hj2⟩⟩
theorem decC{vs:List V}(h:okL tcC vs): ∃x:Cls,V.agg vs=eC x∧Qpz x:=by
 obtain ⟨_,_,rfl,h0,h⟩:=Q2d h
 obtain ⟨_,_,rfl,h1,h⟩:=Q2d h
 obtain ⟨_,_,rfl,h2,h⟩:=Q2d h
 obtain ⟨_,_,rfl,h3,h⟩:=Q2d h
 obtain ⟨_,_,rfl,h4,h⟩:=Q2d h
 obtain ⟨_,_,rfl,h5,h⟩:=Q2d h
 obtain rfl:=Qkv h
 obtain ⟨a,rfl,ha⟩:=Q9h h0
 obtain ⟨b,rfl,hb⟩:=Q9h h1
 obtain ⟨c,rfl⟩:=Qd1 h2
 obtain ⟨d,rfl⟩:=Qd1 h3
 obtain ⟨i,rfl,hi,hi2⟩:=Qkw h4 fun vs=>decF
 obtain ⟨j,rfl,hj,hj2⟩:=Qkw h5 fun vs=>decM
 exact ⟨⟨a,b,c,d,i,j⟩,rfl,by simp only[Qpz];exact ⟨by omega,by omega,by omega,hi2,by omega,hj2⟩⟩
theorem Q12d{x:Bool×List Tc}{r:List (Bool×List Tc)}{vs:List V}(h:okA (x::r) vs): ∃v ws,vs=v::ws∧(if x.1=true then okL x.2 [v] else∃us,v= .agg us∧okL x.2 us)∧okA r ws:=by
 cases vs with
 |nil=>simp[okA] at h
 |cons v ws=>exact ⟨v,ws,rfl,h⟩
theorem Q14g{vs:List V}(h:okA [] vs):vs=[]:=by
 cases vs with
 |nil=>rfl
 |cons v ws=>simp[okA] at h
abbrev aC:Bool×List Tc:=(true,[.lst false tcC])
theorem Q17x{r:List (Bool×List Tc)}{vs:List V}(h:okA (aC::r) vs): ∃(l:List Cls) (ws:List V),vs= .lst false 6 (l.map eC)::ws∧l.length<4611686018427387904∧(∀y∈l,Qpz y)∧okA r ws:=by
 obtain ⟨v,ws,rfl,h1,h2⟩:=Q12d h
 simp only[if_true] at h1
 obtain ⟨l,rfl,hl,hq⟩:=Qkw h1.1 fun vs=>decC
 exact ⟨l,ws,rfl,by omega,hq,h2⟩
end Go.Proofs
namespace Go.Proofs.YtkjgmpccmpmmiaaGreat
open Go Go.Ev Go.Proofs Go.RowKit Go.ChangeShapes Go.WideShapes
theorem s_k1:ownKnob Tryz.checked.prog.godebug=none:=by kernel_rfl
theorem s_h2:laidOutB Tryz.checked.prog=true:=by kernel_rfl
theorem s_h3:mapsRowed Tryz.checked.prog=true:=by kernel_rfl
theorem s_h6:((Rows.fnExactFlowEffectRow.stops==[])&&(Tryz.checked.prog.stops==[])&&(Rows.fnExactFlowEffectRow.knobs==[])&&(Tryz.checked.prog.stopKnobs==[]))=true:=by kernel_rfl
theorem Q17j:(Rows.fnExactFlowEffectRow.plainKeys==Tryz.checked.prog.plainKeys)=true:=by kernel_rfl
theorem Q17i:(Rows.fnExactFlowEffectRow.shortTexts.isNone&&Tryz.checked.prog.stopsHeard)=true:=by kernel_rfl
theorem Q166:Tryz.checked.prog.mayEnter=true:=by kernel_rfl
theorem Q17h:(Rows.fnExactFlowEffectRow.lifted==Tryz.checked.prog.liftsFinal)=true:=by kernel_rfl
theorem Q17g:(Tryz.checked.prog.make==some Rows.fnExactFlowEffectRow.make)=true:=by kernel_rfl
end Go.Proofs.YtkjgmpccmpmmiaaGreat
