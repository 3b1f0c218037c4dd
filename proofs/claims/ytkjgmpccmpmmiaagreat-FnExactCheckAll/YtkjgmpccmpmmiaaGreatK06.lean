/- Part 7 of what the proofs lean on: what the functions of the program and of the reference compute. Conditions: none. -/
import Derived.Test.YtkjgmpccmpmmiaaGreatK05
import Derived.RangeFuncBox
import Derived.RangeFuncLeaves
import Derived.Shelf.Abstract
import Derived.WalkKit
import Derived.OwnWalkIn
import Derived.TacticsInMore
import Derived.LoopNIn
import Derived.LoopIn
set_option linter.all false
set_option linter.unusedVariables false
set_option linter.unusedSimpArgs false
set_option maxHeartbeats 2000000
set_option maxRecDepth 100000
namespace Go.Proofs
open Go Go.Ev Go.RowKit Go.Shelf
attribute [local go_sem] Oper.semAt_some
def Kp2(x b:Nat)(A B:World):Prop:=B.heap[x]? =A.heap[x]? ∧B.heap[b]? =A.heap[b]?
theorem Kp2.trans{x b:Nat}{A B C:World}(h:Kp2 x b A B)(k:Kp2 x b B C):Kp2 x b A C:=⟨k.1.trans h.1,k.2.trans h.2⟩
theorem Qud{A B:World}{p:Addr}(h:B.heap[p.block]? =A.heap[p.block]?):B.cell? p=A.cell? p:=by simp[World.cell?,h]
set_option maxRecDepth 100000 in
set_option maxHeartbeats 2000000 in
theorem Q13f(F:Fence)(n:Nat)(h7:F.fn 334)(hro:F.round=none)(hn:1≤n)(l Bs bo b off len cap:Nat)(g:Nat→Value)(hreach:len≤1099511627776)(J:Nat→World→Prop)
  (hY: ∀(k:Nat) (W:World),J k W→k<len→YieldAt F (n-1) Tryz.prog l #[.int .i64 ((len:Int)-1-(k:Int)),g (len-1-k)] W fun e W'=>e= .returned (.bool true)∧J (k+1) W'∧Kp2 Bs b W W')
  (W:World) (hBs:W.cell? ⟨Bs,bo,none⟩=some (.slice (some ⟨b,off,none⟩) len cap)) (hc: ∀j,j<len→W.cell? ⟨b,off+j,none⟩=some (g j)) (h0:J 0 W):
  CallsIn F n Tryz.prog 334 #[.func (.yield l) #[] #[],.pointer (some ⟨Bs,bo,none⟩)] W fun e W'=>(∃v,e= .returned v)∧J len W':=by
 refine callsIn_of_wp Tryz.func334 rfl h7 ?_ hro
 simp only[Tryz.ntmps334,List.size_toArray,List.length_cons,List.length_nil,Nat.reduceAdd,Nat.reduceSub,Array.replicate_succ,Array.replicate_zero,List.push_toArray,List.append_toArray,List.nil_append,List.cons_append]
 gi_wp2
 gi_loopw [3] (fun i wr=> ∃k:Nat,k≤len∧i= .int .i64 ((len:Int)-1-(k:Int))∧J k wr∧Kp2 Bs b W wr)
  (fun i _=>(intOf i+1).toNat)
 case atStart=>exact ⟨0,Nat.zero_le _,by simp,h0,⟨rfl,rfl⟩⟩
 case round=>
  obtain ⟨k,hk,rfl,hJs,hnx⟩:=hrel
  have hbx:wr.cell? ⟨Bs,bo,none⟩=some (.slice (some ⟨b,off,none⟩) len cap):=(Qud (p:=⟨Bs,bo,none⟩) hnx.1).trans hBs
  by_cases hlt:k<len
  ·obtain ⟨fn,tmps,assign,body,hy,hR⟩:=hY k wr hJs hlt
   have hcx:wr.cell? ⟨b,off+(len-1-k),none⟩=some (g (len-1-k)):=(Qud (p:=⟨b,off+(len-1-k),none⟩) hnx.2).trans (hc _ Zb)
   gi_wp2
   refine hR.mono ?_
   rintro e W3 ⟨rfl,hJ3,hk3⟩
   gi_wp2
   go_roundw
   case rel=>exact ⟨k+1,by omega,by simp;omega,hJ3,hnx.trans hk3⟩
   case measure=>simp[intOf];omega
  ·obtain rfl:k=len:=by omega
   gi_wp2
   go_end0
   exact ⟨⟨_,rfl⟩,hJs⟩
set_option maxRecDepth 100000 in
set_option maxHeartbeats 2000000 in
theorem Q13g(F:Fence)(n:Nat)(h7:F.fn 334)(hro:F.round=none)(l Bs bo cap:Nat)(ad:Option Addr)(J:List Nat→World→Prop)(W:World)(hBs:W.cell? ⟨Bs,bo,none⟩=some (.slice ad 0 cap))(h0:J [] W):
  CallsIn F n Tryz.prog 334 #[.func (.yield l) #[] #[],.pointer (some ⟨Bs,bo,none⟩)] W fun e W'=>(∃v,e= .returned v)∧J [] W':=by
 refine callsIn_of_wp Tryz.func334 rfl h7 ?_ hro
 simp only[Tryz.ntmps334,List.size_toArray,List.length_cons,List.length_nil,Nat.reduceAdd,Nat.reduceSub,Array.replicate_succ,Array.replicate_zero,List.push_toArray,List.append_toArray,List.nil_append,List.cons_append]
 gi_wp2
 gi_loopw [3] (fun i wr=>i= .int .i64 (-1)∧J [] wr) (fun _ _=>0)
 case atStart=>exact ⟨rfl,h0⟩
 case round=>
  obtain ⟨rfl,hJs⟩:=hrel
  gi_wp2
  go_end0
  exact ⟨⟨_,rfl⟩,hJs⟩
theorem Q151:Qyu Tryz.prog 334:=by
 intro l Bs bo b len cap ad gv J W hlen hc hg hY h0
 rcases hg with rfl|⟨off,rfl,hcs⟩
 ·exact (Q13g Fence.wide 1 trivial rfl l Bs bo cap ad (fun _ W=>J 0 W) W hc h0).mono fun e W' ⟨he,hj⟩=>⟨he,hj⟩
 ·exact Q13f Fence.wide 1 trivial rfl (Nat.le_refl _) l Bs bo b off len cap gv hlen J hY W hc hcs h0
set_option maxRecDepth 100000 in
set_option maxHeartbeats 1000000 in
theorem Q152(ad:Option Addr)(len cap:Nat)(w:World):
  CallsIn Fence.wide 0 Tryz.prog 329 #[.slice ad len cap] w fun e w'=>e= .returned (.func (.func 334) #[] #[.pointer (some ⟨w.heap.size,0,none⟩)])∧w'=w.alloc (.cells #[.slice ad len cap] 134):=by
 refine callsIn_of_wp Tryz.func329 rfl trivial ?_ rfl
 simp only[Tryz.ntmps329,List.size_toArray,List.length_cons,List.length_nil,Nat.reduceAdd,Nat.reduceSub,Array.replicate_succ,Array.replicate_zero,List.push_toArray,List.append_toArray,List.nil_append,List.cons_append]
 gi_wp2
 go_ret
 exact ⟨rfl,rfl⟩
theorem Q16s{X:Ctx}{m:Mp}{cn:Nat→Cnt}{w:World}{xs:List V}{v:Value}{ob:List Ob}(hi:Inv X w ob m cn)(hv:v.oneCell'=true)(h:R w (frz X cn) m (.one (.lst false 1 xs) v) z0):
  R (w.alloc (.cells #[v] 134)) (frz X cn) m (.one (.clo (.func 334) [] [.fp [.lst false 1 xs]]) (.func (.func 334) #[] #[.pointer (some ⟨w.heap.size,0,none⟩)])) z0:=by
 have hsz:w.heap.size≤(w.alloc (.cells #[v] 134)).heap.size:=by simp
 have hf:frz X cn w.heap.size:=⟨.inr hi.le,fun id=>by
  rcases Nat.eq_zero_or_pos (cn id w.heap.size) with h0|h0
  ·exact h0
  ·have:=(hi.new id _ h0).1;omega⟩
 have h2:R (w.alloc (.cells #[v] 134)) (frz X cn) Q1e (.one (.lst false 1 xs) v) z0:=by
  generalize hz:z0=c at h
  cases h with
  |nil=>exact .nil
  |nilz=>exact .nilz
  |frz hl hb hk hn h=>exact .frz (Nat.lt_of_lt_of_le hl hsz) hb hk hn (h.mono hsz (fun b hb hf=>⟨hf,Q9g hb⟩) (fun b hb=>absurd hb Z3) (.inr (Q9g hl)) (fun id x hx=>by simp[Q1e] at hx))
 have hc:(w.alloc (.cells #[v] 134)).cell? ⟨w.heap.size,0,none⟩=some v:=by
  have:=World.alloc_heap_new w (.cells #[v] 134)
  simp only[World.cell?,this]
  rfl
 exact .clo (c:=z0) (d:=z0) .lnil (.lcons (c:=z0) (d:=z0) (.fp Z3 hf (.ccons (c:=z0) (d:=z0) hc hv h2 .cnil (fun _=>rfl))) .lnil (fun _=>rfl)) (fun _=>rfl)
theorem Q8q:Q6 Tryz.prog 329:=jcb Tryz.func329
theorem Q8g{l:List Str}:Ct Tryz.prog 329 [.lst false 1 (l.map V.str)] [] (.clo (.func 334) [] [.fp [.lst false 1 (l.map V.str)]]) []:=by
 intro w fr m cn us hfr hi hR
 generalize hz:z0=c0 at hR
 cases hR with
 |lcons h1 h2 he=>
  rename_i u us c1 c2
  cases h2
  have e1:c1=z0:=funext fun y=>by have:=he y;rw[←hz] at this;simp[z0] at this⊢;omega
  subst e1
  have key: ∀ad len cap,u= .slice ad len cap→Calls Tryz.prog 329 #[u] w fun e w'=> ∃u m' cn' d,e= .returned u∧Inv ⟨w,fr,fun b=> ∃id,0<cn id b,m,0⟩ w' [] m' cn'∧
    R w' (frz ⟨w,fr,fun b=> ∃id,0<cn id b,m,0⟩ cn') m' (.one (.clo (.func 334) [] [.fp [.lst false 1 (l.map V.str)]]) u) d∧([]:List Ob).length=([]:List Ob).length∧ ∃n,([]:List Ob).length≤n∧ ∀z,d z≤cn' n z:=by
   rintro ad len cap rfl
   refine Calls.mono (callsIn_wide.1 (Q152 ad len cap w)) ?_
   rintro e w' ⟨rfl,rfl⟩
   obtain ⟨i1,_,_⟩:=hi.lay (a:=⟨#[],[]⟩) (tm:=[]) (W:=w.alloc (.cells #[.slice ad len cap] 134)) .lnil Z3 (fun b hb=>Q9g hb) (nn:=0) Z3
   obtain ⟨i2,_⟩:=hi.back Z3 (fun b hb=>Q9g hb) rfl rfl rfl (Nat.le_refl _) i1
   exact ⟨_,m,cn,z0,rfl,i2,Q16s hi rfl h1,rfl,0,Nat.zero_le _,fun z=>by simp[z0]⟩
  have hu: ∃ad len cap,u= .slice ad len cap:=by
   clear key
   generalize hy:V.lst false 1 (l.map V.str)=y at h1
   cases h1<;>first|exact ⟨_,_,_,rfl⟩|cases hy
  obtain ⟨ad,len,cap,e⟩:=hu
  exact key ad len cap e
end Go.Proofs
namespace Go.Proofs
open Go Go.Ev
def ownF(c:Cls):List Fld:=c.fields.filter fun f=> !f.static
def Qf9(l:List Cls)(ch:List Str):Nat→List Fld
 |0=>[]
 |k+1=>Qf9 l ch k++ownF (Q1q l (ch.getD (ch.length-1-k) []))
def Q8d(l:List Cls)(n:Str):List Fld:=Qf9 l (Qq l n) (Qq l n).length
theorem Qde{l:List Fld}{i:Nat}(h:i<l.length):(l.take (i+1)).filter (fun f=> !f.static)=(l.take i).filter (fun f=> !f.static)++(if l[i].static then [] else [l[i]]):=by
 rw[List.take_succ_eq_append_getElem h,List.filter_append]
 cases hs:l[i].static<;>simp[hs]
theorem Qrs{l:List Cls}{ch:List Str}: ∀k,(Qf9 l ch k).length≤k*Q1w l
 |0=>by simp[Qf9]
 |k+1=>by
  have h1:=Qrs (l:=l) (ch:=ch) k
  have h2:=Qeq (l:=l) (n:=ch.getD (ch.length-1-k) [])
  have h3:(ownF (Q1q l (ch.getD (ch.length-1-k) []))).length≤(Q1q l (ch.getD (ch.length-1-k) [])).fields.length:=List.length_filter_le _ _
  have h4:(Q1q l (ch.getD (ch.length-1-k) [])).fields.length≤Q1r (Q1q l (ch.getD (ch.length-1-k) [])):=by unfold Q1r;omega
  rw[Qf9,List.length_append,Nat.succ_mul];omega
theorem Qu5{l:List Cls}{n:Str}{ch:List Str}: ∀k,k≤ch.length→Qf9 l (n::ch) k=Qf9 l ch k
 |0,_=>rfl
 |k+1,h=>by
  rw[Qf9,Qf9,Qu5 k Zb]
  have:(n::ch).length-1-k=(ch.length-1-k)+1:=by simp only[List.length_cons];omega
  rw[this,List.getD_cons_succ]
def Qx6(l:List Cls)(ch:List Str):List Fld:=Qf9 l ch ch.length
theorem Qu6{l:List Cls}{n:Str}{ch:List Str}:Qx6 l (n::ch)=Qx6 l ch++ownF (Q1q l n):=by
 unfold Qx6
 rw[List.length_cons,Qf9,Qu5 _ (Nat.le_refl _)]
 simp
theorem Q14c:ownF zC=[]:=rfl
theorem Q12y{l:List Cls}(hw:Qs l=true): ∀x,isKnown l x=true→0≤Q1u x→Qx6 l (Qq l x)=[]:=by
 have one: ∀x (xs:List Str),0≤Q1u x→Qx6 l (x::xs)=Qx6 l xs:=fun x xs hb=>by
  rw[Qu6,Qlz (Q1g hw) hb,Q14c,List.append_nil]
 refine Qau hw ?_ ?_
 ·intro hb;rw[Qdr hw,one _ _ hb];rfl
 ·intro x hx hxo _ ih hb
  rw[Q41 hw hx,one _ _ hb]
  rcases Qoi (Q1g hw) hb with e|e
  ·exact absurd e (Qct (Q1g hw) hx hxo)
  ·exact ih e
theorem Q14n{l:List Cls}(hw:Qs l=true){n:Str}(h:Qi n l 0<0):Q8d l n=[]:=by
 by_cases hb:0≤Q1u n
 ·exact Q12y hw n (Q3f hb) hb
 ·unfold Q8d;rw[Qm0 (by simp[isKnown];omega)];rfl
theorem Qzn{l:List Cls}(hw:Qs l=true){n:Str}{k:Nat}(h:Qi n l 0=k): ∃hk:k<l.length,Q8d l n=Q8d l l[k].super++ownF l[k]:=by
 obtain ⟨i,hi,e1,e2,e3⟩:=Q4x (l:=l) (n:=n) Zb
 obtain rfl:i=k:=by omega
 refine ⟨hi,?_⟩
 have hn:isKnown l n=true:=by rw[←e2];exact Q5e hi
 show Qx6 l (Qq l n)=Qx6 l (Qq l l[i].super)++ownF l[i]
 have hc:=Qdq (Q1g hw) hi
 rw[Q27 hi,e2] at hc
 rw[Q41 hw hn,Qu6,e3,hc]
theorem Qrr{l:List Cls}(hw:Qs l=true){n:Str}:(Q8d l n).length≤18*Q1w l:=by
 have h1:=Qrs (l:=l) (ch:=Qq l n) (Qq l n).length
 have h2:=Q6z l n
 have h3:=Q66 hw
 exact Nat.le_trans h1 (Nat.mul_le_mul_right _ Zb)
theorem Q114{l:List Cls}(hw:Qs l=true){n:Str}{k:Nat}(h:Qi n l 0=k): ∃hk:k<l.length,rkU l (Qi l[k].super l 0)<rkU l (Qi n l 0):=by
 obtain ⟨hk,_⟩:=Qzn hw h
 refine ⟨hk,?_⟩
 rw[h]
 have:=Qxw hw hk
 rwa [Qal,Qa hk] at this
def ndt(n t:Str)(f:Fld):Bool:=decide (f.name=n)&&decide (f.type=t)
def zF:Fld:=⟨[],[],false⟩
def Q71(fs:List Fld):Nat:=(fs.filter (·.static)).length
def Q72(cs:List Cls):Nat:=(cs.map fun c=>Q71 c.fields).sum
def Qsw(fs:List Fld):Nat:=(fs.filter fun f=> !f.static).length
def fpl(l:List Cls)(k i:Nat):Nat:=
 if (atL (atL l k).fields i).static then Q72 (l.take k)+Q71 ((atL l k).fields.take i)
 else (Q8d l (atL l k).super).length+Qsw ((atL l k).fields.take i)
theorem Qqo(fs:List Fld):Q71 fs≤fs.length:=List.length_filter_le _ _
theorem Qxt{fs:List Fld}{i:Nat}(h:i<fs.length):Q71 (fs.take (i+1))=Q71 (fs.take i)+if fs[i].static then 1 else 0:=by
 unfold Q71
 rw[List.take_succ_eq_append_getElem h,List.filter_append,List.length_append]
 cases hs:fs[i].static<;>simp[hs]
theorem Qga{fs:List Fld}{i:Nat}(h:i<fs.length):Q71 (fs.take (i+1))=Q71 (fs.take i)+fs[i].static.toNat:=by
 rw[Qxt h];cases fs[i].static<;>rfl
theorem Qzc(fs:List Fld):Qsw fs≤fs.length:=List.length_filter_le _ _
theorem Qmu{fs:List Fld}{i:Nat}(h:i<fs.length):Qsw (fs.take (i+1))=Qsw (fs.take i)+(!fs[i].static).toNat:=by
 unfold Qsw
 rw[Qde h,List.length_append]
 cases fs[i].static<;>rfl
theorem Qcg(fs:List Fld)(i:Nat):Q71 (fs.take i)≤Q71 fs:=by
 have:Q71 fs=Q71 (fs.take i)+Q71 (fs.drop i):=by
  unfold Q71;rw[←List.length_append,←List.filter_append,List.take_append_drop]
 omega
theorem Qqp{cs:List Cls}{k:Nat}(h:k<cs.length):Q72 (cs.take (k+1))=Q72 (cs.take k)+Q71 cs[k].fields:=by
 unfold Q72
 rw[List.take_succ_eq_append_getElem h,List.map_append,List.sum_append];simp
theorem Qj8(cs:List Cls)(k:Nat):Q72 (cs.take k)≤Q72 cs:=by
 have:Q72 cs=Q72 (cs.take k)+Q72 (cs.drop k):=by
  unfold Q72;rw[←List.sum_append,←List.map_append,List.take_append_drop]
 omega
theorem Qwb(l:List Cls):Q72 l≤Q1w l:=by
 have key: ∀l:List Cls,Q72 l≤(l.map Q1r).sum:=by
  intro l
  induction l with
  |nil=>simp[Q72]
  |cons c l ih=>
   have h1:=Qqo c.fields
   have h2:c.fields.length≤Q1r c:=by unfold Q1r;omega
   simp only[Q72,List.map_cons,List.sum_cons] at ih⊢;omega
 have:=key l
 unfold Q1w;omega
theorem Qx3{l:List Cls}{k i:Nat}(hk:k<l.length)(hi:i<l[k].fields.length)(h:l[k].fields[i].static=true):fpl l k i=Q72 (l.take k)+Q71 (l[k].fields.take i):=by
 unfold fpl;simp only[Qa hk,Qa hi];rw[if_pos h]
theorem Qzl{l:List Cls}{k i:Nat}(hk:k<l.length)(hi:i<l[k].fields.length)(h: ¬l[k].fields[i].static=true):fpl l k i=(Q8d l l[k].super).length+Qsw (l[k].fields.take i):=by
 unfold fpl;simp only[Qa hk,Qa hi];rw[if_neg h]
theorem Q15j{a:Nat}(b:Bool)(h:a≤4611686018427387904):IntKind.i64.wrap ((a:Int)+(b.toNat:Int))=(a:Int)+(b.toNat:Int):=by
 have:=Bool.toNat_le b
 rw[Qc Zb Zb]
theorem Qqf{α:Type}{p:α→Bool}{l:List α}(h:0≤fix p l): ∃i,∃hi:i<l.length,fix p l=i∧p l[i]=true∧ ∀x∈l.take i,p x=false:=by
 induction l with
 |nil=>simp[fix] at h
 |cons x l ih=>
  simp only[fix] at h⊢
  by_cases hx:p x=true
  ·exact ⟨0,by simp,by simp[hx],by simpa using hx,by simp⟩
  ·rw[if_neg hx] at h⊢
   have hf: ¬fix p l<0:=fun hc=>by rw[if_pos hc] at h;omega
   rw[if_neg hf]
   obtain ⟨i,hi,e1,e2,e3⟩:=ih Zb
   refine ⟨i+1,by simpa using hi,by omega,by simpa using e2,fun y hy=> ?_⟩
   rw[List.take_succ_cons] at hy
   rcases List.mem_cons.1 hy with rfl|hy
   ·simpa using hx
   ·exact e3 y hy
def uniF(fs:List Fld):Prop:=fs.Pairwise fun f g=>f.name≠g.name
theorem Qu4: ∀{fs pre:List Fld},Qc3 pre fs=true→uniF fs∧ ∀g∈pre,∀f∈fs,g.name≠f.name
 |[],_,_=>⟨List.Pairwise.nil,fun _ _ f hf=>by cases hf⟩
 |f::l,pre,h=>by
  simp only[Qc3,Bool.and_eq_true,List.all_eq_true] at h
  obtain ⟨⟨_,h1⟩,h2⟩:=h
  obtain ⟨hu,hp⟩:=Qu4 h2
  refine ⟨List.Pairwise.cons (fun g hg=>hp f Z3 g hg) hu,fun g hg x hx=> ?_⟩
  rcases List.mem_cons.1 hx with rfl|hx
  ·simpa using h1 g hg
  ·exact hp g (by simp[hg]) x hx
theorem Qyx{l:List Cls}(hw:Qs l=true){k:Nat}(hk:k<l.length):uniF l[k].fields:=by
 have h:=(Q98 hw).1 k hk
 simp only[Q5d,Qa hk] at h
 have hc:Q3l l[k]=true:=by
  cases hc:Q3l l[k]
  ·rw[hc] at h;simp at h
  ·rfl
 simp only[Q3l,Bool.and_eq_true] at hc
 exact (Qu4 hc.2.1).1
theorem Qg7{l:List Cls}(hw:Qs l=true){j k:Nat}(hj:j<l.length)(hk:k<l.length)(h:l[j].name=l[k].name):j=k:=by
 have h1:=Q3s hj ((Q1g hw) j hj).1
 have h2:=Q3s hk ((Q1g hw) k hk).1
 rw[h,h2] at h1;omega
theorem Qyw{l:List Cls}(hw:Qs l=true){k:Nat}(hk:k<l.length){i j:Nat}(hi:i<l[k].fields.length)(hj:j<l[k].fields.length)(h:l[k].fields[i].name=l[k].fields[j].name):i=j:=by
 have hu:=List.pairwise_iff_getElem.1 (Qyx hw hk)
 rcases Nat.lt_trichotomy i j with h1|h1|h1
 ·exact absurd h (hu i j hi hj h1)
 ·exact h1
 ·exact absurd h.symm (hu j i hj hi h1)
theorem Qxr{l:List Cls}(hw:Qs l=true)(x:Str):uniF (Q1q l x).fields:=by
 by_cases hf:0≤Qi x l 0
 ·obtain ⟨i,hi,_,_,e,_⟩:=Q3w hf
  rw[e];exact Qyx hw hi
 ·rw[Q50 hf];exact List.Pairwise.nil
theorem Qvk{fs:List Fld}(hu:uniF fs){i:Nat}(hi:i<fs.length){p:Fld→Bool}(hp:p fs[i]=true)(hn: ∀f,p f=true→f.name=fs[i].name):fix p fs=i:=by
 refine Q5y hi (fun x hx=> ?_) hp
 cases hpx:p x
 ·rfl
 ·obtain ⟨j,hj,rfl⟩:=List.getElem_of_mem hx
  rw[List.length_take] at hj
  have:=List.pairwise_iff_getElem.1 hu j i Zb hi Zb
  exact absurd (by simpa using hn _ hpx) this
theorem Qzo{fs:List Fld}(hu:uniF fs)(n t:Str):
  (0≤fix (fun f=>decide (f.name=n)) fs∧(atL fs (fix (fun f=>decide (f.name=n)) fs).toNat).type=t)↔0≤fix (ndt n t) fs:=by
 constructor
 ·rintro ⟨h1,h2⟩
  obtain ⟨i,hi,e1,e2,_⟩:=Qqf h1
  rw[e1] at h2
  simp only[Int.toNat_natCast,Qa hi] at h2
  rw[Qvk hu hi (p:=ndt n t) (by simpa[ndt,h2] using e2) (fun f hf=>by simp[ndt] at hf;simp at e2;rw[hf.1,e2])];omega
 ·intro h
  obtain ⟨i,hi,e1,e2,_⟩:=Qqf h
  simp only[ndt,Bool.and_eq_true,decide_eq_true_eq] at e2
  have:=Qvk hu hi (p:=fun f=>decide (f.name=n)) (by simpa using e2.1) (fun f hf=>by simp at hf;rw[hf,e2.1])
  rw[this]
  simp only[Int.toNat_natCast,Qa hi]
  exact ⟨by omega,e2.2⟩
theorem Qyl{fs:List Fld}(hu:uniF fs){n t:Str}(h:0≤fix (ndt n t) fs):fix (fun f=>decide (f.name=n)) fs=fix (ndt n t) fs:=by
 obtain ⟨i,hi,e1,e2,_⟩:=Qqf h
 simp only[ndt,Bool.and_eq_true,decide_eq_true_eq] at e2
 rw[e1]
 exact Qvk hu hi (by simpa using e2.1) (fun f hf=>by simp at hf;rw[hf,e2.1])
def ffL(l:List Cls)(n t:Str):List Str→Fnd×Fld
 |[]=>(Qf7,zF)
 |x::xs=>if 0≤fix (ndt n t) (Q1q l x).fields then (⟨x,fpl l (Qqv l x).toNat (fix (ndt n t) (Q1q l x).fields).toNat,0⟩,atL (Q1q l x).fields (fix (ndt n t) (Q1q l x).fields).toNat) else ffL l n t xs
def ffU(l:List Cls)(n t:Str)(k:Int):Fnd:=if k<0 then Qf7 else (ffL l n t (Qq l (Q7p l k))).1
theorem Qyo{l:List Cls}(hw:Qs l=true){n t:Str}: ∀x,isKnown l x=true→0≤Q1u x→ffL l n t (Qq l x)=(Qf7,zF):=by
 have one: ∀x (xs:List Str),0≤Q1u x→ffL l n t (x::xs)=ffL l n t xs:=fun x xs hb=>by
  simp only[ffL]
  rw[Qlz (Q1g hw) hb,if_neg (by simp[zC,fix])]
 refine Qau hw ?_ ?_
 ·intro hb;rw[Qdr hw,one _ _ hb];rfl
 ·intro x hx hxo _ ih hb
  rw[Q41 hw hx,one _ _ hb]
  rcases Qoi (Q1g hw) hb with e|e
  ·exact absurd e (Qct (Q1g hw) hx hxo)
  ·exact ih e
theorem Q130{l:List Cls}(hw:Qs l=true){c n t:Str}:ffU l n t (Qi c l 0)=(ffL l n t (Qq l c)).1:=by
 unfold ffU
 by_cases hf:Qi c l 0<0
 ·rw[if_pos hf]
  by_cases hb:0≤Q1u c
  ·rw[Qyo hw c (Q3f hb) hb]
  ·rw[Qm0 (by simp[isKnown];omega)];rfl
 ·rw[if_neg hf]
  obtain ⟨i,hi,e1,e2,_⟩:=Q4x (l:=l) (n:=c) Zb
  rw[e1,Q27 hi,e2]
theorem Q14p{l:List Cls}{n t:Str}{k:Int}(h:k<0):ffU l n t k=Qf7:=if_pos h
theorem Q149{l:List Cls}(hw:Qs l=true){k:Nat}(hk:k<l.length):Qqv l l[k].name=k:=by
 have:=Q3s hk ((Q1g hw) k hk).1
 unfold Qqv;rw[this,if_pos Zb]
theorem Q16n{l:List Cls}(hw:Qs l=true){n t:Str}{k:Nat}(hk:k<l.length):
  ffU l n t k=if 0≤fix (ndt n t) l[k].fields then ⟨l[k].name,fpl l k (fix (ndt n t) l[k].fields).toNat,0⟩ else ffU l n t (nxt l k):=by
 have hp:=Q1g hw
 have hkn:=Qkz (l:=l) (k:=(k:Int)) Zb Zb
 unfold ffU
 rw[if_neg Zb,Q41 hw hkn]
 simp only[ffL]
 rw[Qdq hp hk,Q27 hk,Q149 hw hk]
 by_cases h1:0≤fix (ndt n t) l[k].fields
 ·rw[if_pos h1,if_pos h1];rfl
 ·rw[if_neg h1,if_neg h1]
  by_cases h3:nxt l k<0
  ·rw[if_pos h3]
   obtain ⟨e1,e2⟩:=Q6o hp hk
   rw[e1]
   rcases e2 with ⟨_,e|e⟩|⟨j,hj,e4,_⟩
   ·rw[e,Qyo hw _ Qd9 Z73]
   ·rw[e,Qyo hw _ (Q3f Z5j) Z5j]
   ·omega
  ·rw[if_neg h3]
   have:=Qkq hp (k:=(k:Int)) Zb Zb Zb
   rw[Q27 hk] at this
   rw[this]
theorem Qyn{l:List Cls}(hw:Qs l=true){n t x:Str}(h:0≤fix (ndt n t) (Q1q l x).fields): ∃k,∃hk:k<l.length,∃j,∃hj:j<l[k].fields.length,
  l[k].name=x∧Q1q l x=l[k]∧fix (fun f=>decide (f.name=n)) (Q1q l x).fields=j∧fix (ndt n t) (Q1q l x).fields=j∧Qqv l x=k:=by
 have hu:=Qxr hw x
 have hy:=Qyl hu h
 by_cases hf:0≤Qi x l 0
 ·obtain ⟨k,hk,_,hp,e,hn⟩:=Q3w hf
  rw[e] at h hy⊢
  obtain ⟨j,hj,ej,_,_⟩:=Qqf h
  exact ⟨k,hk,j,hj,hn,rfl,by rw[hy,ej],ej,hp⟩
 ·rw[Q50 hf] at h;simp[zC,fix] at h
def inS(l:List Cls)(p i cc kk:Nat):Nat:=Q72 (l.take cc)+if cc<p then Q71 ((atL l cc).fields.take kk) else Q71 ((atL l cc).fields.take (min kk i))
def Qy1(l:List Cls)(p i cc:Nat):Nat:=if cc≤p then Q72 (l.take cc) else Q72 (l.take p)+Q71 ((atL l p).fields.take i)
theorem Q187{l:List Cls}{p i cc:Nat}(h:cc≤p):inS l p i cc 0=Qy1 l p i cc:=by
 unfold inS Qy1;rw[if_pos h];simp[Q71]
theorem Q12t{l:List Cls}{p i cc kk:Nat}(h:cc<l.length)(hk:kk<l[cc].fields.length):inS l p i cc (kk+1)=inS l p i cc kk+(l[cc].fields[kk].static&&(decide (cc<p)||decide (kk<i))).toNat:=by
 unfold inS
 rw[Qa h]
 by_cases h1:cc<p
 ·rw[if_pos h1,if_pos h1,Qga hk,decide_eq_true h1];simp;omega
 ·rw[if_neg h1,if_neg h1,decide_eq_false h1]
  by_cases h2:kk<i
  ·rw[show min (kk+1) i=kk+1 from by omega,show min kk i=kk from by omega,Qga hk,decide_eq_true h2];simp;omega
  ·rw[show min (kk+1) i=i from by omega,show min kk i=i from by omega,decide_eq_false h2];simp
theorem Q14k{l:List Cls}{p i cc kk:Nat}(hp:p<l.length)(hi:i<l[p].fields.length)(h:cc≤p)(hk:kk=(l[cc]'Zb).fields.length):inS l p i cc kk=Qy1 l p i (cc+1):=by
 have hc:cc<l.length:=by omega
 unfold inS Qy1
 rw[Qa hc,Qa hp]
 by_cases h1:cc<p
 ·rw[if_pos h1,if_pos Zb,Qqp hc,hk,List.take_of_length_le (Nat.le_refl _)]
 ·obtain rfl:cc=p:=by omega
  rw[if_neg h1,if_neg Zb,hk,Nat.min_eq_right Zb]
theorem Q16i(l:List Cls)(p i cc kk:Nat)(h:cc<l.length):inS l p i cc kk≤2*Q1w l:=by
 have h1:=Qj8 l cc
 have h2:=Qwb l
 have h3:=Qqo ((atL l cc).fields)
 have h4:=Qcg (atL l cc).fields kk
 have h5:=Qcg (atL l cc).fields (min kk i)
 have h6:=Q46 h
 simp only[Q1r] at h6
 rw[Qa h] at h3 h4 h5
 unfold inS
 rw[Qa h]
 split<;>omega
structure SF where
 l:List Cls
 c:Cls
 m:Mth
 i:Ins
 at':Int
def oSV(F:SF)(x y:V)(k:Int):V:= .agg [.lst false 6 (F.l.map eC),.str F.c.name,.str F.c.super,.bool F.c.final,.bool F.c.abstr,.lst false 3 (F.c.fields.map eF),.lst false 9 (F.c.methods.map eM),
 .str F.m.name,.str F.m.desc,.bool F.m.static,.bool F.m.abstr,.bool F.m.final,.int .i64 F.m.stack,.int .i64 F.m.locals,.lst false 5 (F.m.code.map eI),.lst false 4 (F.m.hdls.map eH),
 .int .i64 F.i.op,.int .i64 F.i.a,.str F.i.cls,.str F.i.name,.str F.i.desc,.int .i64 F.at',x,y,.int .i64 k]
def oSW(F:SF)(o1 o2:Bool)(st lo:List Typ)(k:Int):V:=oSV F (.lst o1 3 (st.map eT)) (.lst o2 3 (lo.map eT)) k
attribute [simp] oSV oSW
structure SW where
 o1:Bool
 o2:Bool
 st:List Typ
 lo:List Typ
 k:Int
def Qak(F:SF)(s:SW):V:=oSW F s.o1 s.o2 s.st s.lo s.k
attribute [simp] Qak
def ndC(k:Int)(ok:Bool)(c:Int):Int:=if k=0∧ok=false then c else k
def Qa8(k:Int)(st:List Typ)(n:Nat):Bool:= !decide (k=0)||decide (st.length<n)
def tkC(k:Int)(st:List Typ)(n:Nat):Int:=ndC k (decide (n≤st.length)) 11
def tkL(k:Int)(st:List Typ)(n:Nat):List Typ:=if Qa8 k st n=true then st else st.take (st.length-n)
def tkV(k:Int)(st:List Typ)(n:Nat):List Typ:=if Qa8 k st n=true then List.replicate n zT else st.drop (st.length-n)
def tkO(o:Bool)(k:Int)(st:List Typ)(n:Nat):Bool:=o|| !Qa8 k st n
@[simp] theorem tkV_len (k:Int) (st:List Typ) (n:Nat):(tkV k st n).length=n:=by
 unfold tkV
 split
 ·simp
 ·rename_i h
  simp only[Qa8,Bool.or_eq_true,decide_eq_true_eq,not_or] at h
  rw[List.length_drop];omega
theorem Q24(k:Int)(st:List Typ)(n:Nat):(tkL k st n).length≤st.length:=by
 unfold tkL
 split
 ·exact Nat.le_refl _
 ·rw[List.length_take];omega
theorem Qxs{k:Int}{st:List Typ}{n:Nat}(h:Qa8 k st n=true)(o:Bool):tkC k st n=ndC k false 11∧tkL k st n=st∧tkV k st n=List.replicate n zT∧tkO o k st n=o:=by
 refine ⟨?_,by rw[tkL,if_pos h],by rw[tkV,if_pos h],by simp[tkO,h]⟩
 simp only[Qa8,Bool.or_eq_true,Bool.not_eq_true',decide_eq_false_iff_not,decide_eq_true_eq] at h
 unfold tkC ndC
 rcases h with h|h
 ·simp[h]
 ·simp[show¬n≤st.length by omega]
theorem Q11r{k:Int}{st:List Typ}{n q:Nat}(h:Qa8 k st n=false)(hq:st.length=q+n)(o:Bool):tkC k st n=k∧tkL k st n=st.take q∧tkV k st n=st.drop q∧tkO o k st n=true:=by
 have e:st.length-n=q:=by omega
 refine ⟨?_,by rw[tkL,if_neg (by simp[h]),e],by rw[tkV,if_neg (by simp[h]),e],by simp[tkO,h]⟩
 unfold tkC ndC
 simp[show n≤st.length by omega]
@[simp] theorem free_eT (l:List Typ):freeL (Q1y (l.map eT))=true:=by
 induction l with
 |nil=>rfl
 |cons x l ih=>simp[flat_cons,eT,V.cells,freeL,V.free,ih]
@[simp] theorem free_dT (q:Nat) (l:List Typ):freeL (Q1y (List.drop q (l.map eT)))=true:=by rw[←List.map_drop];exact free_eT _
@[simp] theorem free_tT (q:Nat) (l:List Typ):freeL (Q1y (List.take q (l.map eT)))=true:=by rw[←List.map_take];exact free_eT _
@[simp] theorem pure_dT (q:Nat) (l:List Typ):pureL (List.drop q (l.map eT))=true:=by rw[←List.map_drop];exact pureL_eT _
@[simp] theorem pure_tT (q:Nat) (l:List Typ):pureL (List.take q (l.map eT))=true:=by rw[←List.map_take];exact pureL_eT _
@[simp] theorem jk_dT (p:Nat→Bool) (q:Nat) (l:List Typ):jkL p (List.drop q (l.map eT))=List.drop q (l.map eT):=by rw[←List.map_drop];exact jkL_eT p _
@[simp] theorem jk_tT (p:Nat→Bool) (q:Nat) (l:List Typ):jkL p (List.take q (l.map eT))=List.take q (l.map eT):=by rw[←List.map_take];exact jkL_eT p _
@[simp] theorem pure_repT (n:Nat):pureL (List.replicate n (V.agg [.int .i64 0,.str [],.int .i64 0]))=true:=by induction n<;>simp_all[List.replicate_succ,pureL,V.pure]
theorem Q18d{l:List Typ}{q n:Nat}(h:l.length=q+n):List.take n (List.drop q (l.map eT))=List.drop q (l.map eT):=List.take_of_length_le (by rw[List.length_drop,List.length_map];omega)
def Q11(c:Str):Typ:=⟨3,c,0⟩
def swT(a b t:Typ):Typ:=if t=a then b else t
theorem Qze(k:Int)(a b:Bool)(c:Int):ndC (ndC k a c) b c=ndC k (a&&b) c:=by
 unfold ndC
 cases a<;>cases b<;>by_cases hk:k=0<;>simp_all
theorem Q15o(k c:Int):ndC k true c=k:=by simp[ndC]
theorem Qws{k e:Int}(h:ndC k (decide (e=0)) e=0):k=0∧e=0:=by
 unfold ndC at h
 split at h
 ·rename_i h9;simp only[decide_eq_false_iff_not] at h9;exact absurd h h9.2
 ·rename_i h9
  refine ⟨h,?_⟩
  by_cases he:e=0
  ·exact he
  ·exact absurd ⟨h,by simpa using he⟩ h9
theorem Q12i{k c:Int}{b:Bool}(h:ndC k b c=0)(hc:c≠0):k=0∧b=true:=by
 unfold ndC at h
 split at h
 ·exact absurd h hc
 ·rename_i h9;exact ⟨h,by simpa[h] using h9⟩
theorem Q87{x y:Typ}:x=y↔x.k=y.k∧x.c=y.c∧x.at'=y.at':=by cases x;cases y;simp
theorem Q13j{l:List Typ}{i:Nat}(h:i<l.length)(p:Typ→Bool):(l.take (i+1)).all p=((l.take i).all p&&p l[i]):=by
 rw[List.take_succ_eq_append_getElem h,List.all_append];simp
def Qsx(l:List Cls)(x:Fnd):Mth:=if x.p<0 then Q13e Qn Qdf else atL (Q1q l x.c).methods x.p.toNat
theorem fm_e(l:List Cls)(n d:Str): ∀xs:List Str,(fmL l n d xs).1.e=0→
  (((fmL l n d xs).1.p= -1∧n=Qn∧d=Qdf)∨(0≤Qi (fmL l n d xs).1.c l 0∧ ∃j:Nat,(fmL l n d xs).1.p=j∧j<(Q1q l (fmL l n d xs).1.c).methods.length))∧Qsx l (fmL l n d xs).1=(fmL l n d xs).2
 |[],h=>by simp[fmL,Qf7] at h
 |x::xs,h=>by
  simp only[fmL] at h⊢
  by_cases h1:0≤Q1j n d (Q1q l x).methods 0
  ·simp only[if_pos h1] at h⊢
   rcases @Q6u n d (Q1q l x).methods 0 with ⟨h2,_⟩|⟨i,hi,h2,_⟩
   ·omega
   ·have hf:0≤Qi x l 0:=by
     rcases Int.lt_or_le (Qi x l 0) 0 with h3|h3
     ·rw[Q50 Zb] at hi;exact absurd hi (by simp[zC])
     ·exact h3
    refine ⟨.inr ⟨hf,i,by rw[h2];simp,hi⟩,?_⟩
    unfold Qsx
    rw[if_neg (by simp only;omega)]
  ·simp only[if_neg h1] at h⊢
   by_cases h2:n=Qn
   ·simp only[if_pos h2] at h⊢
    by_cases h3:bIn x=true∧d=Qdf
    ·simp only[if_pos h3] at h⊢
     refine ⟨.inl ⟨by first|rfl|trivial,h2,h3.2⟩,?_⟩
     unfold Qsx
     rw[if_pos (by simp only;omega),h3.2]
    ·simp only[if_neg h3] at h;exact absurd h (by simp[Qf7])
   ·simp only[if_neg h2] at h⊢
    exact fm_e l n d xs h
def Qth(l:List Cls)(c n:Str):Bool:=if 0≤fix (fun f=>decide (f.name=n)) (Q1q l c).fields then (atL (Q1q l c).fields (fix (fun f=>decide (f.name=n)) (Q1q l c).fields).toNat).static else false
theorem ff_e{l:List Cls}(hw:Qs l=true)(n t:Str): ∀xs:List Str,(ffL l n t xs).1.e=0→0≤Qi (ffL l n t xs).1.c l 0∧Qth l (ffL l n t xs).1.c n=(ffL l n t xs).2.static
 |[],h=>by simp[ffL,Qf7] at h
 |x::xs,h=>by
  simp only[ffL] at h⊢
  by_cases h1:0≤fix (ndt n t) (Q1q l x).fields
  ·simp only[if_pos h1] at h⊢
   obtain ⟨k,hk,j,hj,e1,e2,e3,e4,_⟩:=Qyn hw h1
   refine ⟨?_,?_⟩
   ·rcases Int.lt_or_le (Qi x l 0) 0 with h3|h3
    ·rw[Q50 Zb] at h1;exact absurd h1 (by simp[zC,fix])
    ·exact h3
   ·unfold Qth
    rw[e3,e4,if_pos Zb]
  ·simp only[if_neg h1] at h⊢
   exact ff_e hw n t xs h
def Qd2(F:SF):Typ:=⟨6,F.i.cls,F.at'⟩
@[simp] theorem newT_k (F:SF):(Qd2 F).k=6:=rfl
@[simp] theorem newT_c (F:SF):(Qd2 F).c=F.i.cls:=rfl
@[simp] theorem newT_a (F:SF):(Qd2 F).at'=F.at':=rfl
def abOK(F:SF):Bool:=decide (Qi F.i.cls F.l 0<0)|| !(atL F.l (Qi F.i.cls F.l 0).toNat).abstr
def Qzd(F:SF)(k:Int):Int:=ndC (ndC k (isKnown F.l F.i.cls) 6) (abOK F) 14
def Qy5(F:SF)(st:List Typ)(k:Int):Int:=ndC (Qzd F k) (st.all fun x=> !decide (x=Qd2 F)) 10
def Qij(F:SF)(o1 o2:Bool)(st lo:List Typ)(k:Int):SW:=if Qy5 F st k=0 then ⟨true,true,st.map (swT (Qd2 F) zT)++[Qd2 F],lo.map (swT (Qd2 F) zT),0⟩ else ⟨o1,o2,st,lo,Qy5 F st k⟩
def Qsy(i:Ins):Bool:=decide (34≤i.op)
def Qrl(i:Ins):Bool:=decide (i.op=33∨i.op=35)
def Qgs(i:Ins):Nat:=(if Qsy i=true then 0 else 1)+(if Qrl i=true then 1 else 0)
def fdxS(F:SF):Fnd:=(ffL F.l F.i.name F.i.desc (Qq F.l F.i.cls)).1
def Qgt(F:SF)(st:List Typ)(k:Int):Int:=ndC (ndC (tkC k st (Qgs F.i)) (isKnown F.l F.i.cls) 6) (decide ((fdxS F).e=0)) (fdxS F).e
def Qn3(F:SF)(a:List Typ)(k:Int):Int:=if Qsy F.i=true then ndC k (Qth F.l (fdxS F).c F.i.name==Qsy F.i) 14 else ndC (ndC k (Qth F.l (fdxS F).c F.i.name==Qsy F.i) 14) (leT F.l (atL a 0) (Q11 F.i.cls)) 10
def fdS(F:SF)(o1 o2:Bool)(st lo:List Typ)(k:Int):SW:=
 if Qgt F st k≠0 then ⟨tkO o1 k st (Qgs F.i),o2,tkL k st (Qgs F.i),lo,Qgt F st k⟩
 else if Qrl F.i=true then ⟨tkO o1 k st (Qgs F.i),o2,tkL k st (Qgs F.i),lo,ndC (Qn3 F (tkV k st (Qgs F.i)) (Qgt F st k)) (leT F.l (atL (tkV k st (Qgs F.i)) (Qgs F.i-1)) (Q1o F.i.desc)) 10⟩
 else ⟨true,o2,tkL k st (Qgs F.i)++[Q1o F.i.desc],lo,Qn3 F (tkV k st (Qgs F.i)) (Qgt F st k)⟩
def Qbt(l:List Cls)(xs:List Typ)(off:Nat)(ps:List Str):Nat→Bool
 |0=>true
 |j+1=>Qbt l xs off ps j&&leT l (atL xs (off+j)) (Q1o (atL ps j))
def Qms(r:Str)(s:SW):SW:=if r≠[86]∧s.k=0 then ⟨true,s.o2,s.st++[Q1o r],s.lo,s.k⟩ else s
def Q90(t:Typ):Bool:=decide (t.k=4∨t.k=5)
def elT(t:Typ):Typ:=if t.k=4 then ⟨1,[],0⟩ else Q11 t.c
def cF(F:SF)(x y z:V):List V:=[wv F.l,.str F.c.name,.str F.c.super,.bool F.c.final,.bool F.c.abstr,.lst false 3 (F.c.fields.map eF),.lst false 9 (F.c.methods.map eM),
 .str F.m.name,.str F.m.desc,.bool F.m.static,.bool F.m.abstr,.bool F.m.final,.int .i64 F.m.stack,.int .i64 F.m.locals,.lst false 5 (F.m.code.map eI),.lst false 4 (F.m.hdls.map eH),.int .i64 F.at',x,y,z]
def oFV(F:SF)(x y z:V):V:= .agg (cF F x y z)
def oFl(F:SF)(st lo tk:List Typ):V:=oFV F (.lst true 3 (st.map eT)) (.lst true 3 (lo.map eT)) (.lst false 3 (tk.map eT))
def pFl(F:SF)(x y z:V):V:= .fp (cF F x y z)
attribute [simp] cF oFV oFl pFl
@[simp] theorem jk_comp (p:Nat→Bool) (f:Typ→Typ) (l:List Typ):jkL p (l.map (eT∘f))=l.map (eT∘f):=by rw[←List.map_map];exact jkL_eT p _
@[simp] theorem pure_comp (f:Typ→Typ) (l:List Typ):pureL (l.map (eT∘f))=true:=by rw[←List.map_map];exact pureL_eT _
structure IW where
 k:Int
 st:List Typ
 lo:List Typ
def cu(b:Bool)(c:Int):Int:=if b=true then 0 else c
def Q2v(tk:List Typ):Bool:=tk.all fun t=>decide (t.k=1)
def Qee(tk:List Typ):Bool:=tk.all Q48
def Q2p(F:SF)(st lo tk:List Typ):IW:=
 if F.i.op=1 then ⟨0,st++[⟨1,[],0⟩],lo⟩ else if F.i.op=2 then ⟨0,st++[⟨2,[],0⟩],lo⟩
 else if F.i.op=3 then (if F.i.a<lo.length∧ ¬(atL lo F.i.a.toNat).k=0 then ⟨0,st++[atL lo F.i.a.toNat],lo⟩ else ⟨10,st,lo⟩)
 else if F.i.op=4 then (if F.i.a<lo.length then (if F.i.a=0∧F.m.name=Qn then ⟨14,st,lo⟩ else ⟨0,st,lo.set F.i.a.toNat (atL tk 0)⟩) else ⟨10,st,lo⟩)
 else if F.i.op=6 then ⟨0,st++[atL tk 0,atL tk 0],lo⟩ else if F.i.op=7 then ⟨0,st++[atL tk 1,atL tk 0],lo⟩
 else if F.i.op=30 then ⟨0,st++[atL tk 0,atL tk 1,atL tk 0,atL tk 1],lo⟩ else ⟨0,st,lo⟩
def Qfb(F:SF)(lo tk:List Typ):Int:=
 if F.i.op=29 then cu (leI F.l (atL tk 0) (Q11 Q16)) 10
 else if F.i.op=26 then (if (Qy F.m.desc).res=[86] then cu (!decide (F.m.name=Qn)||(decide (0<lo.length)&&decide (atL lo 0=Q11 F.c.name))) 10 else 12)
 else if F.i.op=27 then (if (Qy F.m.desc).res=[73] then cu (Q2v tk) 10 else 12)
 else if (Qy F.m.desc).res=[86]∨(Qy F.m.desc).res=[73] then 12 else cu (leI F.l (atL tk 0) (Q1o (Qy F.m.desc).res)) 10
def Q9o(F:SF):Typ:=⟨6,F.i.cls,F.at'⟩
@[simp] theorem newTi_k (F:SF):(Q9o F).k=6:=rfl
@[simp] theorem newTi_c (F:SF):(Q9o F).c=F.i.cls:=rfl
@[simp] theorem newTi_a (F:SF):(Q9o F).at'=F.at':=rfl
def Qik(F:SF)(st lo:List Typ):IW:=
 if isKnown F.l F.i.cls=true then (if (Q1q F.l F.i.cls).abstr=true then ⟨14,st,lo⟩ else if (st.any fun x=>decide (Q9o F=x))=true then ⟨10,st,lo⟩
  else ⟨0,st.map (swT (Q9o F) zT)++[Q9o F],lo.map (swT (Q9o F) zT)⟩) else ⟨6,st,lo⟩
def Qdb(i:Ins):Bool:=decide (i.op=34)||decide (i.op=35)
def Qb4(F:SF)(st lo tk:List Typ)(x:Fnd×Fld):IW:=
 if isKnown F.l F.i.cls=true then (if x.1.e=0 then (if x.2.static=Qdb F.i then
   (if (!Qdb F.i&& !leI F.l (atL tk 0) (Q11 F.i.cls))=true then ⟨10,st,lo⟩
    else if F.i.op=32∨F.i.op=34 then ⟨0,st++[Q1o F.i.desc],lo⟩ else ⟨cu (leI F.l (atL tk (tk.length-1)) (Q1o F.i.desc)) 10,st,lo⟩)
   else ⟨14,st,lo⟩) else ⟨x.1.e,st,lo⟩) else ⟨6,st,lo⟩
def Qdd(F:SF)(st lo tk:List Typ):IW:=Qb4 F st lo tk (ffL F.l F.i.name F.i.desc (Qq F.l F.i.cls))
def Qgf(l:List Cls)(a:List Typ)(ps:List Str):Nat→Bool
 |0=>true
 |j+1=>Qgf l a ps j&&leI l (atL a j) (Q1o (atL ps j))
theorem Qtl{l:List Cls}{a:List Typ}{ps:List Str}{j:Nat}(h:Qgf l a ps j=false): ∀d,Qgf l a ps (j+d)=false
 |0=>h
 |d+1=>by show (Qgf l a ps (j+d)&&_)=false;rw[Qtl h d];rfl
theorem Q14b{l:List Cls}{a:List Typ}{ps:List Str}{j:Nat}(hj:j<ps.length)(ha:j<a.length)(h:leI l a[j] (Q1o ps[j])=false):Qgf l a ps ps.length=false:=by
 have h1:Qgf l a ps (j+1)=false:=by simp only[Qgf];rw[Qa ha,Qa hj,h,Bool.and_false]
 have:=Qtl h1 (ps.length-(j+1))
 rwa [show j+1+(ps.length-(j+1))=ps.length by omega] at this
def Qst(r:Str)(st:List Typ):List Typ:=if r=[86] then st else st++[Q1o r]
def Qbb(F:SF)(st lo tk:List Typ)(x:Fnd×Mth):IW:=
 if F.i.name=Qn then ⟨14,st,lo⟩ else if isKnown F.l F.i.cls=true then (if x.1.e=0 then (if x.2.static=decide (F.i.op=37) then
   (if ((!decide (F.i.op=37)&& !leI F.l (atL tk 0) (Q11 F.i.cls))|| !Qgf F.l (if F.i.op=37 then tk else tk.drop 1) (Qy F.i.desc).params (Qy F.i.desc).params.length)=true then ⟨10,st,lo⟩
    else ⟨0,Qst (Qy F.i.desc).res st,lo⟩) else ⟨14,st,lo⟩) else ⟨x.1.e,st,lo⟩) else ⟨6,st,lo⟩
def clI(F:SF)(st lo tk:List Typ):IW:=Qbb F st lo tk (fmL F.l F.i.name F.i.desc (Qq F.l F.i.cls))
def Q5v(F:SF)(a:Typ):Bool:=decide (a.k=7)&&(decide (F.i.cls=F.c.name)||decide (F.i.cls=F.c.super))
def Q54(F:SF)(a:Typ):Bool:=decide (a.k=6)&&decide (a.c=F.i.cls)
theorem spC(a:Typ)(c n s:Str):(((a.k=7)=(true=true))∧((a.k=6)=(false=true))∧((c=n)=(true=true))∧True∧True)∨(((a.k=7)=(true=true))∧((a.k=6)=(false=true))∧((c=n)=(false=true))∧((c=s)=(true=true))∧True)∨(((a.k=7)=(true=true))∧((a.k=6)=(false=true))∧((c=n)=(false=true))∧((c=s)=(false=true))∧True)∨(((a.k=7)=(false=true))∧((a.k=6)=(true=true))∧True∧True∧((a.c=c)=(true=true)))∨(((a.k=7)=(false=true))∧((a.k=6)=(true=true))∧True∧True∧((a.c=c)=(false=true)))∨(((a.k=7)=(false=true))∧((a.k=6)=(false=true))∧True∧True∧True):=by
 by_cases h7:a.k=7
 ·by_cases h:c=n<;>by_cases h2:c=s<;>simp[h7,h,h2]<;>simp_all
 ·by_cases h6:a.k=6<;>by_cases h:a.c=c<;>simp[h7,h6,h]
def Qay(F:SF)(st lo tk:List Typ)(x:Fnd×Mth):IW:=
 if F.i.name=Qn then
  (if isKnown F.l F.i.cls=true then (if x.1.e=0 then
   (if ((!Q54 F (atL tk 0)&& !Q5v F (atL tk 0))|| !Qgf F.l (tk.drop 1) (Qy F.i.desc).params (Qy F.i.desc).params.length)=true then ⟨10,st,lo⟩
    else if Q5v F (atL tk 0)=true then ⟨0,st.map (swT (atL tk 0) (Q11 F.c.name)),lo.map (swT (atL tk 0) (Q11 F.c.name))⟩ else ⟨0,st.map (swT (atL tk 0) (Q11 (atL tk 0).c)),lo.map (swT (atL tk 0) (Q11 (atL tk 0).c))⟩)
   else ⟨x.1.e,st,lo⟩) else ⟨6,st,lo⟩)
 else if F.i.cls=F.c.super then (if x.1.e=0 then (if ((x.2.static||x.2.abstr)||F.m.static)=true then ⟨14,st,lo⟩
   else if (!leI F.l (atL tk 0) (Q11 F.c.name)|| !Qgf F.l (tk.drop 1) (Qy F.i.desc).params (Qy F.i.desc).params.length)=true then ⟨10,st,lo⟩ else ⟨0,Qst (Qy F.i.desc).res st,lo⟩)
  else ⟨x.1.e,st,lo⟩) else ⟨14,st,lo⟩
def spI(F:SF)(st lo tk:List Typ):IW:=Qay F st lo tk (fmL F.l F.i.name F.i.desc (Qq F.l F.i.cls))
def csI(F:SF)(st lo tk:List Typ):IW:=
 if isKnown F.l F.i.cls=true then (if Qee tk=true then ⟨0,st++[if F.i.op=39 then Q11 F.i.cls else ⟨1,[],0⟩],lo⟩ else ⟨10,st,lo⟩) else ⟨6,st,lo⟩
def lsI(F:SF)(st lo tk:List Typ):IW:=
 if F.i.op=41 then
  (if¬Q1c F.i.desc=[]∧isKnown F.l (Q1c F.i.desc)=false then ⟨6,st,lo⟩ else if (atL tk 0).k=1 then ⟨0,st++[if Q1c F.i.desc=[] then ⟨4,[],0⟩ else ⟨5,Q1c F.i.desc,0⟩],lo⟩ else ⟨10,st,lo⟩)
 else if Q90 (atL tk 0)=false∨(¬F.i.op=44∧ ¬(atL tk 1).k=1) then ⟨10,st,lo⟩
 else if F.i.op=44 then ⟨0,st++[⟨1,[],0⟩],lo⟩ else if F.i.op=42 then ⟨0,st++[elT (atL tk 0)],lo⟩
 else if (atL tk 0).k=4 then ⟨cu (decide ((atL tk 2).k=1)) 10,st,lo⟩ else ⟨cu (Q48 (atL tk 2)) 10,st,lo⟩
def Q36(F:SF)(st lo tk:List Typ):IW:=
 if F.i.op≤7∨F.i.op=30 then Q2p F st lo tk
 else if 8≤F.i.op∧F.i.op≤18 then (if Q2v tk=true then ⟨0,st++[⟨1,[],0⟩],lo⟩ else ⟨10,st,lo⟩)
 else if 19≤F.i.op∧F.i.op≤23 then ⟨cu (Q2v tk) 10,st,lo⟩
 else if F.i.op=24∨F.i.op=25 then ⟨cu (Qee tk) 10,st,lo⟩
 else if 26≤F.i.op∧F.i.op≤29 then ⟨Qfb F lo tk,st,lo⟩
 else if F.i.op=31 then Qik F st lo
 else if 32≤F.i.op∧F.i.op≤35 then Qdd F st lo tk
 else if F.i.op=38 then spI F st lo tk
 else if F.i.op=36∨F.i.op=37 then clI F st lo tk
 else if F.i.op=39∨F.i.op=40 then csI F st lo tk
 else lsI F st lo tk
def tk1(n:Int):Bool:=decide (n=4∨n=5∨n=6∨n=20∨n=21∨n=24∨n=27∨n=28∨n=29∨n=32∨n=35∨n=39∨n=40∨n=41∨n=44)
def tk2(n:Int):Bool:=decide (n=7∨n=30∨n=22∨n=23∨n=25∨n=33∨n=42)
def Q2a(i:Ins):Int:=if tk1 i.op=true then 1 else if tk2 i.op=true then 2 else if i.op=43 then 3 else if i.op=36∨i.op=38 then 1+Q45 i.desc else if i.op=37 then Q45 i.desc else if 8≤i.op∧i.op≤18 then 2 else 0
theorem Q140(i:Ins): -1≤Q2a i∧Q2a i≤9:=by
 have:=Qig i.desc
 unfold Q2a
 repeat' split
 all_goals omega
def Q4z(F:SF)(st lo:List Typ):IW:=
 if (st.length:Int)-Q2a F.i<0 then ⟨11,st,lo⟩
 else if (Q36 F (st.take ((st.length:Int)-Q2a F.i).toNat) lo (st.drop ((st.length:Int)-Q2a F.i).toNat)).k=0 then
  ⟨cu (decide (((Q36 F (st.take ((st.length:Int)-Q2a F.i).toNat) lo (st.drop ((st.length:Int)-Q2a F.i).toNat)).st.length:Int)≤F.m.stack)) 11,(Q36 F (st.take ((st.length:Int)-Q2a F.i).toNat) lo (st.drop ((st.length:Int)-Q2a F.i).toNat)).st,(Q36 F (st.take ((st.length:Int)-Q2a F.i).toNat) lo (st.drop ((st.length:Int)-Q2a F.i).toNat)).lo⟩
 else Q36 F (st.take ((st.length:Int)-Q2a F.i).toNat) lo (st.drop ((st.length:Int)-Q2a F.i).toNat)
def Qx9(F:SF)(st tk:List Typ):List Typ:=if (st.length:Int)-Q2a F.i<0 then tk else st.drop ((st.length:Int)-Q2a F.i).toNat
theorem Q11y(l:List Typ):solidL (l.map eT)=true:=by
 induction l with
 |nil=>rfl
 |cons x l ih=>simp_all[solidL,V.solid,eT]
@[simp] theorem solid_dT (q:Nat) (l:List Typ):solidL (List.drop q (l.map eT))=true:=by rw[←List.map_drop];exact Q11y _
@[simp] theorem ix01:List.idxOf? 1 [0,1]=some 1:=by decide
@[simp] theorem ix02:List.idxOf? 2 [0,2]=some 1:=by decide
@[simp] theorem ix03:List.idxOf? 3 [0,3]=some 1:=by decide
@[simp] theorem ix04:List.idxOf? 4 [0,4]=some 1:=by decide
@[simp] theorem ix05:List.idxOf? 5 [0,5]=some 1:=by decide
@[simp] theorem wr0:IntKind.i64.wrap 0=0:=by decide
@[simp] theorem wr1:IntKind.i64.wrap 1=1:=by decide
@[simp] theorem wr2:IntKind.i64.wrap 2=2:=by decide
def Qf8(F:SF)(o1 o2:Bool)(st lo:List Typ)(k:Int):SW:=
 if F.i.op=26 then ⟨o1,o2,st,lo,if F.m.name=Qn then ndC (ndC k (decide ((Qd F.m.desc).res=[86])) 12) (decide (atL lo 0=Q11 F.c.name)) 10 else ndC k (decide ((Qd F.m.desc).res=[86])) 12⟩
 else ⟨tkO o1 k st 1,o2,tkL k st 1,lo,
  if F.i.op=27 then ndC (ndC (tkC k st 1) (decide ((Qd F.m.desc).res=[73])) 12) (decide ((atL (tkV k st 1) 0).k=1)) 10
  else if F.i.op=28 then ndC (ndC (tkC k st 1) (!decide ((Qd F.m.desc).res=[86])&& !decide ((Qd F.m.desc).res=[73])) 12) (leT F.l (atL (tkV k st 1) 0) (Q1o (Qd F.m.desc).res)) 10
  else ndC (tkC k st 1) (leT F.l (atL (tkV k st 1) 0) (Q11 Q16)) 10⟩
def Qv8(F:SF):Typ:=if F.i.desc=[73] then ⟨4,[],0⟩ else ⟨5,Q1c F.i.desc,0⟩
def lsK(F:SF)(k:Int)(a:Typ):Int:=ndC (if F.i.desc=[73] then k else ndC k (isKnown F.l (Q1c F.i.desc)) 6) (decide (a.k=1)) 10
def Qb2(F:SF)(o1 o2:Bool)(st lo:List Typ)(k:Int):SW:=
 if F.i.op=41 then ⟨true,o2,tkL k st 1++[Qv8 F],lo,lsK F (tkC k st 1) (atL (tkV k st 1) 0)⟩
 else if F.i.op=42 then ⟨true,o2,tkL k st 2++[elT (atL (tkV k st 2) 0)],lo,ndC (ndC (tkC k st 2) (Q90 (atL (tkV k st 2) 0)) 10) (decide ((atL (tkV k st 2) 1).k=1)) 10⟩
 else if F.i.op=43 then ⟨tkO o1 k st 3,o2,tkL k st 3,lo,ndC (ndC (ndC (tkC k st 3) (Q90 (atL (tkV k st 3) 0)) 10) (decide ((atL (tkV k st 3) 1).k=1)) 10) (if (atL (tkV k st 3) 0).k=4 then decide ((atL (tkV k st 3) 2).k=1) else Q48 (atL (tkV k st 3) 2)) 10⟩
 else ⟨true,o2,tkL k st 1++[⟨1,[],0⟩],lo,ndC (tkC k st 1) (Q90 (atL (tkV k st 1) 0)) 10⟩
def Q3u(F:SF):Nat:=(Qd F.i.desc).params.length+(if F.i.op=37 then 0 else 1)
def Qvx(F:SF):Fnd:=(fmL F.l F.i.name F.i.desc (Qq F.l F.i.cls)).1
def Q3h(F:SF)(k:Int):Int:=if F.i.op=38 then (if F.i.name=Qn then k else ndC k (decide (F.i.cls=F.c.super)) 14) else ndC k (!decide (F.i.name=Qn)) 14
def Q58(F:SF)(st:List Typ)(k:Int):Int:=ndC (ndC (Q3h F (tkC k st (Q3u F))) (isKnown F.l F.i.cls) 6) (decide ((Qvx F).e=0)) (Qvx F).e
def Q37(F:SF)(a:Typ):Bool:=decide (a.k=6)&&decide (a.c=F.i.cls)
def ownB(F:SF)(a:Typ):Bool:=decide (a.k=7)&&(decide (F.i.cls=F.c.name)||decide (F.i.cls=F.c.super))
def Q55(F:SF)(a:List Typ)(off:Nat):Bool:=Qbt F.l a off (Qd F.i.desc).params (Qd F.i.desc).params.length
def Q5u(F:SF)(o1 o2:Bool)(st lo:List Typ)(k:Int)(a:List Typ):SW:=
 if F.i.op=36 then ⟨o1,o2,st,lo,ndC (ndC (ndC k (!(Qsx F.l (Qvx F)).static) 14) (leT F.l (atL a 0) (Q11 F.i.cls)) 10) (Q55 F a 1) 10⟩
 else if F.i.op=37 then ⟨o1,o2,st,lo,ndC (ndC k (Qsx F.l (Qvx F)).static 14) (Q55 F a 0) 10⟩
 else if F.i.name=Qn then
  if Q37 F (atL a 0)=true then ⟨true,true,st.map (swT (atL a 0) (Q11 F.i.cls)),lo.map (swT (atL a 0) (Q11 F.i.cls)),ndC (ndC k (Q37 F (atL a 0)||ownB F (atL a 0)) 10) (Q55 F a 1) 10⟩
  else if ownB F (atL a 0)=true then ⟨true,true,st.map (swT (atL a 0) (Q11 F.c.name)),lo.map (swT (atL a 0) (Q11 F.c.name)),ndC (ndC k (Q37 F (atL a 0)||ownB F (atL a 0)) 10) (Q55 F a 1) 10⟩
  else ⟨o1,o2,st,lo,ndC (ndC k (Q37 F (atL a 0)||ownB F (atL a 0)) 10) (Q55 F a 1) 10⟩
 else ⟨o1,o2,st,lo,ndC (ndC (ndC k (!(Qsx F.l (Qvx F)).static&&(!(Qsx F.l (Qvx F)).abstr&& !F.m.static)) 14) (leT F.l (atL a 0) (Q11 F.c.name)) 10) (Q55 F a 1) 10⟩
def Q4h(F:SF)(o1 o2:Bool)(st lo:List Typ)(k:Int):SW:=
 if Q58 F st k=0 then Qms (Qd F.i.desc).res (Q5u F (tkO o1 k st (Q3u F)) o2 (tkL k st (Q3u F)) lo (Q58 F st k) (tkV k st (Q3u F)))
 else ⟨tkO o1 k st (Q3u F),o2,tkL k st (Q3u F),lo,Q58 F st k⟩
def ldB(F:SF)(lo:List Typ):Bool:=decide (F.i.a<lo.length)&& !decide ((atL lo F.i.a.toNat).k=0)
def stK(F:SF)(st lo:List Typ)(k:Int):Int:=ndC (ndC (tkC k st 1) (decide (F.i.a<lo.length)) 10) (decide (0<F.i.a)|| !decide (F.m.name=([60,105,110,105,116,62]:Str))) 14
def Q2c(F:SF)(o1 o2:Bool)(st lo:List Typ)(k:Int):SW:=
 if F.i.op=1 then ⟨true,o2,st++[⟨1,[],0⟩],lo,k⟩
 else if F.i.op=2 then ⟨true,o2,st++[⟨2,[],0⟩],lo,k⟩
 else if F.i.op=3 then (if ndC k (ldB F lo) 10=0 then ⟨true,o2,st++[atL lo F.i.a.toNat],lo,0⟩ else ⟨o1,o2,st,lo,ndC k (ldB F lo) 10⟩)
 else if F.i.op=4 then (if stK F st lo k=0 then ⟨tkO o1 k st 1,true,tkL k st 1,lo.set F.i.a.toNat (atL (tkV k st 1) 0),0⟩ else ⟨tkO o1 k st 1,o2,tkL k st 1,lo,stK F st lo k⟩)
 else if F.i.op=5 then ⟨tkO o1 k st 1,o2,tkL k st 1,lo,tkC k st 1⟩
 else if F.i.op=6 then ⟨true,o2,tkL k st 1++[atL (tkV k st 1) 0]++[atL (tkV k st 1) 0],lo,tkC k st 1⟩
 else if F.i.op=7 then ⟨true,o2,tkL k st 2++[atL (tkV k st 2) 1]++[atL (tkV k st 2) 0],lo,tkC k st 2⟩
 else if F.i.op=30 then ⟨true,o2,tkL k st 2++[atL (tkV k st 2) 0]++[atL (tkV k st 2) 1]++[atL (tkV k st 2) 0]++[atL (tkV k st 2) 1],lo,tkC k st 2⟩
 else if F.i.op=20∨F.i.op=21 then ⟨tkO o1 k st 1,o2,tkL k st 1,lo,ndC (tkC k st 1) (decide ((atL (tkV k st 1) 0).k=1)) 10⟩
 else if F.i.op=22∨F.i.op=23 then ⟨tkO o1 k st 2,o2,tkL k st 2,lo,ndC (ndC (tkC k st 2) (decide ((atL (tkV k st 2) 0).k=1)) 10) (decide ((atL (tkV k st 2) 1).k=1)) 10⟩
 else if F.i.op=24 then ⟨tkO o1 k st 1,o2,tkL k st 1,lo,ndC (tkC k st 1) (Q48 (atL (tkV k st 1) 0)) 10⟩
 else if F.i.op=25 then ⟨tkO o1 k st 2,o2,tkL k st 2,lo,ndC (tkC k st 2) (Q48 (atL (tkV k st 2) 0)&&Q48 (atL (tkV k st 2) 1)) 10⟩
 else if F.i.op=39∨F.i.op=40 then ⟨true,o2,tkL k st 1++[if F.i.op=39 then Q11 F.i.cls else ⟨1,[],0⟩],lo,ndC (ndC (tkC k st 1) (isKnown F.l F.i.cls) 6) (Q48 (atL (tkV k st 1) 0)) 10⟩
 else ⟨o1,o2,st,lo,k⟩
def d2L(a:List Typ):Nat→List Typ
 |0=>[]
 |j+1=>d2L a j++[atL a (j%2)]
theorem Q120(l:List Typ)(n:Nat)(a c:Int)(t:Str):(l.map eT).set n (V.agg [.int .i64 a,.str t,.int .i64 c])=(l.set n ⟨a,t,c⟩).map eT:=by rw[List.map_set];rfl
@[simp] theorem pure_setT (l:List Typ) (n:Nat) (a c:Int) (t:Str):pureL ((l.map eT).set n (V.agg [.int .i64 a,.str t,.int .i64 c]))=true:=by rw[Q120];exact pureL_eT _
@[simp] theorem jk_setT (p:Nat→Bool) (l:List Typ) (n:Nat) (a c:Int) (t:Str):jkL p ((l.map eT).set n (V.agg [.int .i64 a,.str t,.int .i64 c]))=(l.map eT).set n (V.agg [.int .i64 a,.str t,.int .i64 c]):=by rw[Q120];exact jkL_eT p _
@[simp] theorem take_setT (l:List Typ) (n:Nat) (x:V):List.take l.length ((l.map eT).set n x)=(l.map eT).set n x:=List.take_of_length_le Z3
@[simp] theorem ndC_f10 (k:Int):(ndC k false 10=0)=False:=by
 unfold ndC
 by_cases h:k=0<;>simp[h]
theorem Qzp(a:List Typ): ∀j,(d2L a j).length=j
 |0=>rfl
 |j+1=>by simp[d2L,Qzp a j]
theorem mod2(j:Nat):Int.tmod (j:Int) 2=((j%2:Nat):Int):=by rw[Int.tmod_eq_emod_of_nonneg Zb];omega
def Qq0(F:SF)(o1 o2:Bool)(st lo:List Typ)(k:Int):SW:=⟨true,o2,tkL k st 2++[atL (tkV k st 2) 0],lo,ndC (ndC (tkC k st 2) (decide ((atL (tkV k st 2) 0).k=1)) 10) (decide ((atL (tkV k st 2) 1).k=1)) 10⟩
def Q9a(F:SF)(o1 o2:Bool)(st lo:List Typ)(k:Int):SW:=
 if 8≤F.i.op∧F.i.op≤18 then Qq0 F o1 o2 st lo k
 else if 26≤F.i.op∧F.i.op≤29 then Qf8 F o1 o2 st lo k
 else if F.i.op=31 then Qij F o1 o2 st lo k
 else if 32≤F.i.op∧F.i.op≤35 then fdS F o1 o2 st lo k
 else if 36≤F.i.op∧F.i.op≤38 then Q4h F o1 o2 st lo k
 else if 41≤F.i.op then Qb2 F o1 o2 st lo k
 else Q2c F o1 o2 st lo k
def Qap(F:SF)(s:SW):SW:=⟨s.o1,s.o2,s.st,s.lo,ndC s.k (decide ((s.st.length:Int)≤F.m.stack)) 11⟩
def Q7q(F:SF)(o1 o2:Bool)(st lo:List Typ)(k:Int):SW:=Qap F (Q9a F o1 o2 st lo k)
theorem Q123(r:Str)(s:SW):(Qms r s).st.length≤s.st.length+1∧(Qms r s).lo.length=s.lo.length:=by
 unfold Qms
 split<;>simp
def LenS(s:SW)(n m:Nat):Prop:=s.st.length≤n∧s.lo.length=m
theorem Qmz{c:Prop}[Decidable c]{x y:SW}{n m:Nat}(hx:LenS x n m)(hy:LenS y n m):LenS (if c then x else y) n m:=by
 by_cases h:c
 ·rw[if_pos h];exact hx
 ·rw[if_neg h];exact hy
theorem Q132(F:SF)(o1 o2:Bool)(st lo:List Typ)(k:Int):LenS (Q9a F o1 o2 st lo k) (st.length+4) lo.length:=by
 have h0:=Q24 k st (Qgs F.i)
 have h1:=Q24 k st 1
 have h2:=Q24 k st 2
 have h3:=Q24 k st 3
 have h4:=Q24 k st (Q3u F)
 unfold Q9a
 refine Qmz ?_ (Qmz ?_ (Qmz ?_ (Qmz ?_ (Qmz ?_ (Qmz ?_ ?_)))))
 ·unfold Qq0
  all_goals (refine ⟨?_,?_⟩<;>(simp only[List.length_append,List.length_cons,List.length_nil,List.length_set,List.length_map])<;>omega)
 ·unfold Qf8
  repeat' apply Qmz
  all_goals (refine ⟨?_,?_⟩<;>(simp only[List.length_append,List.length_cons,List.length_nil,List.length_set,List.length_map])<;>omega)
 ·unfold Qij
  repeat' apply Qmz
  all_goals (refine ⟨?_,?_⟩<;>(simp only[List.length_append,List.length_cons,List.length_nil,List.length_set,List.length_map])<;>omega)
 ·unfold fdS
  repeat' apply Qmz
  all_goals (refine ⟨?_,?_⟩<;>(simp only[List.length_append,List.length_cons,List.length_nil,List.length_set,List.length_map])<;>omega)
 ·unfold Q4h
  refine Qmz ?_ ?_
  ·have h5:LenS (Q5u F (tkO o1 k st (Q3u F)) o2 (tkL k st (Q3u F)) lo (Q58 F st k) (tkV k st (Q3u F))) (tkL k st (Q3u F)).length lo.length:=by
    unfold Q5u
    repeat' apply Qmz
    all_goals (refine ⟨?_,?_⟩<;>(simp only[List.length_append,List.length_cons,List.length_nil,List.length_set,List.length_map])<;>omega)
   have h6:=Q123 (Qd F.i.desc).res (Q5u F (tkO o1 k st (Q3u F)) o2 (tkL k st (Q3u F)) lo (Q58 F st k) (tkV k st (Q3u F)))
   unfold LenS at h5⊢
   omega
  ·refine ⟨?_,rfl⟩
   show (tkL k st (Q3u F)).length≤_
   omega
 ·unfold Qb2
  repeat' apply Qmz
  all_goals (refine ⟨?_,?_⟩<;>(simp only[List.length_append,List.length_cons,List.length_nil,List.length_set,List.length_map])<;>omega)
 ·unfold Q2c
  repeat' apply Qmz
  all_goals (refine ⟨?_,?_⟩<;>(simp only[List.length_append,List.length_cons,List.length_nil,List.length_set,List.length_map])<;>omega)
theorem Qrt(F:SF)(o1 o2:Bool)(st lo:List Typ)(k:Int):(Q7q F o1 o2 st lo k).st.length≤st.length+4∧(Q7q F o1 o2 st lo k).lo.length=lo.length:=Q132 F o1 o2 st lo k
def frOf(s:SW):FrO:=if s.k=0 then ⟨⟨s.st,s.lo⟩,0⟩ else zFo s.k
def efT(F:SF)(f:Frm):FrO:=frOf (Q7q F false false f.stack f.locals 0)
def Qgm(l:List Cls)(c m a:Int)(f:Frm):Bool:=Qdc l f&&(Q5c l c m&&(!(Qd4 l c m).abstr&&(decide (0≤a∧a<(Qd4 l c m).code.length)&&(decide ((f.stack.length:Int)≤(Qd4 l c m).stack)&&decide ((f.locals.length:Int)=(Qd4 l c m).locals)))))
def Q6e(l:List Cls)(c m a:Int):SF:=⟨l,Qzq l c m,Qd4 l c m,atL (Qd4 l c m).code a.toNat,a⟩
theorem Qyf{x:Ins}(h:Q1l x=true):1≤x.op∧x.op≤44:=by
 by_cases h1:x.op<1∨44<x.op
 ·have:Q67 x.op=[33]:=by unfold Q67;rw[if_pos h1]
  simp[Q1l,this] at h
 ·omega
theorem Q15s{x:Ins}(h:Q1l x=true)(h2:x.op=3∨x.op=4):0≤x.a:=by
 have:Q67 x.op=[105]:=by rcases h2 with e|e<;>rw[e]<;>decide
 simp[Q1l,this] at h
 omega
theorem Q12r{x:Ins}(h:Q1l x=true)(h2:x.op=36∨x.op=37∨x.op=38):(Qd x.desc).code=0:=by
 have:Q67 x.op=[109]:=by rcases h2 with e|e|e<;>rw[e]<;>decide
 simp[Q1l,this] at h
 exact h.2
theorem Qas{x:Ins}(h:Q1l x=true)(h2:x.op=36∨x.op=37∨x.op=38):Q45 x.desc=(Qy x.desc).params.length∧Qd x.desc=Qy x.desc:=by
 have hc:=Q12r h h2
 rw[Qru hc]
 exact ⟨by unfold Q45;rw[if_pos hc],rfl⟩
theorem Qs6{l:List Cls}(hR:Qs l=true){i j:Nat}(p1:i<l.length)(p2:j<l[i].methods.length)(ha:l[i].methods[j].abstr=false){n:Nat}(p3:n<l[i].methods[j].code.length):
  Q1l l[i].methods[j].code[n]=true∧(l[i].methods[j].name=Qn→1≤l[i].methods[j].locals∧l[i].methods[j].static=false∧(Qy l[i].methods[j].desc).res=[86]):=by
 have h:=Q6s hR p1 p2
 have hh:=Q8a h
 rw[Q6f hh ha] at h
 simp only[Bool.and_eq_true,decide_eq_true_eq,Qly,List.all_eq_true] at h
 obtain ⟨⟨⟨_,h1,_⟩,h2⟩,h3⟩:=h
 refine ⟨?_,fun hn=> ?_⟩
 ·have:=h1 _ (List.getElem_mem p3)
  simp only[Q69,Bool.and_eq_true] at this
  exact this.1
 ·rw[hn] at h3
  simp at h3
  have:=Qig l[i].methods[j].desc
  have hc:=Qif hh
  have hd:0≤Q45 l[i].methods[j].desc:=by unfold Q45;rw[if_pos hc];omega
  rw[h3.1.1] at h2
  simp at h2
  exact ⟨by omega,h3.1.1,h3.2⟩
theorem Q13l{l:List Cls}(hR:Qs l=true){i j:Nat}(p1:i<l.length)(p2:j<l[i].methods.length)(ha:l[i].methods[j].abstr=true):l[i].methods[j].code.length=0:=by
 have h:=Q6s hR p1 p2
 rw[Q6t (Q8a h) ha] at h
 simp only[Bool.and_eq_true,decide_eq_true_eq] at h
 exact h.1.1.1.2.2.1
theorem Qr3{l:List Cls}{i j:Nat}(p1:i<l.length)(p2:j<l[i].methods.length):Q3q l[i].methods[j]≤Q1w l:=by
 have h1:=Q46 p1
 have h2:=Q3j (f:=Q3q) (List.getElem_mem p2)
 simp only[Q1r] at h1
 omega
theorem Qx0{m:Mth}{n:Nat}(p3:n<m.code.length):Q73 m.code[n]≤Q3q m:=by
 have h2:=Q3j (f:=Q73) (List.getElem_mem p3)
 unfold Q3q
 omega
def FP(l:List Cls)(m:Mth)(x:Ins)(f:Frm):Prop:=Qs l=true∧f.stack.length≤100∧f.locals.length≤100∧(x.op=3∨x.op=4→0≤x.a)∧x.desc.length≤1099511627776∧m.desc.length≤1099511627776∧(m.name=Qn→0<f.locals.length)
theorem Qc2(l:List Cls)(c m a:Int)(f:Frm)(hs:Q1w l≤1048576):Qgm l c m a f=false∨ ∃i j n:Nat,c=i∧m=j∧a=n∧Qgm l i j n f=true∧ ∃(p1:i<l.length) (p2:j<l[i].methods.length) (p3:n<l[i].methods[j].code.length),
  FP l l[i].methods[j] l[i].methods[j].code[n] f∧Q6e l i j n=⟨l,l[i],l[i].methods[j],l[i].methods[j].code[n],n⟩:=by
 cases hF:Qgm l c m a f
 ·exact .inl rfl
 ·refine .inr ?_
  have hF0:=hF
  simp only[Qgm,Bool.and_eq_true,decide_eq_true_eq,Bool.not_eq_true',Qdc,Qn0] at hF
  obtain ⟨⟨hR,h1,h2,_⟩,hT,hA,⟨h3,h4⟩,h5,h6⟩:=hF
  rcases Qok l c m with ⟨_,_,hT2⟩|⟨i,rfl,_,_,hT2⟩|⟨i,rfl,_,_,hT2⟩|⟨i,j,rfl,rfl,_,_,hT2⟩|⟨i,j,rfl,rfl,p1,p2,_⟩
  ·rw[hT2] at hT;cases hT
  ·rw[hT2] at hT;cases hT
  ·rw[hT2] at hT;cases hT
  ·rw[hT2] at hT;cases hT
  ·have e:=Qbz hT p1 p2
   obtain ⟨n,rfl⟩: ∃n:Nat,a=n:=⟨a.toNat,by omega⟩
   rw[e] at hA h4 h5 h6
   have p3:n<l[i].methods[j].code.length:=by omega
   have hc:=Qs6 hR p1 p2 hA p3
   have z1:=Qr3 p1 p2
   have z2:=Qx0 p3
   refine ⟨i,j,n,rfl,rfl,rfl,hF0,p1,p2,p3,⟨hR,by omega,by omega,Q15s hc.1,?_,?_,fun e=> ?_⟩,?_⟩
   ·unfold Q73 at z2;omega
   ·unfold Q3q at z1;omega
   ·have:=(hc.2 e).1;omega
   ·unfold Q6e
    rw[e,Qoy hT p1]
    simp[Qa p3]
attribute [simp] St.nilF
def Qx5(l:List Cls)(c m a:Int)(f:Frm):Bool:=Qs l&&(Q5c l c m&&(Qn0 l f&&(decide (0≤a∧a≤((Qd4 l c m).code.length:Int)-1)&&(!decide ((Qd4 l c m).stack<(f.stack.length:Int))&&decide ((f.locals.length:Int)=(Qd4 l c m).locals)))))
theorem Ql7(l:List Cls)(c m a:Int)(f:Frm):Qx5 l c m a f=Qgm l c m a f:=by
 unfold Qx5 Qgm Qdc
 cases hR:Qs l
 ·rfl
 cases hT:Q5c l c m
 ·simp
 cases hF:Qn0 l f
 ·simp
 simp only[Bool.true_and]
 cases hA:(Qd4 l c m).abstr
 ·simp only[Bool.not_false,Bool.true_and]
  congr 1
  ·apply Bool.eq_iff_iff.2;simp only[decide_eq_true_eq];omega
  ·congr 1
   apply Bool.eq_iff_iff.2;simp
 ·simp only[Bool.not_true,Bool.false_and]
  rcases Qok l c m with ⟨_,_,hT2⟩|⟨i,rfl,_,_,hT2⟩|⟨i,rfl,_,_,hT2⟩|⟨i,j,rfl,rfl,_,_,hT2⟩|⟨i,j,rfl,rfl,p1,p2,_⟩
  any_goals (rw[hT2] at hT;cases hT;done)
  rw[Qbz hT p1 p2] at hA⊢
  have:=Q13l hR p1 p2 hA
  rw[this]
  have:decide (0≤a∧a≤((0:Nat):Int)-1)=false:=decide_eq_false Zb
  rw[this];rfl
theorem Qox{l:List Cls}{c m a:Int}{f:Frm}(hs:Q1w l≤1048576)(h:Qx5 l c m a f=true):
  Qs l=true∧f.stack.length≤100∧f.locals.length≤100∧((Q6e l c m a).i.op=3∨(Q6e l c m a).i.op=4→0≤(Q6e l c m a).i.a)∧(Q6e l c m a).i.desc.length≤1099511627776∧(Q6e l c m a).m.desc.length≤1099511627776∧(Q6e l c m a).i.cls.length≤1099511627776∧
  ((Q6e l c m a).i.op=36∨(Q6e l c m a).i.op=37∨(Q6e l c m a).i.op=38→Q45 (Q6e l c m a).i.desc=(Qy (Q6e l c m a).i.desc).params.length)∧(1≤(Q6e l c m a).i.op∧(Q6e l c m a).i.op≤44)∧0≤(Q6e l c m a).at'∧
  (∃hlt:(Q6e l c m a).at'.toNat<(Q6e l c m a).m.code.length,(Q6e l c m a).m.code[(Q6e l c m a).at'.toNat]=(Q6e l c m a).i)∧0≤Q2a (Q6e l c m a).i∧Q1l (Q6e l c m a).i=true:=by
 rw[Ql7] at h
 rcases Qc2 l c m a f hs with h0|⟨i,j,n,rfl,rfl,rfl,hF,p1,p2,p3,hP,hsf⟩
 ·rw[h0] at h;cases h
 ·rw[hsf]
  have hA:l[i].methods[j].abstr=false:=by
   have hF2:=hF
   simp only[Qgm,Bool.and_eq_true,Bool.not_eq_true'] at hF2
   rw[Qbz hF2.2.1 p1 p2] at hF2
   exact hF2.2.2.1
  have hc:=(Qs6 hP.1 p1 p2 hA p3).1
  have z1:=Qr3 p1 p2
  have z2:=Qx0 p3
  have hi:=Qyf hc
  refine ⟨hP.1,hP.2.1,hP.2.2.1,hP.2.2.2.1,hP.2.2.2.2.1,hP.2.2.2.2.2.1,?_,fun e=>(Qas hc e).1,hi,?_,⟨?_,?_⟩,?_,hc⟩
  ·show l[i].methods[j].code[n].cls.length≤_
   unfold Q73 at z2;omega
  ·show (0:Int)≤(n:Int);omega
  ·simpa using p3
  ·simp
  ·show 0≤Q2a l[i].methods[j].code[n]
   unfold Q2a
   split
   ·decide
   split
   ·decide
   split
   ·decide
   split
   ·rename_i e
    rw[(Qas hc Zb).1];omega
   split
   ·rename_i e
    rw[(Qas hc Zb).1];omega
   split<;>decide
theorem Q10q{l:List Cls}{a b:Str}(h:out (Qq l a) b=true):isKnown l b=true:=Qrf (a:=a) (by simpa[out] using h)
theorem Q12o{l:List Cls}{a b:Typ}(ha:Q1s l a=true)(hb:b.at'=0)(hb2:b.k≠2):leI l a b=leT l a b:=by
 unfold leI leT
 by_cases h1:a=b∨b.k=0
 ·rw[if_pos h1,if_pos h1]
 ·rw[if_neg h1,if_neg h1]
  by_cases h2:a.k=2
  ·rw[if_pos h2,if_pos h2]
   unfold Q48
   rw[Bool.eq_iff_iff];simp;omega
  ·rw[if_neg h2,if_neg h2]
   by_cases h3:(a.k=3∧b.k=3)∨(a.k=5∧b.k=5)
   ·rw[if_pos h3,if_pos h3]
    have ka:=Qa3 ha Zb
    unfold subS
    rw[Q9d ka.1]
    cases ho:out (Qq l a.c) b.c
    ·simp
    ·rw[Q10q ho];rfl
   ·rw[if_neg h3,if_neg h3,Bool.and_assoc]
    congr 1
    rw[Bool.eq_iff_iff]
    simp only[decide_eq_true_eq,Bool.and_eq_true]
    constructor
    ·rintro rfl;exact ⟨rfl,rfl⟩
    ·rintro ⟨e1,e2⟩;exact Qq3 e1 e2 hb
theorem Qre{l:List Cls}{a:Typ}{c:Str}(ha:Q1s l a=true):leI l a (Q11 c)=leT l a (Q11 c):=Q12o ha rfl (by simp[Q11])
theorem Qte(s:Str):(Q1o s).at'=0∧(Q1o s).k≠2:=by
 unfold Q1o
 repeat' split
 all_goals simp[zT]
theorem Qqb{l:List Cls}{a:Typ}{s:Str}(ha:Q1s l a=true):leI l a (Q1o s)=leT l a (Q1o s):=Q12o ha (Qte s).1 (Qte s).2
theorem Quw{l:List Cls}{xs:List Typ}{off:Nat}{ps:List Str}(hx: ∀t∈xs,Q1s l t=true): ∀n,off+n≤xs.length→Qgf l (xs.drop off) ps n=Qbt l xs off ps n
 |0,_=>rfl
 |n+1,h=>by
  simp only[Qgf,Qbt]
  rw[Quw hx n Zb]
  congr 1
  rw[Qa (show off+n<xs.length by omega),Qa (show n<(xs.drop off).length by rw[List.length_drop];omega),List.getElem_drop]
  exact Qqb (hx _ (List.getElem_mem _))
theorem Q14a{l:List Cls}{xs:List Typ}{ps:List Str}(hx: ∀t∈xs,Q1s l t=true)(n:Nat)(h:n≤xs.length):Qgf l xs ps n=Qbt l xs 0 ps n:=by
 have:=Quw (off:=0) (ps:=ps) hx n Zb
 simpa using this
theorem Q177{st:List Typ}{n:Nat}(h:st.length<n)(o:Bool):tkC 0 st n=11∧tkL 0 st n=st:=by
 have h2:Qa8 0 st n=true:=by simp[Qa8,h]
 have:=Qxs h2 o
 exact ⟨by rw[this.1];simp[ndC],this.2.1⟩
theorem Qcf{st:List Typ}{n:Nat}(h:n≤st.length):tkC 0 st n=0∧tkL 0 st n=st.take (st.length-n)∧tkV 0 st n=st.drop (st.length-n):=by
 have h2:Qa8 0 st n=false:=by simp[Qa8];omega
 have:=Q11r (q:=st.length-n) h2 Zb true
 exact ⟨this.1,this.2.1,this.2.2.1⟩
@[simp] theorem ndC_0 (b:Bool) (c:Int):ndC 0 b c=cu b c:=by unfold ndC cu;cases b<;>simp
theorem Q15p{k:Int}(h:k≠0)(b:Bool)(c:Int):ndC k b c=k:=by unfold ndC;rw[if_neg (fun e=>h e.1)]
theorem Qgj(b:Bool)(c:Int):ndC 11 b c=11:=Q15p Z3w b c
def Q3i(s:SW)(x:IW):Prop:=s.k=x.k∧(x.k=0→s.st=x.st∧s.lo=x.lo)
theorem Q121{F:SF}{s:SW}{x:IW}(h:Q3i s x):Q3i (Qap F s) (if x.k=0 then ⟨cu (decide ((x.st.length:Int)≤F.m.stack)) 11,x.st,x.lo⟩ else x):=by
 obtain ⟨h1,h2⟩:=h
 by_cases h3:x.k=0
 ·rw[if_pos h3]
  obtain ⟨h4,h5⟩:=h2 h3
  exact ⟨by show ndC s.k _ 11=cu _ 11;rw[h1,h3,ndC_0,h4],fun _=>⟨h4,h5⟩⟩
 ·rw[if_neg h3]
  exact ⟨by show ndC s.k _ 11=x.k;rw[h1,Q15p h3],fun e=>absurd e h3⟩
theorem Qva{l:List Typ}(h:l.length=1): ∃a,l=[a]:=by
 match l,h with
 |[a],_=>exact ⟨a,rfl⟩
theorem len2{l:List Typ}(h:l.length=2): ∃a b,l=[a,b]:=by
 match l,h with
 |[a,b],_=>exact ⟨a,b,rfl⟩
theorem len3{l:List Typ}(h:l.length=3): ∃a b c,l=[a,b,c]:=by
 match l,h with
 |[a,b,c],_=>exact ⟨a,b,c,rfl⟩
theorem Q16h{l:List Cls}{t:Typ}(h:Q1s l t=true)(hk:t.k=1):t=⟨1,[],0⟩:=by
 obtain ⟨h1,h2,_⟩:=Qyc h Zb Zb
 exact Qq3 hk h1 h2
theorem Ql5{l:List Cls}{st:List Typ}(h: ∀t∈st,Q1s l t=true)(q:Nat): ∀t∈st.drop q,Q1s l t=true:=fun t ht=>h t (List.mem_of_mem_drop ht)
theorem Q17n{F:SF}{o1 o2:Bool}{st lo:List Typ}(hst: ∀t∈st,Q1s F.l t=true)(hn:2≤st.length):
  Q3i (Qq0 F o1 o2 st lo 0) (if Q2v (st.drop (st.length-2))=true then ⟨0,st.take (st.length-2)++[⟨1,[],0⟩],lo⟩ else ⟨10,st.take (st.length-2),lo⟩):=by
 obtain ⟨e1,e2,e3⟩:=Qcf hn
 have hk:=Ql5 hst (st.length-2)
 obtain ⟨a,b,hd⟩:=len2 (show (st.drop (st.length-2)).length=2 by rw[List.length_drop];omega)
 rw[hd] at hk e3⊢
 unfold Qq0 Q3i
 rw[e1,e2,e3]
 have ha:=hk a Z3
 by_cases h1:a.k=1
 ·have:=Q16h ha h1
  subst this
  by_cases h2:b.k=1<;>simp[Q2v,h2,cu,ndC]
 ·simp[Q2v,h1,cu,ndC]
theorem Q17e{F:SF}{o1 o2:Bool}{st lo:List Typ}{n:Nat}(hst: ∀t∈st,Q1s F.l t=true)(hop:26≤F.i.op∧F.i.op≤29)(hn:n=if F.i.op=26 then 0 else 1)(hl:n≤st.length)(hm:Qd F.m.desc=Qy F.m.desc)(hi:F.m.name=Qn→0<lo.length):
  Q3i (Qf8 F o1 o2 st lo 0) ⟨Qfb F lo (st.drop (st.length-n)),st.take (st.length-n),lo⟩:=by
 unfold Qf8 Qfb
 rw[hm]
 by_cases h26:F.i.op=26
 ·have e26:(F.i.op=26)=True:=eq_true h26
  have e29:(F.i.op=29)=False:=eq_false Zb
  rw[if_pos h26] at hn
  subst hn
  simp only[e26,e29,if_true,if_false]
  refine ⟨?_,fun _=>⟨by simp,rfl⟩⟩
  by_cases h1:(Qy F.m.desc).res=[86]
  ·by_cases h2:F.m.name=Qn
   ·have:=hi h2
    simp[h1,h2,this,cu,ndC]
   ·simp[h1,h2,cu,ndC]
  ·by_cases h2:F.m.name=Qn<;>simp[h1,h2,cu,ndC]
 ·rw[if_neg h26] at hn⊢
  subst hn
  obtain ⟨e1,e2,e3⟩:=Qcf hl
  have hk:=Ql5 hst (st.length-1)
  obtain ⟨a,hd⟩:=Qva (show (st.drop (st.length-1)).length=1 by rw[List.length_drop];omega)
  rw[hd] at hk e3⊢
  rw[e1,e2,e3]
  have ha:=hk a Z3
  have hr:=Qre (c:=Q16) ha
  have hf:=Qqb (s:=(Qy F.m.desc).res) ha
  refine ⟨?_,fun _=>⟨rfl,rfl⟩⟩
  rcases (by omega:F.i.op=27∨F.i.op=28∨F.i.op=29) with h|h|h
  ·by_cases h1:(Qy F.m.desc).res=[73]<;>simp[h,h1,cu,ndC,Q2v]
  ·by_cases h1:(Qy F.m.desc).res=[86]<;>by_cases h2:(Qy F.m.desc).res=[73]<;>simp[h,h1,h2,cu,ndC,hf]<;>(cases leT F.l a (Q1o (Qy F.m.desc).res)<;>simp)
  ·simp[h,cu,ndC,hr]
   cases leT F.l a (Q11 Q16)<;>simp
theorem Q17c{F:SF}{o1 o2:Bool}{st lo:List Typ}(hw:Qs F.l=true):Q3i (Qij F o1 o2 st lo 0) (Qik F st lo):=by
 unfold Qij Qik Qy5 Qzd Q3i
 have e:Q9o F=Qd2 F:=rfl
 rw[e]
 by_cases h1:isKnown F.l F.i.cls=true
 ·rw[if_pos h1]
  have ha:abOK F= !(Q1q F.l F.i.cls).abstr:=by
   unfold abOK Q1q
   by_cases h:Qi F.i.cls F.l 0<0
   ·rw[decide_eq_true h,if_neg Zb];rfl
   ·rw[decide_eq_false h,if_pos Zb];rfl
  rw[ha,h1]
  cases h2:(Q1q F.l F.i.cls).abstr
  ·have h3:(st.all fun x=> !decide (x=Qd2 F))= !(st.any fun x=>decide (Qd2 F=x)):=by
    induction st with
    |nil=>rfl
    |cons x xs ih=>simp only[List.all_cons,List.any_cons,ih,Bool.not_or];congr 2;exact decide_eq_decide.2 ⟨Eq.symm,Eq.symm⟩
   rw[h3]
   cases h4:(st.any fun x=>decide (Qd2 F=x))<;>simp[ndC,cu]
  ·simp[ndC,cu]
 ·rw[if_neg h1]
  simp only[Bool.not_eq_true] at h1
  simp[h1,ndC,cu]
theorem Q17a{F:SF}{o1 o2:Bool}{st lo:List Typ}{n:Nat}(hop:F.i.op≤7∨F.i.op=30)(hop1:1≤F.i.op)(hia:F.i.op=3∨F.i.op=4→0≤F.i.a)(hn:(n:Int)=Q2a F.i)(hl:n≤st.length):
  Q3i (Q2c F o1 o2 st lo 0) (Q2p F (st.take (st.length-n)) lo (st.drop (st.length-n))):=by
 obtain ⟨e1,e2,e3⟩:=Qcf hl
 rcases (by omega:F.i.op=1∨F.i.op=2∨F.i.op=3∨F.i.op=4∨F.i.op=5∨F.i.op=6∨F.i.op=7∨F.i.op=30) with h|h|h|h|h|h|h|h
 all_goals (simp[Q2a,tk1,tk2,h] at hn;subst hn)
 ·simp[Q2c,Q2p,h,Q3i]
 ·simp[Q2c,Q2p,h,Q3i]
 ·unfold Q2c Q2p Q3i ldB
  simp only[h]
  by_cases h1:F.i.a<(lo.length:Int)
  ·by_cases h2:(atL lo F.i.a.toNat).k=0<;>simp[h1,h2,cu]
  ·simp[h1,cu]
 ·have ha:=hia (.inr h)
  unfold Q2c Q2p Q3i stK
  rw[e1,e2,e3]
  simp only[h]
  by_cases h1:F.i.a<(lo.length:Int)
  ·by_cases h2:F.i.a=0
   ·by_cases h3:F.m.name=Qn
    ·have: ¬0<F.i.a:=by omega
     have h6:0<lo.length:=by omega
     have h5:lo≠[]:=fun e=>by rw[e] at h6;simp at h6
     simp[h2,h3,cu,ndC,Qn,h5,h6]
    ·have h3': ¬F.m.name=[60,105,110,105,116,62]:=h3
     have h6:0<lo.length:=by omega
     have h5:lo≠[]:=fun e=>by rw[e] at h6;simp at h6
     simp[h2,h3',h3,cu,ndC,h5,h6]
   ·have h4:0<F.i.a:=by omega
    simp[h1,h2,h4,cu,ndC]
  ·simp[h1,cu,ndC]
 all_goals (simp[Q2c,Q2p,h,Q3i,e1,e2,e3])
theorem Q17f{F:SF}{o1 o2:Bool}{st lo:List Typ}{n:Nat}(hop:19≤F.i.op∧F.i.op≤23)(hn:(n:Int)=Q2a F.i)(hl:n≤st.length):
  Q3i (Q2c F o1 o2 st lo 0) ⟨cu (Q2v (st.drop (st.length-n))) 10,st.take (st.length-n),lo⟩:=by
 obtain ⟨e1,e2,e3⟩:=Qcf hl
 have hd:(st.drop (st.length-n)).length=n:=by rw[List.length_drop];omega
 rcases (by omega:F.i.op=19∨F.i.op=20∨F.i.op=21∨F.i.op=22∨F.i.op=23) with h|h|h|h|h
 all_goals (simp[Q2a,tk1,tk2,h] at hn;subst hn)
 ·simp[Q2c,h,Q3i,Q2v,cu]
 ·obtain ⟨a,ea⟩:=Qva hd
  rw[ea] at e3⊢
  by_cases h1:a.k=1<;>simp[Q2c,h,Q3i,e1,e2,e3,Q2v,h1,cu]
 ·obtain ⟨a,ea⟩:=Qva hd
  rw[ea] at e3⊢
  by_cases h1:a.k=1<;>simp[Q2c,h,Q3i,e1,e2,e3,Q2v,h1,cu]
 ·obtain ⟨a,b,ea⟩:=len2 hd
  rw[ea] at e3⊢
  by_cases h1:a.k=1<;>by_cases h2:b.k=1<;>simp[Q2c,h,Q3i,e1,e2,e3,Q2v,h1,h2,cu,ndC]
 ·obtain ⟨a,b,ea⟩:=len2 hd
  rw[ea] at e3⊢
  by_cases h1:a.k=1<;>by_cases h2:b.k=1<;>simp[Q2c,h,Q3i,e1,e2,e3,Q2v,h1,h2,cu,ndC]
theorem Q17b{F:SF}{o1 o2:Bool}{st lo:List Typ}{n:Nat}(hop:F.i.op=24∨F.i.op=25)(hn:(n:Int)=Q2a F.i)(hl:n≤st.length):
  Q3i (Q2c F o1 o2 st lo 0) ⟨cu (Qee (st.drop (st.length-n))) 10,st.take (st.length-n),lo⟩:=by
 obtain ⟨e1,e2,e3⟩:=Qcf hl
 have hd:(st.drop (st.length-n)).length=n:=by rw[List.length_drop];omega
 rcases hop with h|h
 all_goals (simp[Q2a,tk1,tk2,h] at hn;subst hn)
 ·obtain ⟨a,ea⟩:=Qva hd
  rw[ea] at e3⊢
  simp[Q2c,h,Q3i,e1,e2,e3,Qee]
 ·obtain ⟨a,b,ea⟩:=len2 hd
  rw[ea] at e3⊢
  simp[Q2c,h,Q3i,e1,e2,e3,Qee]
theorem Q167{F:SF}{o1 o2:Bool}{st lo:List Typ}(hop:F.i.op=39∨F.i.op=40)(hl:1≤st.length):
  Q3i (Q2c F o1 o2 st lo 0) (csI F (st.take (st.length-1)) lo (st.drop (st.length-1))):=by
 obtain ⟨e1,e2,e3⟩:=Qcf hl
 obtain ⟨a,ea⟩:=Qva (show (st.drop (st.length-1)).length=1 by rw[List.length_drop];omega)
 rw[ea] at e3⊢
 unfold csI
 rcases hop with h|h
 all_goals (cases h1:isKnown F.l F.i.cls<;>cases h2:Q48 a<;>simp[Q2c,h,Q3i,e1,e2,e3,Qee,h1,h2,cu,ndC])
theorem Q12q{x:Ins}(h:Q1l x=true)(h2:x.op=41):(Q1c x.desc=[]↔x.desc=[73]):=by
 have:Q67 x.op=[121]:=by rw[h2];decide
 simp[Q1l,this] at h
 obtain ⟨⟨_,h3⟩,h4⟩:=h
 constructor
 ·intro e
  refine Classical.byContradiction fun hn=>Qe2 h3 hn (fun e2=> ?_) e
  rw[e2] at h4;simp[Q23] at h4
 ·intro e;rw[e];decide
theorem Q17d{F:SF}{o1 o2:Bool}{st lo:List Typ}{n:Nat}(hr:Q1l F.i=true)(hop:41≤F.i.op∧F.i.op≤44)(hn:(n:Int)=Q2a F.i)(hl:n≤st.length):
  Q3i (Qb2 F o1 o2 st lo 0) (lsI F (st.take (st.length-n)) lo (st.drop (st.length-n))):=by
 obtain ⟨e1,e2,e3⟩:=Qcf hl
 have hd:(st.drop (st.length-n)).length=n:=by rw[List.length_drop];omega
 rcases (by omega:F.i.op=41∨F.i.op=42∨F.i.op=43∨F.i.op=44) with h|h|h|h
 all_goals (simp[Q2a,tk1,tk2,h] at hn;subst hn)
 ·have hi:=Q12q hr h
  obtain ⟨a,ea⟩:=Qva hd
  rw[ea] at e3⊢
  unfold Qb2 lsI Qv8 lsK
  rw[e1,e2,e3]
  by_cases h1:F.i.desc=[73]
  ·have h2:=hi.2 h1
   rw[h1] at h2
   by_cases h3:a.k=1<;>simp[h,Q3i,h1,h2,h3,cu,ndC]
  ·have h2: ¬Q1c F.i.desc=[]:=fun e=>h1 (hi.1 e)
   cases h4:isKnown F.l (Q1c F.i.desc)<;>by_cases h3:a.k=1<;>simp[h,Q3i,h1,h2,h3,h4,cu,ndC]
 ·obtain ⟨a,b,ea⟩:=len2 hd
  rw[ea] at e3⊢
  cases h1:Q90 a<;>by_cases h2:b.k=1<;>simp[Qb2,lsI,h,Q3i,e1,e2,e3,h1,h2,cu,ndC]
 ·obtain ⟨a,b,c,ea⟩:=len3 hd
  rw[ea] at e3⊢
  cases h1:Q90 a<;>by_cases h2:b.k=1<;>by_cases h3:a.k=4<;>by_cases h4:c.k=1<;>cases h5:Q48 c<;>simp[Qb2,lsI,h,Q3i,e1,e2,e3,h1,h2,h3,h4,h5,cu,ndC]
 ·obtain ⟨a,ea⟩:=Qva hd
  rw[ea] at e3⊢
  cases h1:Q90 a<;>simp[Qb2,lsI,h,Q3i,e1,e2,e3,h1,cu,ndC]
theorem Q17l{F:SF}{o1 o2:Bool}{st lo:List Typ}{n:Nat}(hw:Qs F.l=true)(hst: ∀t∈st,Q1s F.l t=true)(hop:32≤F.i.op∧F.i.op≤35)(hn:(n:Int)=Q2a F.i)(hl:n≤st.length):
  Q3i (fdS F o1 o2 st lo 0) (Qdd F (st.take (st.length-n)) lo (st.drop (st.length-n))):=by
 have hn2:Qgs F.i=n:=by
  unfold Qgs Qsy Qrl
  rcases (by omega:F.i.op=32∨F.i.op=33∨F.i.op=34∨F.i.op=35) with h|h|h|h
  all_goals (simp[Q2a,tk1,tk2,h] at hn⊢;omega)
 obtain ⟨e1,e2,e3⟩:=Qcf hl
 have hd:(st.drop (st.length-n)).length=n:=by rw[List.length_drop];omega
 have hk:=Ql5 hst (st.length-n)
 have hfs:Qsy F.i=Qdb F.i:=by unfold Qsy Qdb;rw[Bool.eq_iff_iff];simp;omega
 unfold fdS Qdd Qb4 Qn3 Qgt
 rw[hn2,e1,e2,e3]
 have hx:fdxS F=(ffL F.l F.i.name F.i.desc (Qq F.l F.i.cls)).1:=rfl
 rw[hx]
 cases h1:isKnown F.l F.i.cls
 ·simp[Q3i,ndC,cu]
 by_cases h2:(ffL F.l F.i.name F.i.desc (Qq F.l F.i.cls)).1.e=0
 ·obtain ⟨_,hs⟩:=ff_e hw F.i.name F.i.desc (Qq F.l F.i.cls) h2
  rw[hs,hfs]
  rcases (by omega:F.i.op=32∨F.i.op=33∨F.i.op=34∨F.i.op=35) with h|h|h|h
  all_goals (simp[Q2a,tk1,tk2,h] at hn;subst hn)
  ·obtain ⟨a,ea⟩:=Qva hd
   rw[ea] at hk⊢
   have q1:=Qre (c:=F.i.cls) (hk a Z3)
   cases h4:(ffL F.l F.i.name F.i.desc (Qq F.l F.i.cls)).2.static<;>cases h5:leT F.l a (Q11 F.i.cls)<;>simp[Q3i,h2,h,Qrl,Qdb,q1,h4,h5,cu,ndC]
  ·obtain ⟨a,b,ea⟩:=len2 hd
   rw[ea] at hk⊢
   have q1:=Qre (c:=F.i.cls) (hk a Z3)
   have q2:=Qqb (s:=F.i.desc) (hk b Z3)
   cases h4:(ffL F.l F.i.name F.i.desc (Qq F.l F.i.cls)).2.static<;>cases h5:leT F.l a (Q11 F.i.cls)<;>cases h6:leT F.l b (Q1o F.i.desc)<;>simp[Q3i,h2,h,Qrl,Qdb,q1,q2,h4,h5,h6,cu,ndC]
  ·cases h4:(ffL F.l F.i.name F.i.desc (Qq F.l F.i.cls)).2.static<;>simp[Q3i,h2,h,Qrl,Qdb,h4,cu,ndC]
  ·obtain ⟨b,ea⟩:=Qva hd
   rw[ea] at hk⊢
   have q2:=Qqb (s:=F.i.desc) (hk b Z3)
   cases h4:(ffL F.l F.i.name F.i.desc (Qq F.l F.i.cls)).2.static<;>cases h6:leT F.l b (Q1o F.i.desc)<;>simp[Q3i,h2,h,Qrl,Qdb,q2,h4,h6,cu,ndC]
 ·simp[Q3i,ndC,cu,h2]
theorem Q15q{l:List Cls}{xs:List Typ}(h: ∀t∈xs,Q1s l t=true){i:Nat}(hi:i<xs.length):Q1s l (atL xs i)=true:=by rw[Qa hi];exact h _ (List.getElem_mem hi)
theorem Q17m{F:SF}{o1 o2:Bool}{st lo:List Typ}{n:Nat}(hst: ∀t∈st,Q1s F.l t=true)(hr:Q1l F.i=true)(hop:F.i.op=36∨F.i.op=37)(hn:(n:Int)=Q2a F.i)(hl:n≤st.length):
  Q3i (Q4h F o1 o2 st lo 0) (clI F (st.take (st.length-n)) lo (st.drop (st.length-n))):=by
 obtain ⟨hs1,hs2⟩:=Qas hr Zb
 obtain ⟨e1,e2,e3⟩:=Qcf hl
 have hd:(st.drop (st.length-n)).length=n:=by rw[List.length_drop];omega
 have hk:=Ql5 hst (st.length-n)
 obtain ⟨tk,htk⟩: ∃t,t=st.drop (st.length-n):=⟨_,rfl⟩
 obtain ⟨s1,hs1'⟩: ∃t,t=st.take (st.length-n):=⟨_,rfl⟩
 rw[←htk] at hd hk e3⊢
 rw[←hs1'] at e2⊢
 have hN:Q3u F=n:=by
  unfold Q3u
  rw[hs2]
  rcases hop with h|h<;>(simp[Q2a,tk1,tk2,h] at hn⊢;omega)
 unfold Q4h clI Qbb Q58 Q3h
 rw[hN,e1,e2,e3,hs2]
 have hx:Qvx F=(fmL F.l F.i.name F.i.desc (Qq F.l F.i.cls)).1:=rfl
 rw[hx]
 have h38: ¬F.i.op=38:=by omega
 rw[if_neg h38]
 by_cases h0:F.i.name=Qn
 ·simp[Q3i,h0,ndC,cu]
 cases h1:isKnown F.l F.i.cls
 ·simp[Q3i,h0,ndC,cu]
 by_cases h2:(fmL F.l F.i.name F.i.desc (Qq F.l F.i.cls)).1.e=0
 ·obtain ⟨_,hs⟩:=fm_e F.l F.i.name F.i.desc (Qq F.l F.i.cls) h2
  unfold Q5u Q55
  rw[hx,hs,hs2]
  rcases hop with h|h
  ·have hp:(Qy F.i.desc).params.length+1=n:=by simp[Q2a,tk1,tk2,h] at hn;omega
   have q1:=Qre (c:=F.i.cls) (Q15q hk (show 0<tk.length by omega))
   have q2:=Quw (off:=1) (ps:=(Qy F.i.desc).params) hk (Qy F.i.desc).params.length Zb
   have e37:(F.i.op=37)=False:=eq_false Zb
   simp only[e37,if_false]
   rw[q2,q1]
   cases h4:(fmL F.l F.i.name F.i.desc (Qq F.l F.i.cls)).2.static<;>cases h5:leT F.l (atL tk 0) (Q11 F.i.cls)<;>cases h6:Qbt F.l tk 1 (Qy F.i.desc).params (Qy F.i.desc).params.length<;>by_cases h7:(Qy F.i.desc).res=[86]<;>
    simp[Q3i,h0,h2,h,h4,h5,h6,h7,cu,ndC,Qms,Qst]
  ·have hp:(Qy F.i.desc).params.length=n:=by simp[Q2a,tk1,tk2,h] at hn;omega
   have q2:=Q14a (ps:=(Qy F.i.desc).params) hk (Qy F.i.desc).params.length Zb
   cases h4:(fmL F.l F.i.name F.i.desc (Qq F.l F.i.cls)).2.static<;>cases h6:Qbt F.l tk 0 (Qy F.i.desc).params (Qy F.i.desc).params.length<;>by_cases h7:(Qy F.i.desc).res=[86]<;>
    simp[Q3i,h0,h2,h,h4,h6,h7,q2,cu,ndC,Qms,Qst]
 ·simp[Q3i,h0,ndC,cu,h2]
theorem Q15t(l:List Cls)(n d:Str): ∀xs:List Str,(fmL l n d xs).1.e=0→(n=Qn∧d=Qdf)∨ ∃i,∃h:i<l.length,∃j,∃h2:j<l[i].methods.length,l[i].methods[j].name=n∧l[i].methods[j].desc=d
 |[],h=>by simp[fmL,Qf7] at h
 |x::xs,h=>by
  simp only[fmL] at h
  by_cases h1:0≤Q1j n d (Q1q l x).methods 0
  ·rcases @Q6u n d (Q1q l x).methods 0 with ⟨h2,_⟩|⟨i,hi,h2,h3,_⟩
   ·omega
   ·have hf:0≤Qi x l 0:=by
     rcases Int.lt_or_le (Qi x l 0) 0 with h3|h3
     ·rw[Q50 Zb] at hi;exact absurd hi (by simp[zC])
     ·exact h3
    obtain ⟨k,hk,_,_,e3,_⟩:=Q3w hf
    refine .inr ⟨k,hk,i,by rw[←e3];exact hi,?_⟩
    simp only[e3] at h3
    exact h3
  ·simp only[if_neg h1] at h
   by_cases h2:n=Qn
   ·simp only[if_pos h2] at h
    by_cases h3:bIn x=true∧d=Qdf
    ·exact .inl ⟨h2,h3.2⟩
    ·simp only[if_neg h3] at h;exact absurd h (by simp[Qf7])
   ·simp only[if_neg h2] at h
    exact Q15t l n d xs h
theorem Q12s{l:List Cls}(hR:Qs l=true){d:Str}{xs:List Str}(h:(fmL l Qn d xs).1.e=0):(Qy d).res=[86]:=by
 rcases Q15t l Qn d xs h with ⟨_,rfl⟩|⟨i,hi,j,hj,h1,rfl⟩
 ·decide
 ·have hm:=Q6s hR hi hj
  have hh:=Q8a hm
  by_cases ha:l[i].methods[j].abstr=true
  ·rw[Q6t hh ha,h1] at hm
   simp at hm
  ·rw[Q6f hh (by simpa using ha),h1] at hm
   simp at hm
   exact hm.2.2
theorem Q179{F:SF}{o1 o2:Bool}{st lo:List Typ}{n:Nat}(hw:Qs F.l=true)(hsup:isKnown F.l F.c.super=true)(hst: ∀t∈st,Q1s F.l t=true)(hr:Q1l F.i=true)(h:F.i.op=38)(hn:(n:Int)=Q2a F.i)(hl:n≤st.length):
  Q3i (Q4h F o1 o2 st lo 0) (spI F (st.take (st.length-n)) lo (st.drop (st.length-n))):=by
 obtain ⟨hs1,hs2⟩:=Qas hr Zb
 obtain ⟨e1,e2,e3⟩:=Qcf hl
 have hd:(st.drop (st.length-n)).length=n:=by rw[List.length_drop];omega
 have hk:=Ql5 hst (st.length-n)
 obtain ⟨tk,htk⟩: ∃t,t=st.drop (st.length-n):=⟨_,rfl⟩
 obtain ⟨s1,hs1'⟩: ∃t,t=st.take (st.length-n):=⟨_,rfl⟩
 rw[←htk] at hd hk e3⊢
 rw[←hs1'] at e2⊢
 have hp:(Qy F.i.desc).params.length+1=n:=by simp[Q2a,tk1,tk2,h] at hn;omega
 have hN:Q3u F=n:=by
  unfold Q3u
  rw[hs2]
  simp[h];omega
 have e36:(F.i.op=36)=False:=eq_false Zb
 have e37:(F.i.op=37)=False:=eq_false Zb
 have e38:(F.i.op=38)=True:=eq_true h
 unfold Q4h spI Qay Q58 Q3h
 rw[hN,e1,e2,e3,hs2]
 have hx:Qvx F=(fmL F.l F.i.name F.i.desc (Qq F.l F.i.cls)).1:=rfl
 rw[hx]
 simp only[e38,if_true]
 have q2:=Quw (off:=1) (ps:=(Qy F.i.desc).params) hk (Qy F.i.desc).params.length Zb
 rw[q2]
 by_cases h0:F.i.name=Qn
 ·simp only[h0,if_true]
  cases h1:isKnown F.l F.i.cls
  ·simp[Q3i,ndC,cu]
  by_cases h2:(fmL F.l Qn F.i.desc (Qq F.l F.i.cls)).1.e=0
  ·have hv:=Q12s hw h2
   unfold Q5u Q55
   rw[hs2]
   simp only[e36,e37,if_false,h0,if_true]
   by_cases h7:(atL tk 0).k=7
   ·have hm:Q37 F (atL tk 0)=false:=by simp[Q37,h7]
    have hm2:Q54 F (atL tk 0)=false:=by simp[Q54,h7]
    have ho:ownB F (atL tk 0)=Q5v F (atL tk 0):=rfl
    rw[hm,hm2,ho]
    cases h8:Q5v F (atL tk 0)<;>cases h6:Qbt F.l tk 1 (Qy F.i.desc).params (Qy F.i.desc).params.length<;>simp[Q3i,h2,hv,cu,ndC,Qms]
   ·have ho:ownB F (atL tk 0)=false:=by simp[ownB,h7]
    have ho2:Q5v F (atL tk 0)=false:=by simp[Q5v,h7]
    have hm:Q37 F (atL tk 0)=Q54 F (atL tk 0):=rfl
    rw[ho,ho2,hm]
    cases h8:Q54 F (atL tk 0)
    ·simp[Q3i,h2,cu,ndC,hv,Qms]
    ·have hc:(atL tk 0).c=F.i.cls:=by simp[Q54] at h8;exact h8.2
     cases h6:Qbt F.l tk 1 (Qy F.i.desc).params (Qy F.i.desc).params.length<;>simp[Q3i,h2,hv,cu,ndC,Qms,hc]
  ·simp[Q3i,ndC,cu,h2]
 ·simp only[h0,if_false]
  by_cases hcs:F.i.cls=F.c.super
  ·rw[←hcs] at hsup
   have ec:(F.i.cls=F.c.super)=True:=eq_true hcs
   rw[hsup]
   simp only[ec,decide_true,if_true]
   by_cases h2:(fmL F.l F.i.name F.i.desc (Qq F.l F.i.cls)).1.e=0
   ·obtain ⟨_,hs⟩:=fm_e F.l F.i.name F.i.desc (Qq F.l F.i.cls) h2
    unfold Q5u Q55
    rw[hx,hs,hs2]
    simp only[e36,e37,if_false,h0]
    have q1:=Qre (c:=F.c.name) (Q15q hk (show 0<tk.length by omega))
    rw[q1]
    cases h4:(fmL F.l F.i.name F.i.desc (Qq F.l F.i.cls)).2.static<;>cases h9:(fmL F.l F.i.name F.i.desc (Qq F.l F.i.cls)).2.abstr<;>cases h10:F.m.static<;>cases h5:leT F.l (atL tk 0) (Q11 F.c.name)<;>cases h6:Qbt F.l tk 1 (Qy F.i.desc).params (Qy F.i.desc).params.length<;>by_cases h7:(Qy F.i.desc).res=[86]<;>
     simp[Q3i,h2,h4,h5,h6,h7,h9,cu,ndC,Qms,Qst]
   ·simp[Q3i,ndC,cu,h2]
  ·simp[Q3i,ndC,cu,hcs]
theorem Q17o{F:SF}{o1 o2:Bool}{st lo:List Typ}{n:Nat}(hw:Qs F.l=true)(hsup:isKnown F.l F.c.super=true)(hst: ∀t∈st,Q1s F.l t=true)(hr:Q1l F.i=true)(hm:Qd F.m.desc=Qy F.m.desc)(hi:F.m.name=Qn→0<lo.length)
  (hn:(n:Int)=Q2a F.i) (hl:n≤st.length):Q3i (Q9a F o1 o2 st lo 0) (Q36 F (st.take (st.length-n)) lo (st.drop (st.length-n))):=by
 have ho:=Qyf hr
 unfold Q9a Q36
 by_cases h1:8≤F.i.op∧F.i.op≤18
 ·rw[if_pos h1,if_neg Zb,if_pos h1]
  have:n=2:=by
   have e1:tk1 F.i.op=false:=by simp[tk1];omega
   have e2:tk2 F.i.op=false:=by simp[tk2];omega
   unfold Q2a at hn
   rw[e1,e2,if_neg Z3w,if_neg Z3w,if_neg Zb,if_neg Zb,if_neg Zb,if_pos h1] at hn
   omega
  subst this
  exact Q17n hst hl
 rw[if_neg h1]
 by_cases h2:26≤F.i.op∧F.i.op≤29
 ·rw[if_pos h2,if_neg Zb,if_neg h1,if_neg Zb,if_neg Zb,if_pos h2]
  refine Q17e hst h2 ?_ hl hm hi
  rcases (by omega:F.i.op=26∨F.i.op=27∨F.i.op=28∨F.i.op=29) with h|h|h|h<;>(simp[Q2a,tk1,tk2,h] at hn⊢;omega)
 rw[if_neg h2]
 by_cases h3:F.i.op=31
 ·rw[if_pos h3,if_neg Zb,if_neg h1,if_neg Zb,if_neg Zb,if_neg h2,if_pos h3]
  have:n=0:=by simp[Q2a,tk1,tk2,h3] at hn;omega
  subst this
  simp only[Nat.sub_zero,List.take_length]
  exact Q17c hw
 rw[if_neg h3]
 by_cases h4:32≤F.i.op∧F.i.op≤35
 ·rw[if_pos h4,if_neg Zb,if_neg h1,if_neg Zb,if_neg Zb,if_neg h2,if_neg h3,if_pos h4]
  exact Q17l hw hst h4 hn hl
 rw[if_neg h4]
 by_cases h5:36≤F.i.op∧F.i.op≤38
 ·rw[if_pos h5,if_neg Zb,if_neg h1,if_neg Zb,if_neg Zb,if_neg h2,if_neg h3,if_neg h4]
  by_cases h6:F.i.op=38
  ·rw[if_pos h6];exact Q179 hw hsup hst hr h6 hn hl
  ·rw[if_neg h6,if_pos Zb];exact Q17m hst hr Zb hn hl
 rw[if_neg h5]
 by_cases h6:41≤F.i.op
 ·rw[if_pos h6,if_neg Zb,if_neg h1,if_neg Zb,if_neg Zb,if_neg h2,if_neg h3,if_neg h4,if_neg Zb,if_neg Zb,if_neg Zb]
  exact Q17d hr ⟨h6,ho.2⟩ hn hl
 rw[if_neg h6]
 by_cases h7:F.i.op≤7∨F.i.op=30
 ·rw[if_pos h7];exact Q17a h7 ho.1 (Q15s hr) hn hl
 rw[if_neg h7,if_neg h1]
 by_cases h8:19≤F.i.op∧F.i.op≤23
 ·rw[if_pos h8];exact Q17f h8 hn hl
 rw[if_neg h8]
 by_cases h9:F.i.op=24∨F.i.op=25
 ·rw[if_pos h9];exact Q17b h9 hn hl
 rw[if_neg h9,if_neg h2,if_neg h3,if_neg h4,if_neg Zb,if_neg Zb,if_pos Zb]
 have:n=1:=by rcases (by omega:F.i.op=39∨F.i.op=40) with h|h<;>(simp[Q2a,tk1,tk2,h] at hn;omega)
 subst this
 exact Q167 Zb hl
theorem k11{s:SW}{F:SF}(h:s.k=11):(Qap F s).k=11:=by show ndC s.k _ 11=11;rw[h,Qgj]
theorem s_no{F:SF}{o1 o2:Bool}{st lo:List Typ}{n:Nat}(hr:Q1l F.i=true)(hn:(n:Int)=Q2a F.i)(hl:st.length<n):(Q7q F o1 o2 st lo 0).k=11:=by
 have ho:=Qyf hr
 refine k11 ?_
 obtain ⟨e1,_⟩:=Q177 hl true
 unfold Q9a
 by_cases h1:8≤F.i.op∧F.i.op≤18
 ·rw[if_pos h1]
  have:n=2:=by
   have e1:tk1 F.i.op=false:=by simp[tk1];omega
   have e2:tk2 F.i.op=false:=by simp[tk2];omega
   unfold Q2a at hn
   rw[e1,e2,if_neg Z3w,if_neg Z3w,if_neg Zb,if_neg Zb,if_neg Zb,if_pos h1] at hn
   omega
  subst this
  simp[Qq0,e1,Qgj]
 rw[if_neg h1]
 by_cases h5:36≤F.i.op∧F.i.op≤38
 ·rw[if_neg Zb,if_neg Zb,if_neg Zb,if_pos h5]
  obtain ⟨hs1,hs2⟩:=Qas hr Zb
  have hN:Q3u F=n:=by
   unfold Q3u
   rw[hs2]
   rcases (by omega:F.i.op=36∨F.i.op=37∨F.i.op=38) with h|h|h<;>(simp[Q2a,tk1,tk2,h] at hn⊢;omega)
  have hk0:Q3h F 11=11:=by (unfold Q3h;repeat' split);(all_goals simp[Qgj])
  have hk:Q58 F st 0=11:=by unfold Q58;rw[hN,e1,hk0,Qgj,Qgj]
  unfold Q4h
  rw[hk,if_neg Z3w]
 by_cases h4:32≤F.i.op∧F.i.op≤35
 ·rw[if_neg Zb,if_neg Zb,if_pos h4]
  have hn2:Qgs F.i=n:=by
   unfold Qgs Qsy Qrl
   rcases (by omega:F.i.op=32∨F.i.op=33∨F.i.op=34∨F.i.op=35) with h|h|h|h
   all_goals (simp[Q2a,tk1,tk2,h] at hn⊢;omega)
  have hk:Qgt F st 0=11:=by unfold Qgt;rw[hn2,e1,Qgj,Qgj]
  unfold fdS
  rw[hk,if_pos Z3w]
 rw[if_neg h4,if_neg h5]
 rcases (by omega:F.i.op=1∨F.i.op=2∨F.i.op=3∨F.i.op=4∨F.i.op=5∨F.i.op=6∨F.i.op=7∨F.i.op=19∨F.i.op=20∨F.i.op=21∨F.i.op=22∨F.i.op=23∨F.i.op=24∨F.i.op=25∨F.i.op=26∨F.i.op=27∨F.i.op=28∨F.i.op=29∨F.i.op=30∨F.i.op=31∨F.i.op=39∨F.i.op=40∨F.i.op=41∨F.i.op=42∨F.i.op=43∨F.i.op=44) with h|h|h|h|h|h|h|h|h|h|h|h|h|h|h|h|h|h|h|h|h|h|h|h|h|h
 all_goals (simp[Q2a,tk1,tk2,h] at hn;first|(exfalso;omega)|subst hn)
 all_goals (simp[Q2c,Qf8,Qb2,stK,lsK,h,e1,Qgj])
theorem Q131{F:SF}{st lo:List Typ}(hw:Qs F.l=true)(hsup:isKnown F.l F.c.super=true)(hst: ∀t∈st,Q1s F.l t=true)(hr:Q1l F.i=true)(hm:Qd F.m.desc=Qy F.m.desc)(hi:F.m.name=Qn→0<lo.length)(htk:0≤Q2a F.i):
  Q3i (Q7q F false false st lo 0) (Q4z F st lo):=by
 obtain ⟨n,hn⟩: ∃n:Nat,(n:Int)=Q2a F.i:=⟨(Q2a F.i).toNat,by omega⟩
 unfold Q4z
 rw[←hn]
 by_cases hl:st.length<n
 ·rw[if_pos Zb]
  exact ⟨s_no hr hn hl,fun e=>absurd e Z3⟩
 ·rw[if_neg Zb,show ((st.length:Int)-(n:Int)).toNat=st.length-n by omega]
  exact Q121 (Q17o hw hsup hst hr hm hi hn Zb)
theorem Qu3{l:List Cls}{c m a:Int}{f:Frm}(hs:Q1w l≤1048576)(hF:Qgm l c m a f=true):Q3i (Q7q (Q6e l c m a) false false f.stack f.locals 0) (Q4z (Q6e l c m a) f.stack f.locals):=by
 have hC:=hF
 rw[←Ql7] at hC
 obtain ⟨_,_,_,_,_,_,_,_,_,_,_,htk,hr⟩:=Qox hs hC
 have hst: ∀t∈f.stack,Q1s l t=true:=by
  simp only[Qgm,Bool.and_eq_true,Qdc,Qn0,List.all_eq_true] at hF
  exact hF.1.2.2.2.1
 rcases Qc2 l c m a f hs with h0|⟨i,j,n,rfl,rfl,rfl,_,p1,p2,p3,hP,hsf⟩
 ·rw[h0] at hF;cases hF
 ·have hm:=Qie (Q8a (Q6s hP.1 p1 p2))
  have h2:=(Q98 hP.1).2.1 i p1
  have hsup:isKnown l l[i].super=true:=by
   simp only[Q8z,Qa p1] at h2
   split at h2
   ·assumption
   ·cases h2
  rw[hsf] at htk hr⊢
  exact Q131 hP.1 hsup hst hr hm.2 hP.2.2.2.2.2.2 htk
@[simp] theorem nn3f {a b c:Nat}:(0≤1+(a:Int)+3*(b:Int)+3*(c:Int))=True:=by simp;omega
structure FlO where
 nx:List Int
 fs:List Frm
 k:Int
def iV(n:Int):V:= .int .i64 n
attribute [simp] iV
@[simp] theorem pureL_iV (l:List Int):pureL (l.map iV)=true:=Q3z _ (fun _=>rfl) l
@[simp] theorem fzL_iV (l:List Int):fzL (l.map iV)=l.map iV:=Q6i _ (fun _=>rfl) l
@[simp] theorem jkL_iV (p:Nat→Bool) (l:List Int):jkL p (l.map iV)=l.map iV:=Q5f p _ (fun _=>rfl) l
@[simp] theorem lim_iV (n:Nat) (l:List Int):limL n (l.map iV)=true:=by simp[Qd7,V.lim]
@[simp] theorem mapL_iV (g:Nat→Option Nat) (l:List Int):mapL g (l.map iV)=l.map iV:=by rw[Q9p,List.map_map];rfl
@[simp] theorem free_iV (l:List Int):freeL (Q1y (l.map iV))=true:=by
 induction l with
 |nil=>rfl
 |cons x l ih=>simp[flat_cons,V.cells,freeL,V.free,ih]
@[simp] theorem free_eFr (l:List Frm):freeL (Q1y (l.map eFr))=true:=by
 induction l with
 |nil=>rfl
 |cons x l ih=>simp[flat_cons,V.cells,freeL,V.free,ih]
@[simp] theorem pureL_oFr (l:List Frm):pureL (l.map oFr)=true:=Q3z _ (fun x=>by simp[oFr,V.pure,pureL]) l
@[simp] theorem fzL_oFr (l:List Frm):fzL (l.map oFr)=l.map eFr:=by simp[Qao,Q16j]
@[simp] theorem jkL_oFr (p:Nat→Bool) (l:List Frm):jkL p (l.map oFr)=l.map oFr:=Q5f p _ (fun x=>by simp[oFr,V.pure,pureL]) l
@[simp] theorem lim_oFr (n:Nat) (l:List Frm):limL n (l.map oFr)=true:=by simp[Qd7,V.lim,oFr,limL]
@[simp] theorem mapL_oFr (g:Nat→Option Nat) (l:List Frm):mapL g (l.map oFr)=l.map oFr:=Q6v g (fun _=>rfl) l
@[simp] theorem lim_eFr (n:Nat) (l:List Frm):limL n (l.map eFr)=true:=by simp[Qd7,V.lim,eFr,limL]
@[simp] theorem mapL_eFr (g:Nat→Option Nat) (l:List Frm):mapL g (l.map eFr)=l.map eFr:=Q6v g (fun _=>rfl) l
def eFl(x:FlO):V:= .agg [.lst false 1 (x.nx.map iV),.lst false 2 (x.fs.map eFr),.int .i64 x.k]
def mFl(x:FlO):V:= .agg [.lst true 1 (x.nx.map iV),.lst true 2 (x.fs.map eFr),.int .i64 x.k]
def oFl2(x:FlO):V:= .agg [.lst true 1 (x.nx.map iV),.lst true 2 (x.fs.map oFr),.int .i64 x.k]
attribute [simp] eFl mFl oFl2
def zFl(k:Int):FlO:=⟨[],[],k⟩
def Qje(op:Int):Bool:=decide (op=19)||decide (26≤op∧op≤29)
def Qrg(op:Int):Bool:=decide (Q67 op=[116])
def hdK(F:SF)(h:Hdl):Int:=if isKnown F.l h.cls=true then (if subS F.l h.cls Q16=true then (if F.m.stack=0 then 11 else 0) else 10) else 6
theorem Qzi{F:SF}{h:Hdl}(hk:isKnown F.l h.cls=true):(isKnown F.l Q16&&out (Qq F.l h.cls) Q16)=subS F.l h.cls Q16:=by
 rw[show isKnown F.l Q16=true from Q3f Z3w,Bool.true_and]
 unfold subS
 rw[Q9d hk]
def hdIn(F:SF)(h:Hdl):Bool:= !decide (F.at'<h.frm)&& !decide (h.upto≤F.at')
def Q61(F:SF)(lo:List Typ):List Hdl→List Int→List Frm→FlO
 |[],n,f=>⟨n,f,0⟩
 |h::hs,n,f=>if hdIn F h=true then (if hdK F h=0 then Q61 F lo hs (n++[h.at']) (f++[⟨[Q11 h.cls],lo⟩]) else zFl (hdK F h)) else Q61 F lo hs n f
def nx0(F:SF):List Int:=if Qje F.i.op=true then [] else [F.at'+1]
def fs0(F:SF)(g:Frm):List Frm:=if Qje F.i.op=true then [] else [g]
def nx1(F:SF):List Int:=if Qrg F.i.op=true then nx0 F++[F.i.a] else nx0 F
def fs1(F:SF)(g:Frm):List Frm:=if Qrg F.i.op=true then fs0 F g++[g] else fs0 F g
def Qp5(F:SF)(lo:List Typ)(x:FrO):FlO:=
 if x.code=0 then (if Qje F.i.op=false∧(F.m.code.length:Int)≤F.at'+1 then zFl 12 else Q61 F lo F.m.hdls (nx1 F) (fs1 F x.f)) else zFl x.code
def Q7h(F:SF)(f:Frm):FlO:=Qp5 F f.locals (efT F f)
theorem Q6h{F:SF}{lo:List Typ}{hs:List Hdl}{i:Nat}(h:i<hs.length)(n:List Int)(f:List Frm):
  Q61 F lo (hs.drop i) n f=if hdIn F hs[i]=true then (if hdK F hs[i]=0 then Q61 F lo (hs.drop (i+1)) (n++[hs[i].at']) (f++[⟨[Q11 hs[i].cls],lo⟩]) else zFl (hdK F hs[i])) else Q61 F lo (hs.drop (i+1)) n f:=by
 rw[List.drop_eq_getElem_cons h];rfl
theorem Qu1{F:SF}{lo:List Typ}{hs:List Hdl}{i:Nat}(h:hs.length≤i)(n:List Int)(f:List Frm):Q61 F lo (hs.drop i) n f=⟨n,f,0⟩:=by
 rw[List.drop_eq_nil_of_le h];rfl
theorem Q14s(F:SF)(f:Frm):(efT F f).f.stack.length≤f.stack.length+4∧(efT F f).f.locals.length≤f.locals.length:=by
 have:=Qrt F false false f.stack f.locals 0
 unfold efT frOf
 split
 ·exact ⟨this.1,Nat.le_of_eq this.2⟩
 ·simp[zFo]
theorem Qv4(F:SF):(nx0 F).length≤1:=by unfold nx0;split<;>simp
theorem Qvg(F:SF)(g:Frm):(fs0 F g).length≤1:=by unfold fs0;split<;>simp
theorem Qv3(F:SF):(nx1 F).length≤2:=by have:=Qv4 F;unfold nx1;split<;>simp<;>omega
theorem Qzk(F:SF)(g:Frm):(fs1 F g).length≤2:=by have:=Qvg F g;unfold fs1;split<;>simp<;>omega
def Qsz(F:SF)(st lo:List Typ):FlO:=Qp5 F lo ⟨⟨(Q4z F st lo).st,(Q4z F st lo).lo⟩,(Q4z F st lo).k⟩
theorem Qvj{F:SF}{lo:List Typ}{x:FrO}(h: ¬x.code=0):Qp5 F lo x=zFl x.code:=by rw[Qp5,if_neg h]
theorem Q113{F:SF}{lo:List Typ}{x y:FrO}(h:x.code=y.code)(h2:x.code=0→x.f=y.f):Qp5 F lo x=Qp5 F lo y:=by
 by_cases hx:x.code=0
 ·have:x=y:=by
   cases x;cases y
   simp only at h h2 hx
   rw[h,h2 hx]
  rw[this]
 ·rw[Qvj hx,Qvj (by rw[←h];exact hx),h]
theorem Qx4{F:SF}{f:Frm}(h:Q3i (Q7q F false false f.stack f.locals 0) (Q4z F f.stack f.locals)):Qsz F f.stack f.locals=Q7h F f:=by
 obtain ⟨k1,k2⟩:=h
 unfold Qsz Q7h
 refine Q113 ?_ fun hk=> ?_
 ·unfold efT frOf
  rw[k1]
  by_cases hk:(Q4z F f.stack f.locals).k=0
  ·rw[if_pos hk,hk]
  ·rw[if_neg hk];rfl
 ·obtain ⟨g1,g2⟩:=k2 hk
  unfold efT frOf
  rw[k1,if_pos hk,g1,g2]
theorem Q118{F:SF}{f:Frm}(h:Q3i (Q7q F false false f.stack f.locals 0) (Q4z F f.stack f.locals))(h1:f.stack.length≤100)(h2:f.locals.length≤100):(Q4z F f.stack f.locals).k=0→(Q4z F f.stack f.locals).st.length≤1000∧(Q4z F f.stack f.locals).lo.length≤1000:=fun hk=>by
 obtain ⟨g1,g2⟩:=h.2 hk
 have:=Qrt F false false f.stack f.locals 0
 rw[g1,g2] at this
 omega
theorem Q12j{l:List Cls}{i j:Nat}(hR:Qs l=true)(hs:Q1w l≤1048576)(p1:i<l.length)(p2:j<l[i].methods.length):0≤l[i].methods[j].stack∧l[i].methods[j].code.length≤1048576∧l[i].methods[j].hdls.length≤1000:=by
 have z1:=Qr3 p1 p2
 have h:=Q6s hR p1 p2
 have hh:=Q8a h
 have h3:=hh
 simp only[Q39,Bool.and_eq_true,decide_eq_true_eq] at h3
 refine ⟨h3.2.1,by unfold Q3q at z1;omega,?_⟩
 cases ha:l[i].methods[j].abstr
 ·rw[Q6f hh ha] at h
  simp only[Qly,Bool.and_eq_true,Bool.not_eq_true',decide_eq_false_iff_not] at h
  omega
 ·rw[Q6t hh ha] at h
  simp only[Bool.and_eq_true,decide_eq_true_eq] at h
  omega
theorem Qyk{l:List Cls}{c m a:Int}{f:Frm}(hs:Q1w l≤1048576)(h:Qx5 l c m a f=true):0≤(Q6e l c m a).m.stack∧(Q6e l c m a).m.code.length≤1048576∧(Q6e l c m a).m.hdls.length≤1000∧
  ((Q4z (Q6e l c m a) f.stack f.locals).k=0→(Q4z (Q6e l c m a) f.stack f.locals).st.length≤1000∧(Q4z (Q6e l c m a) f.stack f.locals).lo.length≤1000)∧Qsz (Q6e l c m a) f.stack f.locals=Q7h (Q6e l c m a) f:=by
 rw[Ql7] at h
 have key:=Qu3 hs h
 rcases Qc2 l c m a f hs with h0|⟨i,j,n,rfl,rfl,rfl,hF,p1,p2,p3,hP,hsf⟩
 ·rw[h0] at h;cases h
 ·obtain ⟨g1,g2,g3⟩:=Q12j hP.1 hs p1 p2
  rw[hsf] at key⊢
  exact ⟨g1,g2,g3,Q118 key hP.2.1 hP.2.2.1,Qx4 key⟩
def KN(l:List Cls)(st:List Typ):Prop:= ∀t∈st,Q1s l t=true
theorem KN.app{l:List Cls}{a b:List Typ}(h:KN l a)(h2:KN l b):KN l (a++b):=fun t ht=>by
 rcases List.mem_append.1 ht with h3|h3
 ·exact h t h3
 ·exact h2 t h3
theorem KN.one{l:List Cls}{t:Typ}(h:Q1s l t=true):KN l [t]:=fun x hx=>by rw[List.mem_singleton.1 hx];exact h
theorem KN.snoc{l:List Cls}{a:List Typ}{t:Typ}(h:KN l a)(h2:Q1s l t=true):KN l (a++[t]):=h.app (.one h2)
theorem Ql4(l:List Cls):Q1s l zT=true:=by simp[Q1s,zT]
theorem KN.at{l:List Cls}{a:List Typ}(h:KN l a)(i:Nat):Q1s l (atL a i)=true:=by
 by_cases hi:i<a.length
 ·rw[Qa hi];exact h _ (List.getElem_mem hi)
 ·have:atL a i=zT:=by unfold atL;simp[List.getD,List.getElem?_eq_none (Nat.le_of_not_lt hi)];rfl
  rw[this];exact Ql4 l
theorem Q8b{l:List Cls}{k:Int}(h:k=0∨k=1∨k=2∨k=4∨k=7):Q1s l ⟨k,[],0⟩=true:=by
 rcases h with rfl|rfl|rfl|rfl|rfl<;>simp[Q1s]
theorem Qec{l:List Cls}{c:Str}(h:isKnown l c=true):Q1s l (Q11 c)=true:=Qd8 (.inl rfl) h rfl
theorem Qw5{l:List Cls}{t:Str}(h:Q53 l t=true)(hc:Q1c t≠[]):isKnown l (Q1c t)=true:=by
 simp only[Q53,Bool.or_eq_true,decide_eq_true_eq] at h
 exact h.resolve_left hc
theorem Qvb{l:List Cls}{t:Str}(h:Q53 l t=true):Q1s l (Q1o t)=true:=by
 unfold Q1o
 split
 ·rename_i hr
  split
  ·exact Q8b Zb
  split
  ·exact Q8b Zb
  rename_i h1 h2
  have:=Qw5 h (Qe2 hr h1 h2)
  split
  ·exact Qd8 (.inr rfl) this rfl
  ·exact Qec this
 ·exact Ql4 l
theorem Q135{l:List Cls}(hw:Qs l=true){i:Nat}(hi:i<l.length):Qs8 l l[i]=true:=by
 have:=(Q98 hw).2.2.1 i hi
 simp only[Qbs,Qa hi] at this
 split at this
 ·assumption
 ·cases this
theorem ff_K{l:List Cls}(hw:Qs l=true)(n t:Str): ∀xs:List Str,(ffL l n t xs).1.e=0→Q53 l t=true
 |[],h=>by simp[ffL,Qf7] at h
 |x::xs,h=>by
  simp only[ffL] at h
  by_cases h1:0≤fix (ndt n t) (Q1q l x).fields
  ·obtain ⟨k,hk,j,hj,_,e2,_,_,_⟩:=Qyn hw h1
   have h2:=Qvl.1 h1
   rw[e2,List.any_eq_true] at h2
   obtain ⟨f,hf,h3⟩:=h2
   have hK:=Q135 hw hk
   simp only[Qs8,Bool.and_eq_true,List.all_eq_true] at hK
   have h4:=hK.1 f hf
   simp[ndt] at h3
   rw[←h3.2];exact h4
  ·simp only[if_neg h1] at h
   exact ff_K hw n t xs h
theorem fm_K{l:List Cls}(hw:Qs l=true)(n d:Str): ∀xs:List Str,(fmL l n d xs).1.e=0→Q53 l (Qy d).res=true
 |[],h=>by simp[fmL,Qf7] at h
 |x::xs,h=>by
  simp only[fmL] at h
  by_cases h1:0≤Q1j n d (Q1q l x).methods 0
  ·rcases @Q6u n d (Q1q l x).methods 0 with ⟨h2,_⟩|⟨i,hi,h2,h3⟩
   ·omega
   ·have hf:0≤Qi x l 0:=by
     rcases Int.lt_or_le (Qi x l 0) 0 with h4|h4
     ·rw[Q50 Zb] at hi;exact absurd hi (by simp[zC])
     ·exact h4
    obtain ⟨k,hk,_,_,e,_⟩:=Q3w hf
    have hK:=Q135 hw hk
    simp only[Qs8,Bool.and_eq_true,List.all_eq_true] at hK
    have key: ∀c:Cls,Q1q l x=c→ ∃i,∃hi:i<c.methods.length,c.methods[i].desc=d:=fun c hc=>by subst hc;exact ⟨i,hi,h3.1.2⟩
    obtain ⟨i,hi,h3⟩:=key _ e
    have h4:=hK.2 _ (List.getElem_mem hi)
    have h5:=(Qie (Q8a (Q6s hw hk hi))).2
    rw[h3] at h4 h5
    simp only[Qgv,Bool.and_eq_true] at h4
    rw[←h5];exact h4.2
  ·simp only[if_neg h1] at h
   by_cases h2:n=Qn
   ·simp only[if_pos h2] at h
    by_cases h3:bIn x=true∧d=Qdf
    ·rw[h3.2]
     have:(Qy Qdf).res=[86]:=by decide
     rw[this]
     have e:Q1c [86]=[]:=by decide
     simp[Q53,e]
    ·simp only[if_neg h3] at h;exact absurd h (by simp[Qf7])
   ·simp only[if_neg h2] at h
    exact fm_K hw n d xs h
theorem KN.sw{l:List Cls}{a:List Typ}(h:KN l a){x y:Typ}(hy:Q1s l y=true):KN l (a.map (swT x y)):=fun t ht=>by
 obtain ⟨u,hu,rfl⟩:=List.mem_map.1 ht
 unfold swT
 split
 ·exact hy
 ·exact h u hu
def KW(l:List Cls)(n:Nat)(x:IW):Prop:=x.k=0→KN l x.st∧KN l x.lo∧x.lo.length=n
theorem KW.no{l:List Cls}{n:Nat}{k:Int}{st lo:List Typ}(h:k≠0):KW l n ⟨k,st,lo⟩:=fun e=>absurd e h
theorem KW.mk{l:List Cls}{n:Nat}{k:Int}{st lo:List Typ}(h:KN l st)(h2:KN l lo)(h3:lo.length=n):KW l n ⟨k,st,lo⟩:=fun _=>⟨h,h2,h3⟩
theorem KW.ite{l:List Cls}{n:Nat}{c:Prop}[Decidable c]{x y:IW}(h:c→KW l n x)(h2: ¬c→KW l n y):KW l n (if c then x else y):=by
 split
 ·exact h ‹_›
 ·exact h2 ‹_›
section
variable {F:SF} {st lo tk:List Typ} {n:Nat}
theorem Q17r(hst:KN F.l st)(hlo:KN F.l lo)(hn:lo.length=n)(htk:KN F.l tk):KW F.l n (Q2p F st lo tk):=by
 unfold Q2p
 have h1:=htk.at 0
 have h2:=htk.at 1
 repeat' (refine KW.ite (fun _=> ?_) (fun _=> ?_))
 all_goals first
  |exact .no Z3w
  |exact .mk hst hlo hn
  |exact .mk (hst.snoc (Q8b Zb)) hlo hn
  |exact .mk (hst.snoc (hlo.at _)) hlo hn
  |exact .mk hst (fun t ht=>by
    rcases List.mem_or_eq_of_mem_set ht with h|h
    ·exact hlo t h
    ·rw[h];exact h1) Zbj
  |exact .mk (hst.app (by intro t ht;simp at ht;rcases ht with rfl|rfl|rfl|rfl<;>assumption)) hlo hn
  |exact .mk (hst.app (by intro t ht;simp at ht;rcases ht with rfl|rfl<;>assumption)) hlo hn
  |exact .mk (hst.app (by intro t ht;simp at ht;rcases ht with rfl;assumption)) hlo hn
  |exact .mk (hst.app (by intro t ht;simp at ht;simp_all)) hlo hn
theorem Q180(hst:KN F.l st)(hlo:KN F.l lo)(hn:lo.length=n)(ha:0≤F.at'∧F.at'≤59):KW F.l n (Qik F st lo):=by
 unfold Qik
 refine KW.ite (fun h=> ?_) (fun _=> .no Z3w)
 repeat' (refine KW.ite (fun _=> ?_) (fun _=> ?_))
 ·exact .no Z3w
 ·exact .no Z3w
 ·refine .mk ((hst.sw (Ql4 _)).snoc ?_) (hlo.sw (Ql4 _)) Zbj
  simp[Q1s,Q9o,h,ha]
theorem Q18a(hw:Qs F.l=true)(hst:KN F.l st)(hlo:KN F.l lo)(hn:lo.length=n):KW F.l n (Qdd F st lo tk):=by
 unfold Qdd Qb4
 refine KW.ite (fun h=> ?_) (fun _=> .no Z3w)
 refine KW.ite (fun h2=> ?_) (fun h2=> .no h2)
 repeat' (refine KW.ite (fun _=> ?_) (fun _=> ?_))
 ·exact .no Z3w
 ·exact .mk (hst.snoc (Qvb (ff_K hw _ _ _ h2))) hlo hn
 ·exact .mk hst hlo hn
 ·exact .no Z3w
theorem Q15l{l:List Cls}{r:Str}{st:List Typ}(hst:KN l st)(h:Q53 l r=true):KN l (Qst r st):=by
 unfold Qst
 split
 ·exact hst
 ·exact hst.snoc (Qvb h)
theorem cl_K(hw:Qs F.l=true)(hst:KN F.l st)(hlo:KN F.l lo)(hn:lo.length=n):KW F.l n (clI F st lo tk):=by
 unfold clI Qbb
 refine KW.ite (fun _=> .no Z3w) (fun _=> ?_)
 refine KW.ite (fun h=> ?_) (fun _=> .no Z3w)
 refine KW.ite (fun h2=> ?_) (fun h2=> .no h2)
 repeat' (refine KW.ite (fun _=> ?_) (fun _=> ?_))
 ·exact .no Z3w
 ·exact .mk (Q15l hst (fm_K hw _ _ _ h2)) hlo hn
 ·exact .no Z3w
theorem sp_K(hw:Qs F.l=true)(hc:isKnown F.l F.c.name=true)(hst:KN F.l st)(hlo:KN F.l lo)(hn:lo.length=n)(htk:KN F.l tk):KW F.l n (spI F st lo tk):=by
 unfold spI Qay
 refine KW.ite (fun _=> ?_) (fun _=> ?_)
 ·refine KW.ite (fun h=> ?_) (fun _=> .no Z3w)
  refine KW.ite (fun h2=> ?_) (fun h2=> .no h2)
  refine KW.ite (fun _=> .no Z3w) (fun h3=> ?_)
  refine KW.ite (fun _=> ?_) (fun h4=> ?_)
  ·exact .mk (hst.sw (Qec hc)) (hlo.sw (Qec hc)) Zbj
  ·have h5:Q54 F (atL tk 0)=true:=by
    simp only[Bool.not_eq_true] at h4
    simp[h4] at h3
    exact h3.1
   simp only[Q54,Bool.and_eq_true,decide_eq_true_eq] at h5
   have h6:=htk.at 0
   have h7:isKnown F.l (atL tk 0).c=true:=by
    unfold Q1s at h6
    rw[if_neg Zb,if_pos h5.1] at h6
    simp only[Bool.and_eq_true] at h6
    exact h6.1
   exact .mk (hst.sw (Qec h7)) (hlo.sw (Qec h7)) Zbj
 ·refine KW.ite (fun h=> ?_) (fun _=> .no Z3w)
  refine KW.ite (fun h2=> ?_) (fun h2=> .no h2)
  repeat' (refine KW.ite (fun _=> ?_) (fun _=> ?_))
  ·exact .no Z3w
  ·exact .no Z3w
  ·exact .mk (Q15l hst (fm_K hw _ _ _ h2)) hlo hn
theorem cs_K(hst:KN F.l st)(hlo:KN F.l lo)(hn:lo.length=n):KW F.l n (csI F st lo tk):=by
 unfold csI
 refine KW.ite (fun h=> ?_) (fun _=> .no Z3w)
 refine KW.ite (fun _=> ?_) (fun _=> .no Z3w)
 refine .mk (hst.snoc ?_) hlo hn
 split
 ·exact Qec h
 ·exact Q8b Zb
theorem ls_K(hst:KN F.l st)(hlo:KN F.l lo)(hn:lo.length=n)(htk:KN F.l tk):KW F.l n (lsI F st lo tk):=by
 unfold lsI
 refine KW.ite (fun _=> ?_) (fun _=> ?_)
 ·refine KW.ite (fun _=> .no Z3w) (fun h=> ?_)
  refine KW.ite (fun _=> ?_) (fun _=> .no Z3w)
  refine .mk (hst.snoc ?_) hlo hn
  split
  ·exact Q8b Zb
  ·rename_i h2
   exact Qd8 (.inr rfl) (by simpa[h2] using h) rfl
 ·refine KW.ite (fun _=> .no Z3w) (fun h=> ?_)
  refine KW.ite (fun _=> .mk (hst.snoc (Q8b Zb)) hlo hn) (fun _=> ?_)
  refine KW.ite (fun _=> ?_) (fun _=> ?_)
  ·refine .mk (hst.snoc ?_) hlo hn
   have h6:=htk.at 0
   unfold elT
   split
   ·exact Q8b Zb
   ·rename_i h7
    have h8:(atL tk 0).k=5:=by simp[Q90] at h;omega
    unfold Q1s at h6
    rw[if_pos (.inr h8)] at h6
    simp only[Bool.and_eq_true] at h6
    exact Qec h6.1
  ·exact KW.ite (fun _=> .mk hst hlo hn) (fun _=> .mk hst hlo hn)
theorem Q17p(hw:Qs F.l=true)(hc:isKnown F.l F.c.name=true)(ha:0≤F.at'∧F.at'≤59)(hst:KN F.l st)(hlo:KN F.l lo)(hn:lo.length=n)(htk:KN F.l tk):KW F.l n (Q36 F st lo tk):=by
 unfold Q36
 refine KW.ite (fun _=>Q17r hst hlo hn htk) (fun _=> ?_)
 refine KW.ite (fun _=>KW.ite (fun _=> .mk (hst.snoc (Q8b Zb)) hlo hn) (fun _=> .no Z3w)) (fun _=> ?_)
 refine KW.ite (fun _=> .mk hst hlo hn) (fun _=> ?_)
 refine KW.ite (fun _=> .mk hst hlo hn) (fun _=> ?_)
 refine KW.ite (fun _=> .mk hst hlo hn) (fun _=> ?_)
 refine KW.ite (fun _=>Q180 hst hlo hn ha) (fun _=> ?_)
 refine KW.ite (fun _=>Q18a hw hst hlo hn) (fun _=> ?_)
 refine KW.ite (fun _=>sp_K hw hc hst hlo hn htk) (fun _=> ?_)
 refine KW.ite (fun _=>cl_K hw hst hlo hn) (fun _=> ?_)
 exact KW.ite (fun _=>cs_K hst hlo hn) (fun _=>ls_K hst hlo hn htk)
theorem Q18c(hw:Qs F.l=true)(hc:isKnown F.l F.c.name=true)(ha:0≤F.at'∧F.at'≤59)(hst:KN F.l st)(hlo:KN F.l lo)(hn:lo.length=n)(h0:(Q4z F st lo).k=0):
  KN F.l (Q4z F st lo).st∧KN F.l (Q4z F st lo).lo∧(Q4z F st lo).lo.length=n∧((Q4z F st lo).st.length:Int)≤F.m.stack:=by
 unfold Q4z at h0⊢
 by_cases h1:(st.length:Int)-Q2a F.i<0
 ·rw[if_pos h1] at h0;simp at h0
 ·rw[if_neg h1] at h0⊢
  have hr:=Q17p (F:=F) (st:=st.take ((st.length:Int)-Q2a F.i).toNat) (lo:=lo) (tk:=st.drop ((st.length:Int)-Q2a F.i).toNat) hw hc ha (fun t ht=>hst t (List.mem_of_mem_take ht)) hlo hn (fun t ht=>hst t (List.mem_of_mem_drop ht))
  by_cases h2:(Q36 F (st.take ((st.length:Int)-Q2a F.i).toNat) lo (st.drop ((st.length:Int)-Q2a F.i).toNat)).k=0
  ·rw[if_pos h2] at h0⊢
   obtain ⟨g1,g2,g3⟩:=hr h2
   refine ⟨g1,g2,g3,?_⟩
   simp only[cu] at h0
   split at h0
   ·rename_i h3;simpa using h3
   ·simp at h0
  ·rw[if_neg h2] at h0;exact absurd h0 h2
end
theorem Qyv(l:List Cls): ∀(f:Nat) (k:Int),(ups l f k).length≤f
 |0,_=>Nat.le_refl _
 |f+1,k=>by
  unfold ups
  split
  ·simp
  ·simpa using Qyv l f _
def rkB(l:List Cls):Nat:=l.length+4
theorem Q122(l:List Cls)(n:Str):rk l n≤rkB l:=by
 have:=Qyv l (l.length+1) (Qi n l 0)
 unfold rk rkB
 repeat' split
 all_goals omega
def rkT(l:List Cls)(t:Typ):Nat:=if t.k=0 then 0 else if t.k=3 then 1+rk l t.c else if t.k=4 then rkB l+2 else if t.k=5 then rkB l+3+rk l t.c else if t.k=2 then 2*rkB l+4 else 1
theorem Q168(l:List Cls)(t:Typ):rkT l t≤2*rkB l+4:=by
 have:=Q122 l t.c
 unfold rkT
 repeat' split
 all_goals omega
theorem Q183{l:List Cls}(hw:Qs l=true){a b:Typ}(ha:Q1s l a=true)(hb:Q1s l b=true)(h:leT l a b=true):a=b∨rkT l b<rkT l a:=by
 by_cases he:a=b
 ·exact .inl he
 refine .inr ?_
 have ra:=Q122 l a.c
 have rb:=Q122 l b.c
 rcases (Qya ha hb).1 h with h|h|⟨h1,h2⟩|⟨h1,h2⟩|⟨h1,h2,h3⟩
 ·exact absurd h he
 ·have hb0:rkT l b=0:=by unfold rkT;rw[if_pos h]
  rw[hb0]
  have:a.k≠0:=fun e=>he (Qw6 ha hb Zb Zb Zb)
  unfold rkT
  repeat' split
  all_goals omega
 ·unfold rkT
  rcases h2 with e|e|e<;>simp[h1,e]<;>omega
 ·have hka:isKnown l a.c=true:=(Qa3 ha Zb).1
  have hc:b.c≠a.c:=fun e=>he (Qq3 Zb e.symm (by rw[(Qa3 ha Zb).2,(Qa3 hb Zb).2]))
  have:=(Q186 hw a.c hka h2).resolve_left hc
  unfold rkT
  rcases h1 with ⟨e1,e2⟩|⟨e1,e2⟩<;>simp[e1,e2]<;>omega
 ·have hb0:rk l b.c≤rkB l:=rb
  unfold rkT
  rcases h1 with e|e<;>simp[h2,e]<;>omega
def Qwa(l:List Cls)(a:List Typ):Nat:=(a.map (rkT l)).sum
theorem Qus(l:List Cls): ∀a:List Typ,Qwa l a≤a.length*(2*rkB l+4)
 |[]=>by simp[Qwa]
 |x::a=>by
  have h1:=Q168 l x
  have h2:=Qus l a
  simp only[Qwa,List.map_cons,List.sum_cons,List.length_cons,Nat.add_mul] at h2⊢
  omega
theorem Qrb{l:List Cls}(hw:Qs l=true): ∀{a b:List Typ},KN l a→KN l b→a.length=b.length→KN l (Q5w (Q8x l) a b)∧(Q5w (Q8x l) a b=a∨Qwa l (Q5w (Q8x l) a b)<Qwa l a)
 |[],[],_,_,_=>by simp[Q5w,KN]
 |[],_::_,_,_,h=>by simp at h
 |_::_,[],_,_,h=>by simp at h
 |x::a,y::b,ha,hb,h=>by
  have hx:=ha x Z3
  have hy:=hb y Z3
  obtain ⟨g1,g2⟩:=Qrb hw (a:=a) (b:=b) (fun t ht=>ha t (by simp[ht])) (fun t ht=>hb t (by simp[ht])) Z49
  have hk:=Qmy hw hx hy
  have hu:=Q183 hw hx hk (Q16e hw hx hy).1
  have hcons:Q5w (Q8x l) (x::a) (y::b)=Q8x l x y::Q5w (Q8x l) a b:=rfl
  rw[hcons]
  refine ⟨fun t ht=> ?_,?_⟩
  ·rcases List.mem_cons.1 ht with rfl|ht
   ·exact hk
   ·exact g1 t ht
  ·simp only[Qwa,List.map_cons,List.sum_cons,List.cons.injEq] at g2⊢
   rcases hu with e|hu
   ·rw[←e]
    rcases g2 with e2|g2
    ·exact .inl ⟨rfl,e2⟩
    ·right;omega
   ·rcases g2 with e2|g2
    ·rw[e2];right;omega
    ·right;omega
def FG(l:List Cls)(m:Mth)(g:Frm):Prop:=Qn0 l g=true∧(g.locals.length:Int)=m.locals∧(g.stack.length:Int)≤m.stack
theorem FG.kn{l:List Cls}{m:Mth}{g:Frm}(h:FG l m g):KN l g.stack∧KN l g.locals:=by
 have:=h.1
 simp only[Qn0,Bool.and_eq_true,List.all_eq_true,decide_eq_true_eq] at this
 exact ⟨this.2.2.1,this.2.2.2⟩
theorem FG.mk'{l:List Cls}{m:Mth}{g:Frm}(hm:m.stack≤16∧m.locals≤16)(h1:KN l g.stack)(h2:KN l g.locals)(h3:(g.locals.length:Int)=m.locals)(h4:(g.stack.length:Int)≤m.stack):FG l m g:=by
 refine ⟨?_,h3,h4⟩
 simp only[Qn0,Bool.and_eq_true,List.all_eq_true,decide_eq_true_eq]
 exact ⟨by omega,by omega,h1,h2⟩
def Qwd(l:List Cls)(g:Frm):Nat:=Qwa l g.stack+Qwa l g.locals
theorem Q145{l:List Cls}{m:Mth}{g:Frm}(h:FG l m g):Qwd l g≤32*(2*rkB l+4):=by
 have h1:=Qus l g.stack
 have h2:=Qus l g.locals
 have h3:=Qgl h.1
 have h4:=Nat.mul_le_mul_right (2*rkB l+4) h3.1
 have h5:=Nat.mul_le_mul_right (2*rkB l+4) h3.2
 unfold Qwd
 omega
theorem Q10z{l:List Cls}{m:Mth}(hw:Qs l=true)(hm:m.stack≤16∧m.locals≤16){a b:Frm}(ha:FG l m a)(hb:FG l m b)(e:a.stack.length=b.stack.length):
  FG l m (Q40 l a b)∧(Q40 l a b=a∨Qwd l (Q40 l a b)<Qwd l a):=by
 have e2:a.locals.length=b.locals.length:=by have:=ha.2.1;have:=hb.2.1;omega
 obtain ⟨g1,g2⟩:=Qrb hw ha.kn.1 hb.kn.1 e
 obtain ⟨g3,g4⟩:=Qrb hw ha.kn.2 hb.kn.2 e2
 refine ⟨.mk' hm g1 g3 ?_ ?_,?_⟩
 ·show ((Q5w (Q8x l) a.locals b.locals).length:Int)=_
  rw[Qar e2];exact ha.2.1
 ·show ((Q5w (Q8x l) a.stack b.stack).length:Int)≤_
  rw[Qar e];exact ha.2.2
 ·unfold Qwd Q40
  rcases g2 with g2|g2
  ·rcases g4 with g4|g4
   ·left;rw[g2,g4]
   ·right;simp only[g2];omega
  ·rcases g4 with g4|g4
   ·right;simp only[g4];omega
   ·right;simp only;omega
structure CkS where
 seen:List Bool
 frs:List Frm
 waits:List Bool
def Qag(l:List Cls)(s:CkS)(nx:Nat)(f:Frm):Option CkS:=
 if s.seen.getD nx false=false then some ⟨s.seen.set nx true,s.frs.set nx f,s.waits.set nx true⟩
 else if (atL s.frs nx).stack.length=f.stack.length then (if Q40 l (atL s.frs nx) f=atL s.frs nx then some s else some ⟨s.seen,s.frs.set nx (Q40 l (atL s.frs nx) f),s.waits.set nx true⟩)
 else none
def Q68(l:List Cls):List Int→List Frm→CkS→Option CkS
 |n::ns,f::fs,s=>match Qag l s n.toNat f with
  |some s=>Q68 l ns fs s
  |none=>none
 |_,_,s=>some s
def fAt(l:List Cls)(c:Cls)(m:Mth)(a:Nat):SF:=⟨l,c,m,atL m.code a,a⟩
structure CkO where
 seen:List Bool
 frs:List Frm
 at':Int
 k:Int
def noCk(a k:Int):CkO:=⟨[],[],a,k⟩
def Q7g(w:List Bool):Int:=fix (fun b=>b) w
def unw(s:CkS)(a:Nat):CkS:=⟨s.seen,s.frs,s.waits.set a false⟩
def Q8l(l:List Cls)(c:Cls)(m:Mth):Nat→CkS→CkO
 |0,s=>⟨s.seen,s.frs,0,0⟩
 |n+1,s=>if Q7g s.waits<0 then ⟨s.seen,s.frs,0,0⟩
  else if (Q7h (fAt l c m (Q7g s.waits).toNat) (atL s.frs (Q7g s.waits).toNat)).k=0 then
   (match Q68 l (Q7h (fAt l c m (Q7g s.waits).toNat) (atL s.frs (Q7g s.waits).toNat)).nx (Q7h (fAt l c m (Q7g s.waits).toNat) (atL s.frs (Q7g s.waits).toNat)).fs (unw s (Q7g s.waits).toNat) with
    |some s'=>Q8l l c m n s'
    |none=>noCk (Q7g s.waits) 11)
  else noCk (Q7g s.waits) (Q7h (fAt l c m (Q7g s.waits).toNat) (atL s.frs (Q7g s.waits).toNat)).k
def potA(l:List Cls)(s:CkS)(i:Nat):Nat:=2*(if s.seen.getD i false=true then Qwd l (atL s.frs i) else 32*(2*rkB l+4)+1)+(if s.waits.getD i false=true then 1 else 0)
def Q6a(l:List Cls)(n:Nat)(s:CkS):Nat:=((List.range n).map (potA l s)).sum
theorem Qyz{f g:Nat→Nat}: ∀{L:List Nat},(∀j∈L,f j≤g j)→(L.map f).sum≤(L.map g).sum
 |[],_=>Nat.le_refl _
 |x::L,h=>by
  simp only[List.map_cons,List.sum_cons]
  have:=h x Z3
  have:=Qyz (L:=L) (fun j hj=>h j (by simp[hj]))
  omega
theorem Qur{f g:Nat→Nat}: ∀{L:List Nat} {i:Nat},i∈L→(∀j∈L,f j≤g j)→f i<g i→(L.map f).sum<(L.map g).sum
 |[],_,h,_,_=>by simp at h
 |x::L,i,h,hle,hlt=>by
  simp only[List.map_cons,List.sum_cons]
  have hx:=hle x Z3
  have hL:=Qyz (L:=L) (fun j hj=>hle j (by simp[hj]))
  rcases List.mem_cons.1 h with rfl|h
  ·omega
  ·have:=Qur h (fun j hj=>hle j (by simp[hj])) hlt
   omega
theorem Q3t{l:List Bool}{i:Nat}(h:i<l.length)(b:Bool):(l.set i b).getD i false=b:=by simp[List.getD,h]
theorem getD_set_ne{l:List Bool}{i j:Nat}(h:i≠j)(b:Bool):(l.set i b).getD j false=l.getD j false:=by simp[List.getD,List.getElem?_set_ne h]
theorem Qaq{α:Type}[Inhabited α]{l:List α}{i:Nat}(h:i<l.length)(b:α):atL (l.set i b) i=b:=by unfold atL;simp[List.getD,h]
theorem Qsl{α:Type}[Inhabited α]{l:List α}{i j:Nat}(h:i≠j)(b:α):atL (l.set i b) j=atL l j:=by unfold atL;simp[List.getD,List.getElem?_set_ne h]
def CI(l:List Cls)(m:Mth)(s:CkS):Prop:=s.seen.length=m.code.length∧s.frs.length=m.code.length∧s.waits.length=m.code.length∧
 ∀i,i<m.code.length→(s.seen.getD i false=true→FG l m (atL s.frs i))∧(s.waits.getD i false=true→s.seen.getD i false=true)
theorem Qqg{l:List Cls}{m:Mth}(hw:Qs l=true)(hm:m.stack≤16∧m.locals≤16){s s':CkS}{a:Nat}{f:Frm}(hs:CI l m s)(ha:a<m.code.length)(hf:FG l m f)(h:Qag l s a f=some s'):
  CI l m s'∧Q6a l m.code.length s'≤Q6a l m.code.length s:=by
 obtain ⟨h1,h2,h3,h4⟩:=hs
 have key: ∀{sn:List Bool} {g:Frm},sn=s.seen.set a true→FG l m g→(Qwd l g<(if s.seen.getD a false=true then Qwd l (atL s.frs a) else 32*(2*rkB l+4)+1))→
   CI l m ⟨sn,s.frs.set a g,s.waits.set a true⟩∧Q6a l m.code.length ⟨sn,s.frs.set a g,s.waits.set a true⟩≤Q6a l m.code.length s:=by
  rintro sn g rfl hg hlt
  refine ⟨⟨by simpa using h1,by simpa using h2,by simpa using h3,fun i hi=> ?_⟩,Nat.le_of_lt (Qur (List.mem_range.2 ha) (fun j hj=> ?_) ?_)⟩
  ·by_cases e:a=i
   ·subst e
    simp only
    rw[Q3t Zb,Qaq Zb]
    exact ⟨fun _=>hg,fun _=>rfl⟩
   ·simp only
    rw[getD_set_ne e,Qsl e,getD_set_ne e]
    exact h4 i hi
  ·by_cases e:a=j
   ·subst e
    unfold potA
    simp only
    rw[Q3t Zb,Qaq Zb,Q3t Zb,if_pos rfl,if_pos rfl]
    omega
   ·unfold potA
    simp only
    rw[getD_set_ne e,Qsl e,getD_set_ne e]
    exact Nat.le_refl _
  ·unfold potA
   simp only
   rw[Q3t Zb,Qaq Zb,Q3t Zb,if_pos rfl,if_pos rfl]
   omega
 unfold Qag at h
 split at h
 ·rename_i hn
  cases h
  refine key rfl hf ?_
  rw[hn]
  have:=Q145 hf
  simp
  omega
 ·rename_i hn
  have hn:s.seen.getD a false=true:=by simpa using hn
  split at h
  ·rename_i e
   obtain ⟨g1,g2⟩:=Q10z hw hm ((h4 a ha).1 hn) hf e
   split at h
   ·cases h;exact ⟨⟨h1,h2,h3,h4⟩,Nat.le_refl _⟩
   ·rename_i hne
    cases h
    refine key (sn:=s.seen) ?_ g1 (by rw[if_pos hn];exact g2.resolve_left hne)
    apply List.ext_getElem?
    intro j
    by_cases e:a=j
    ·subst e
     have:s.seen[a]? =some true:=by
      rw[List.getElem?_eq_getElem Zb]
      simp[List.getD,List.getElem?_eq_getElem (show a<s.seen.length by omega)] at hn
      rw[hn]
     rw[this,List.getElem?_set_self Zb]
    ·rw[List.getElem?_set_ne e]
  ·cases h
theorem Qxd{l:List Cls}{m:Mth}(hw:Qs l=true)(hm:m.stack≤16∧m.locals≤16): ∀{ns:List Int} {fs:List Frm} {s s':CkS},CI l m s→(∀p∈ns,0≤p∧p<m.code.length)→(∀g∈fs,FG l m g)→Q68 l ns fs s=some s'→
  CI l m s'∧Q6a l m.code.length s'≤Q6a l m.code.length s
 |[],_,s,s',hs,_,_,h=>by simp[Q68] at h;subst h;exact ⟨hs,Nat.le_refl _⟩
 |_::_,[],s,s',hs,_,_,h=>by simp[Q68] at h;subst h;exact ⟨hs,Nat.le_refl _⟩
 |n::ns,f::fs,s,s',hs,hn,hf,h=>by
  simp only[Q68] at h
  split at h
  ·rename_i s2 h2
   have hb:=hn n Z3
   obtain ⟨g1,g2⟩:=Qqg hw hm hs (show n.toNat<m.code.length by omega) (hf f Z3) h2
   obtain ⟨g3,g4⟩:=Qxd hw hm g1 (fun p hp=>hn p (by simp[hp])) (fun g hg=>hf g (by simp[hg])) h
   exact ⟨g3,by omega⟩
  ·cases h
theorem Qml{l:List Cls}{m:Mth}{s:CkS}{a:Nat}(hs:CI l m s)(ha:a<m.code.length)(hw:s.waits.getD a false=true):CI l m (unw s a)∧Q6a l m.code.length (unw s a)<Q6a l m.code.length s:=by
 obtain ⟨h1,h2,h3,h4⟩:=hs
 refine ⟨⟨h1,h2,by simpa[unw] using h3,fun i hi=>⟨(h4 i hi).1,fun h=> ?_⟩⟩,Qur (List.mem_range.2 ha) (fun j hj=> ?_) ?_⟩
 ·by_cases e:a=i
  ·subst e
   simp only[unw] at h
   rw[Q3t Zb] at h
   cases h
  ·simp only[unw] at h
   rw[getD_set_ne e] at h
   exact (h4 i hi).2 h
 ·unfold potA unw
  simp only
  by_cases e:a=j
  ·subst e
   rw[Q3t Zb]
   simp
  ·rw[getD_set_ne e];exact Nat.le_refl _
 ·unfold potA unw
  simp only
  rw[Q3t Zb,hw]
  simp
theorem Qvf{w:List Bool}(h: ¬Q7g w<0): ∃a:Nat,Q7g w=a∧a<w.length∧w.getD a false=true:=by
 have h1:=Qgn (p:=fun b:Bool=>b) (l:=w)
 obtain ⟨a,ha⟩: ∃a:Nat,Q7g w=a:=⟨(Q7g w).toNat,by omega⟩
 refine ⟨a,ha,by unfold Q7g at ha;omega,?_⟩
 unfold Q7g at ha h
 have: ∀(w:List Bool) (a:Nat),fix (fun b=>b) w=a→w.getD a false=true:=by
  intro w
  induction w with
  |nil=>intro a h;simp[fix] at h
  |cons b w ih=>
   intro a h
   simp only[fix] at h
   cases b
   ·simp at h
    have h2:=Qgn (p:=fun b:Bool=>b) (l:=w)
    by_cases h3:fix (fun b=>b) w<0
    ·rw[if_pos h3] at h;omega
    ·rw[if_neg h3] at h
     obtain ⟨k,rfl⟩: ∃k,a=k+1:=⟨a-1,by omega⟩
     have:=ih k Zb
     simpa[List.getD] using this
   ·simp at h
    obtain rfl:a=0:=by omega
    rfl
 exact this w a ha
structure PL (l:List Cls) (i j:Nat) (c:Cls) (m:Mth):Prop where
 hw:Qs l=true
 hs:Q1w l≤1048576
 p1:i<l.length
 p2:j<l[i].methods.length
 ec:c=l[i]
 em:m=l[i].methods[j]
 ha:m.abstr=false
section
variable {l:List Cls} {i j:Nat} {c:Cls} {m:Mth}
theorem PL.there(h:PL l i j c m):Q5c l i j=true∧Qd4 l i j=m∧Qzq l i j=c:=by
 obtain ⟨hw,hs,p1,p2,rfl,rfl,ha⟩:=h
 have hT:Q5c l i j=true:=by simp[Q5c,p1,Qa p1,p2]
 exact ⟨hT,Qbz hT p1 p2,Qoy hT p1⟩
theorem PL.nums(h:PL l i j c m):1≤m.code.length∧m.code.length≤60∧m.hdls.length≤6∧0≤m.stack∧m.stack≤16∧0≤m.locals∧m.locals≤16:=by
 obtain ⟨hw,hs,p1,p2,rfl,rfl,ha⟩:=h
 have h:=Q6s hw p1 p2
 have hh:=Q8a h
 have h3:=hh
 simp only[Q39,Bool.and_eq_true,decide_eq_true_eq] at h3
 rw[Q6f hh ha] at h
 simp only[Qly,Bool.and_eq_true,Bool.not_eq_true',decide_eq_false_iff_not] at h
 omega
theorem PL.code(h:PL l i j c m):(∀x∈m.code,Q69 m.code.length x=true)∧ ∀x∈m.hdls,Q3v m.code.length x=true:=by
 obtain ⟨hw,hs,p1,p2,rfl,rfl,ha⟩:=h
 have h:=Q6s hw p1 p2
 rw[Q6f (Q8a h) ha] at h
 simp only[Qly,Bool.and_eq_true,List.all_eq_true] at h
 exact h.1.1.2
theorem PL.name(h:PL l i j c m):isKnown l c.name=true:=by
 obtain ⟨hw,hs,p1,p2,rfl,rfl,ha⟩:=h
 have:=Ql3 (l:=l) (k:=(i:Int)) Zb Zb
 simpa[Q7p,Qa p1] using this
theorem PL.right(h:PL l i j c m){a:Nat}(ha:a<m.code.length){f:Frm}(hf:FG l m f):Qgm l i j a f=true:=by
 obtain ⟨hT,hm,_⟩:=h.there
 unfold Qgm
 rw[hT,hm,h.ha]
 simp only[Qdc,h.hw,hf.1,hf.2.1,Bool.not_false,Bool.true_and,Bool.and_eq_true,decide_eq_true_eq]
 exact ⟨by omega,hf.2.2,trivial⟩
theorem PL.sf(h:PL l i j c m)(a:Nat):Q6e l i j a=fAt l c m a:=by
 obtain ⟨_,hm,hc⟩:=h.there
 unfold Q6e fAt
 rw[hm,hc]
 rfl
theorem PL.flow(h:PL l i j c m){a:Nat}(ha:a<m.code.length){f:Frm}(hf:FG l m f):FP l m m.code[a] f∧Qsz (fAt l c m a) f.stack f.locals=Q7h (fAt l c m a) f∧Qx5 l i j a f=true:=by
 have hR:=h.right ha hf
 have key:=Qu3 h.hs hR
 rw[h.sf] at key
 refine ⟨?_,Qx4 key,by rw[Ql7];exact hR⟩
 rcases Qc2 l i j a f h.hs with h0|⟨i',j',n',e1,e2,e3,_,p1,p2,p3,hP,_⟩
 ·rw[h0] at hR;cases hR
 ·obtain rfl:i=i':=by omega
  obtain rfl:j=j':=by omega
  obtain rfl:a=n':=by omega
  have key: ∀M:Mth,M=l[i].methods[j]→ ∀ha:a<M.code.length,FP l M M.code[a] f:=fun M e ha=>by subst e;exact hP
  exact key m h.em ha
theorem Q184{x:Ins}(h:Q1l x=true)(h2:Q67 x.op=[116]):0≤x.a:=by
 simp[Q1l,h2] at h
 omega
theorem Qve{F:SF}{lo:List Typ}{n:Nat}{m:Mth}(hm:F.m=m)(hms:0≤m.stack∧m.stack≤16∧m.locals≤16)(hlo:KN F.l lo)(hln:(lo.length:Int)=m.locals): ∀{hs:List Hdl} {ns:List Int} {fs:List Frm},(∀x∈hs,Q3v n x=true)→
  (∀p∈ns,0≤p∧p<n)→(∀g∈fs,FG F.l m g)→ns.length=fs.length→(Q61 F lo hs ns fs).k=0→
  (∀p∈(Q61 F lo hs ns fs).nx,0≤p∧p<n)∧(∀g∈(Q61 F lo hs ns fs).fs,FG F.l m g)∧(Q61 F lo hs ns fs).nx.length=(Q61 F lo hs ns fs).fs.length∧(Q61 F lo hs ns fs).nx.length≤ns.length+hs.length
 |[],ns,fs,_,h1,h2,h3,_=>⟨h1,h2,h3,by simp[Q61]⟩
 |x::hs,ns,fs,hr,h1,h2,h3,h0=>by
  simp only[Q61] at h0⊢
  have hx:=hr x Z3
  have ht: ∀y∈hs,Q3v n y=true:=fun y hy=>hr y Zca
  by_cases hi:hdIn F x=true
  ·rw[if_pos hi] at h0⊢
   by_cases hk:hdK F x=0
   ·rw[if_pos hk] at h0⊢
    have hkn:isKnown F.l x.cls=true∧m.stack≠0:=by
     unfold hdK at hk
     rw[hm] at hk
     split at hk
     ·rename_i e
      split at hk
      ·split at hk
       ·simp at hk
       ·exact ⟨e,by assumption⟩
      ·simp at hk
     ·simp at hk
    obtain ⟨g1,g2,g3,g4⟩:=Qve hm hms hlo hln (hs:=hs) (ns:=ns++[x.at']) (fs:=fs++[⟨[Q11 x.cls],lo⟩]) ht (fun p hp=>by
     rcases List.mem_append.1 hp with hp|hp
     ·exact h1 p hp
     ·rw[List.mem_singleton.1 hp]
      simp only[Q3v,Bool.and_eq_true,decide_eq_true_eq] at hx
      omega) (fun g hg=>by
     rcases List.mem_append.1 hg with hg|hg
     ·exact h2 g hg
     ·rw[List.mem_singleton.1 hg]
      exact .mk' ⟨by omega,by omega⟩ (.one (Qec hkn.1)) hlo hln Z3l) (by simp[h3]) h0
    exact ⟨g1,g2,g3,by simp at g4⊢;omega⟩
   ·rw[if_neg hk] at h0
    exact absurd h0 hk
  ·rw[if_neg hi] at h0⊢
   obtain ⟨g1,g2,g3,g4⟩:=Qve hm hms hlo hln (hs:=hs) (ns:=ns) (fs:=fs) ht h1 h2 h3 h0
   exact ⟨g1,g2,g3,by simp;omega⟩
theorem PL.flw(h:PL l i j c m){a:Nat}(ha:a<m.code.length){f:Frm}(hf:FG l m f)(h0:(Q7h (fAt l c m a) f).k=0):
  (∀p∈(Q7h (fAt l c m a) f).nx,0≤p∧p<m.code.length)∧(∀g∈(Q7h (fAt l c m a) f).fs,FG l m g)∧(Q7h (fAt l c m a) f).nx.length=(Q7h (fAt l c m a) f).fs.length∧(Q7h (fAt l c m a) f).nx.length≤8:=by
 obtain ⟨hP,hI,_⟩:=h.flow ha hf
 obtain ⟨q1,q2,q3,q4,q5,q6,q7⟩:=h.nums
 obtain ⟨r1,r2⟩:=h.code
 rw[←hI] at h0⊢
 have hi:(fAt l c m a).i=m.code[a]:=by show atL m.code a=_;rw[Qa ha]
 have hc0:=r1 _ (List.getElem_mem ha)
 simp only[Q69,Bool.and_eq_true,Bool.not_eq_true',Bool.and_eq_false_iff,decide_eq_false_iff_not] at hc0
 unfold Qsz Qp5 at h0⊢
 simp only at h0⊢
 by_cases hk:(Q4z (fAt l c m a) f.stack f.locals).k=0
 ·rw[if_pos hk] at h0⊢
  obtain ⟨k1,k2,k3,k4⟩:=Q18c (F:=fAt l c m a) (st:=f.stack) (lo:=f.locals) (n:=f.locals.length) h.hw h.name (by show 0≤(a:Int)∧(a:Int)≤59;omega) hf.kn.1 hf.kn.2 rfl hk
  have hG:FG l m ⟨(Q4z (fAt l c m a) f.stack f.locals).st,(Q4z (fAt l c m a) f.stack f.locals).lo⟩:= .mk' ⟨q5,q7⟩ k1 k2 (by rw[k3];exact hf.2.1) k4
  by_cases he:Qje (fAt l c m a).i.op=false∧((fAt l c m a).m.code.length:Int)≤(fAt l c m a).at'+1
  ·rw[if_pos he] at h0;simp[zFl] at h0
  ·rw[if_neg he] at h0⊢
   have e0:(∀p∈nx0 (fAt l c m a),0≤p∧p<(m.code.length:Int)):=by
    unfold nx0
    split
    ·simp
    ·rename_i e
     intro p hp
     rw[List.mem_singleton.1 hp]
     have: ¬(m.code.length:Int)≤(a:Int)+1:=fun e2=>he ⟨by simpa using e,e2⟩
     show 0≤(a:Int)+1∧(a:Int)+1<_
     omega
   have e1:(∀p∈nx1 (fAt l c m a),0≤p∧p<(m.code.length:Int)):=by
    unfold nx1
    split
    ·rename_i e
     intro p hp
     rcases List.mem_append.1 hp with hp|hp
     ·exact e0 p hp
     ·rw[List.mem_singleton.1 hp,hi]
      rw[hi] at e
      have e:Q67 m.code[a].op=[116]:=by simpa[Qrg] using e
      have:=Q184 hc0.1 e
      have:=hc0.2.resolve_left (fun h=>h e)
      omega
    ·exact e0
   have e2:(∀g∈fs1 (fAt l c m a) ⟨(Q4z (fAt l c m a) f.stack f.locals).st,(Q4z (fAt l c m a) f.stack f.locals).lo⟩,FG l m g):=by
    unfold fs1 fs0
    intro g hg
    split at hg<;>split at hg<;>simp at hg
    all_goals (rcases hg with rfl|rfl<;>exact hG)
   have e3:(nx1 (fAt l c m a)).length=(fs1 (fAt l c m a) ⟨(Q4z (fAt l c m a) f.stack f.locals).st,(Q4z (fAt l c m a) f.stack f.locals).lo⟩).length:=by
    unfold nx1 fs1 nx0 fs0
    split<;>split<;>simp
   obtain ⟨g1,g2,g3,g4⟩:=Qve (F:=fAt l c m a) (lo:=f.locals) (n:=m.code.length) (m:=m) rfl ⟨q4,q5,q7⟩ hf.kn.2 hf.2.1 r2 e1 e2 e3 h0
   have:=Qv3 (fAt l c m a)
   exact ⟨g1,g2,g3,Nat.le_trans g4 Zb⟩
 ·rw[if_neg hk] at h0
  exact absurd h0 hk
theorem PL.fuel(h:PL l i j c m): ∀(N n:Nat) (s:CkS),CI l m s→Q6a l m.code.length s≤N→Q6a l m.code.length s≤n→Q8l l c m n s=Q8l l c m (Q6a l m.code.length s) s:=by
 intro N
 obtain ⟨q1,q2,q3,q4,q5,q6,q7⟩:=h.nums
 induction N with
 |zero=>
  intro n s hs h0 hn
  obtain e0:Q6a l m.code.length s=0:=by omega
  by_cases hf:Q7g s.waits<0
  ·cases n with
   |zero=>rw[e0]
   |succ n=>rw[e0];simp only[Q8l,if_pos hf]
  ·obtain ⟨a,ea,ha,hwa⟩:=Qvf hf
   have:=(Qml hs (by rw[←hs.2.2.1];exact ha) hwa).2
   omega
 |succ N ih=>
  intro n s hs h0 hn
  by_cases hf:Q7g s.waits<0
  ·cases n with
   |zero=>
    obtain e0:Q6a l m.code.length s=0:=by omega
    rw[e0]
   |succ n=>
    cases hm:Q6a l m.code.length s with
    |zero=>simp only[Q8l,if_pos hf]
    |succ k=>simp only[Q8l,if_pos hf]
  ·obtain ⟨a,ea,ha,hwa⟩:=Qvf hf
   have han:a<m.code.length:=by rw[←hs.2.2.1];exact ha
   obtain ⟨u1,u2⟩:=Qml hs han hwa
   obtain ⟨k,hk⟩: ∃k,Q6a l m.code.length s=k+1:=⟨Q6a l m.code.length s-1,by omega⟩
   obtain ⟨n',rfl⟩: ∃n',n=n'+1:=⟨n-1,by omega⟩
   rw[hk]
   simp only[Q8l,if_neg hf,ea,Int.toNat_natCast]
   have hG:FG l m (atL s.frs a):=(hs.2.2.2 a han).1 ((hs.2.2.2 a han).2 hwa)
   by_cases h9:(Q7h (fAt l c m a) (atL s.frs a)).k=0
   ·rw[if_pos h9,if_pos h9]
    obtain ⟨v1,v2,_,_⟩:=h.flw han hG h9
    cases hc:Q68 l (Q7h (fAt l c m a) (atL s.frs a)).nx (Q7h (fAt l c m a) (atL s.frs a)).fs (unw s a) with
    |none=>rfl
    |some s'=>
     obtain ⟨w1,w2⟩:=Qxd h.hw ⟨q5,q7⟩ u1 v1 v2 hc
     simp only
     rw[ih n' s' w1 Zb Zb,←ih k s' w1 Zb Zb]
   ·rw[if_neg h9,if_neg h9]
def Qpm(n:Nat)(f:Frm):CkS:=⟨(List.replicate n false).set 0 true,(List.replicate n ⟨[],[]⟩).set 0 f,(List.replicate n false).set 0 true⟩
def stF(c:Cls)(m:Mth):Frm:=⟨[],Qe3 c.name (Qd m.desc).params m⟩
def ckW(l:List Cls)(c:Cls)(m:Mth):CkO:=Q8l l c m (Q6a l m.code.length (Qpm m.code.length (stF c m))) (Qpm m.code.length (stF c m))
theorem PL.desc(h:PL l i j c m):Qd m.desc=Qy m.desc∧m.desc.length≤20000∧Qgv l m.desc=true∧Q45 m.desc=(Qd m.desc).params.length∧((Qd m.desc).params.length:Int)+(if m.static=true then 0 else 1)≤m.locals:=by
 obtain ⟨hw,hs,p1,p2,rfl,rfl,ha⟩:=h
 have h:=Q6s hw p1 p2
 have hh:=Q8a h
 have hK:=Q135 hw p1
 simp only[Qs8,Bool.and_eq_true,List.all_eq_true] at hK
 have hc:=Qif hh
 have hd:Q45 l[i].methods[j].desc=(Qd l[i].methods[j].desc).params.length:=by unfold Q45;rw[if_pos hc]
 rw[Q6f hh ha] at h
 simp only[Bool.and_eq_true,decide_eq_true_eq] at h
 exact ⟨(Qie hh).2,(Qie hh).1,hK.2 _ (List.getElem_mem p2),hd,by rw[←hd];exact h.1.2⟩
theorem PL.start(h:PL l i j c m):FG l m (stF c m):=by
 obtain ⟨q1,q2,q3,q4,q5,q6,q7⟩:=h.nums
 obtain ⟨d1,d2,d3,d4,d5⟩:=h.desc
 simp only[Qgv,Bool.and_eq_true,List.all_eq_true] at d3
 have hb:KN l (Q4p c.name m++(Qd m.desc).params.map Q1o):=by
  refine KN.app ?_ ?_
  ·unfold Q4p
   split
   ·intro t ht;simp at ht
   ·refine .one ?_
    split
    ·exact Q8b Zb
    ·exact Qec h.name
  ·intro t ht
   obtain ⟨p,hp,rfl⟩:=List.mem_map.1 ht
   exact Qvb (d3.1 p hp)
 have hl:(Q4p c.name m).length=if m.static=true then 0 else 1:=by unfold Q4p;split<;>simp
 refine .mk' ⟨q5,q7⟩ (fun t ht=>by simp[stF] at ht) ?_ ?_ (by simpa[stF] using q4)
 ·show KN l (Qii _ _)
  unfold Qii
  exact hb.app (fun t ht=>by rw[(List.mem_replicate.1 ht).2];exact Ql4 l)
 ·show ((Qii _ _).length:Int)=_
  unfold Qii
  simp only[List.length_append,List.length_map,List.length_replicate,hl]
  split at d5<;>simp_all<;>omega
theorem PL.begin(h:PL l i j c m):CI l m (Qpm m.code.length (stF c m)):=by
 obtain ⟨q1,_⟩:=h.nums
 have hst:=h.start
 refine ⟨by simp[Qpm],by simp[Qpm],by simp[Qpm],fun k hk=> ?_⟩
 simp only[Qpm]
 by_cases e:0=k
 ·subst e
  rw[Q3t (by simpa using hk),Qaq (by simpa using hk)]
  exact ⟨fun _=>hst,fun _=>rfl⟩
 ·rw[getD_set_ne e]
  simp[List.getD,hk]
end
def bW(b:Bool):V:= .bool b
attribute [simp] bW
@[simp] theorem pureL_bW (l:List Bool):pureL (l.map bW)=true:=Q3z _ (fun _=>rfl) l
@[simp] theorem fzL_bW (l:List Bool):fzL (l.map bW)=l.map bW:=Q6i _ (fun _=>rfl) l
@[simp] theorem jkL_bW (p:Nat→Bool) (l:List Bool):jkL p (l.map bW)=l.map bW:=Q5f p _ (fun _=>rfl) l
@[simp] theorem lim_bW (n:Nat) (l:List Bool):limL n (l.map bW)=true:=by simp[Qd7,V.lim]
@[simp] theorem mapL_bW (g:Nat→Option Nat) (l:List Bool):mapL g (l.map bW)=l.map bW:=Q6v g (fun _=>rfl) l
theorem Q12v{a b:Frm}:a=b↔a.stack=b.stack∧a.locals=b.locals:=by cases a;cases b;simp
theorem Qup{α:Type}{a b:List α}{i:Nat}(h:a.take i=b.take i)(h1:i<a.length)(h2:i<b.length)(e:a[i]=b[i]):a.take (i+1)=b.take (i+1):=by
 rw[List.take_succ_eq_append_getElem h1,List.take_succ_eq_append_getElem h2,h,e]
theorem Qqm{α:Type}{a b:List α}{i:Nat}(h:a.take i=b.take i)(h1:a.length≤i)(e:a.length=b.length):a=b:=by
 rwa [List.take_of_length_le h1,List.take_of_length_le Zb] at h
@[simp] theorem frm_eta (f:Frm):(⟨f.stack,f.locals⟩:Frm)=f:=rfl
theorem Q165(l:List Bool)(n:Nat)(b:Bool):(l.map bW).set n (V.bool b)=(l.set n b).map bW:=by rw[List.map_set];rfl
theorem Q144(l:List Frm)(n:Nat)(st lo:List Typ):(l.map eFr).set n (.agg [.lst false 3 (st.map eT),.lst false 3 (lo.map eT)])=(l.set n ⟨st,lo⟩).map eFr:=by rw[List.map_set];rfl
def cmS(l:List Cls)(s:CkS)(n:Nat)(f:Frm):CkS:=(Qag l s n f).getD s
def cmK(l:List Cls)(s:CkS)(n:Nat)(f:Frm):Int:=if (Qag l s n f).isSome=true then 0 else 11
section
variable {l:List Cls} {s:CkS} {n:Nat} {f:Frm}
theorem Qq4(h:n<s.seen.length):s.seen.getD n false=s.seen[n]:=by simp[List.getD,h]
theorem Qhf(h:n<s.seen.length)(h1:s.seen[n]=false):Qag l s n f=some ⟨s.seen.set n true,s.frs.set n f,s.waits.set n true⟩:=by
 rw[Qag,if_pos (by rw[Qq4 h];exact h1)]
theorem Qvr(h:n<s.seen.length)(h1:s.seen[n]=true)(h2:n<s.frs.length)(h3: ¬s.frs[n].stack.length=f.stack.length):Qag l s n f=none:=by
 rw[Qag,if_neg Zbw,if_neg Zc3]
theorem Qdo(h:n<s.seen.length)(h1:s.seen[n]=true)(h2:n<s.frs.length)(h3:s.frs[n].stack.length=f.stack.length)(h4:Q40 l s.frs[n] f=s.frs[n]):Qag l s n f=some s:=by
 rw[Qag,if_neg Zbw,if_pos Zc3,if_pos (by rw[Qa h2];exact h4)]
theorem Qih(h:n<s.seen.length)(h1:s.seen[n]=true)(h2:n<s.frs.length)(h3:s.frs[n].stack.length=f.stack.length)(h4: ¬Q40 l s.frs[n] f=s.frs[n]):Qag l s n f=some ⟨s.seen,s.frs.set n (Q40 l s.frs[n] f),s.waits.set n true⟩:=by
 rw[Qag,if_neg Zbw,if_pos Zc3,if_neg (by rw[Qa h2];exact h4),Qa h2]
end
theorem Qr8{g:Nat→Option Nat}{x:V}(h:x.mapId g=x): ∀n,mapL g (List.replicate n x)=List.replicate n x
 |0=>rfl
 |n+1=>by rw[List.replicate_succ,mapL,h,Qr8 h n]
@[simp] theorem mapL_repB (g:Nat→Option Nat) (n:Nat) (b:Bool):mapL g (List.replicate n (V.bool b))=List.replicate n (V.bool b):=Qr8 rfl n
@[simp] theorem mapL_repN (g:Nat→Option Nat) (n:Nat):mapL g (List.replicate n (V.agg [.raw (.slice none 0 0),.raw (.slice none 0 0)]))=List.replicate n (V.agg [.raw (.slice none 0 0),.raw (.slice none 0 0)]):=Qr8 rfl n
def mCk(x:CkO):V:= .agg [.lst true 1 (x.seen.map bW),.lst true 2 (x.frs.map eFr),.int .i64 x.at',.int .i64 x.k]
def eCk(x:CkO):V:= .agg [.lst false 1 (x.seen.map bW),.lst false 2 (x.frs.map eFr),.int .i64 x.at',.int .i64 x.k]
attribute [simp] mCk eCk
theorem Q14m{w:List Bool}{i:Nat}(h:i<w.length)(h1: ∀x∈w.take i,x=false)(h2:w[i]=true):Q7g w=i:=Q5y (p:=fun b=>b) h h1 h2
theorem Q16k{w:List Bool}(h1: ∀x∈w,x=false):Q7g w= -1:=Q5h (p:=fun b=>b) h1
section
variable {l:List Cls} {i j:Nat} {c:Cls} {m:Mth} {s s2:CkS} {a:Nat}
theorem Q138(h:Q7g s.waits= -1)(n:Nat):Q8l l c m n s=⟨s.seen,s.frs,0,0⟩:=by
 cases n with
 |zero=>rfl
 |succ n=>simp only[Q8l];rw[if_pos (by rw[h];decide)]
theorem Qxq(h:a<s.waits.length)(h1:s.waits[a]=true):s.waits.getD a false=true:=by simp[List.getD,h,h1]
theorem Qy6(hs:CI l m s)(ha:a<m.code.length)(h1:s.waits.getD a false=true): ∃k,Q6a l m.code.length s=k+1:=by
 have:=(Qml hs ha h1).2
 exact ⟨Q6a l m.code.length s-1,by omega⟩
theorem PL.seen(hs:CI l m s)(ha:a<m.code.length)(h1:s.waits.getD a false=true):FG l m (atL s.frs a):=(hs.2.2.2 a ha).1 ((hs.2.2.2 a ha).2 h1)
theorem Q137(hs:CI l m s)(ha:a<m.code.length)(h1:s.waits.getD a false=true)(h2:Q7g s.waits=a)(h3: ¬(Q7h (fAt l c m a) (atL s.frs a)).k=0):Q8l l c m (Q6a l m.code.length s) s=noCk a (Q7h (fAt l c m a) (atL s.frs a)).k:=by
 obtain ⟨k,hk⟩:=Qy6 hs ha h1
 rw[hk]
 simp only[Q8l,h2,Int.toNat_natCast]
 rw[if_neg Zb,if_neg h3]
theorem Q136(hs:CI l m s)(ha:a<m.code.length)(h1:s.waits.getD a false=true)(h2:Q7g s.waits=a)(h3:(Q7h (fAt l c m a) (atL s.frs a)).k=0)
  (h4:Q68 l (Q7h (fAt l c m a) (atL s.frs a)).nx (Q7h (fAt l c m a) (atL s.frs a)).fs (unw s a)=none):Q8l l c m (Q6a l m.code.length s) s=noCk a 11:=by
 obtain ⟨k,hk⟩:=Qy6 hs ha h1
 rw[hk]
 simp only[Q8l,h2,Int.toNat_natCast]
 rw[if_neg Zb,if_pos h3,h4]
theorem PL.go(h:PL l i j c m)(hs:CI l m s)(ha:a<m.code.length)(h1:s.waits.getD a false=true)(h2:Q7g s.waits=a)(h3:(Q7h (fAt l c m a) (atL s.frs a)).k=0)
  (h4:Q68 l (Q7h (fAt l c m a) (atL s.frs a)).nx (Q7h (fAt l c m a) (atL s.frs a)).fs (unw s a)=some s2) (h5:CI l m s2) (h6:Q6a l m.code.length s2≤Q6a l m.code.length (unw s a)):
  Q8l l c m (Q6a l m.code.length s) s=Q8l l c m (Q6a l m.code.length s2) s2∧Q6a l m.code.length s2<Q6a l m.code.length s:=by
 obtain ⟨k,hk⟩:=Qy6 hs ha h1
 have h7:=(Qml hs ha h1).2
 refine ⟨?_,by omega⟩
 rw[hk]
 simp only[Q8l,h2,Int.toNat_natCast]
 rw[if_neg Zb,if_pos h3,h4]
 exact h.fuel _ k s2 h5 (Nat.le_refl _) Zb
theorem Qs5{ns:List Int}{fs:List Frm}{k:Nat}(h1:k<ns.length)(h2:k<fs.length)(s:CkS):Q68 l (ns.drop k) (fs.drop k) s=match Qag l s ns[k].toNat fs[k] with
  |some s=>Q68 l (ns.drop (k+1)) (fs.drop (k+1)) s
  |none=>none:=by
 rw[List.drop_eq_getElem_cons h1,List.drop_eq_getElem_cons h2];rfl
theorem Qub{ns:List Int}{fs:List Frm}{k:Nat}(h1:ns.length≤k)(s:CkS):Q68 l (ns.drop k) (fs.drop k) s=some s:=by
 rw[List.drop_eq_nil_of_le h1];rfl
end
theorem Q14x(l:List Cls)(m:Mth):CI l m ⟨List.replicate m.code.length false,List.replicate m.code.length ⟨[],[]⟩,List.replicate m.code.length false⟩:=
 ⟨by simp,by simp,by simp,fun i hi=>by simp[List.getD,hi]⟩
theorem Q14t{l:List Cls}{n:Nat}(h:0<n)(f:Frm):cmS l ⟨List.replicate n false,List.replicate n ⟨[],[]⟩,List.replicate n false⟩ 0 f=Qpm n f:=by
 rw[cmS,Qhf Z49 Z3]
 rfl
theorem Q14v{l:List Cls}{s:CkS}{n:Nat}{f:Frm}(h: ¬cmK l s n f=0):Qag l s n f=none∧cmK l s n f=11:=by
 unfold cmK at h⊢
 split at h
 ·exact absurd rfl h
 ·rename_i h2
  rw[if_neg h2]
  exact ⟨by simpa using h2,rfl⟩
theorem Q14u{l:List Cls}{s:CkS}{n:Nat}{f:Frm}(h:cmK l s n f=0):Qag l s n f=some (cmS l s n f):=by
 unfold cmK at h
 split at h
 ·rename_i h2
  obtain ⟨x,hx⟩:=Option.isSome_iff_exists.1 h2
  rw[cmS,hx];rfl
 ·cases h
end Go.Proofs
