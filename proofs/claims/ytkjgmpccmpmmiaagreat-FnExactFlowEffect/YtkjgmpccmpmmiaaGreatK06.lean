/- Part 7 of what the proofs lean on: what the functions of the program and of the reference compute. Conditions: none. -/
import Derived.Test.YtkjgmpccmpmmiaaGreatK05
set_option linter.all false
set_option linter.unusedVariables false
set_option linter.unusedSimpArgs false
set_option maxHeartbeats 2000000
set_option maxRecDepth 100000
namespace Go.Proofs
open Go Go.Ev
def Qzy(c:Cls):List Fld:=c.fields.filter fun f=> !f.static
def Qfm(l:List Cls)(ch:List Str):Nat→List Fld
 |0=>[]
 |k+1=>Qfm l ch k++Qzy (Q1u l (ch.getD (ch.length-1-k) []))
def Q9g(l:List Cls)(n:Str):List Fld:=Qfm l (Qu l n) (Qu l n).length
theorem Qdy{l:List Fld}{i:Nat}(h:i<l.length):(l.take (i+1)).filter (fun f=> !f.static)=(l.take i).filter (fun f=> !f.static)++(if l[i].static then [] else [l[i]]):=by
 rw[List.take_succ_eq_append_getElem h,List.filter_append]
 cases hs:l[i].static<;>simp[hs]
theorem Qro{l:List Cls}{ch:List Str}: ∀k,(Qfm l ch k).length≤k*Q1r l
 |0=>by simp[Qfm]
 |k+1=>by
  have h1:=Qro (l:=l) (ch:=ch) k
  have h2:=Qf6 (l:=l) (n:=ch.getD (ch.length-1-k) [])
  have h3:(Qzy (Q1u l (ch.getD (ch.length-1-k) []))).length≤(Q1u l (ch.getD (ch.length-1-k) [])).fields.length:=List.length_filter_le _ _
  have h4:(Q1u l (ch.getD (ch.length-1-k) [])).fields.length≤Q1n (Q1u l (ch.getD (ch.length-1-k) [])):=by unfold Q1n;omega
  rw[Qfm,List.length_append,Nat.succ_mul];omega
end Go.Proofs
namespace Go.Proofs
open Go Go.Ev
theorem Qu0{l:List Cls}{n:Str}{ch:List Str}: ∀k,k≤ch.length→Qfm l (n::ch) k=Qfm l ch k
 |0,_=>rfl
 |k+1,h=>by
  rw[Qfm,Qfm,Qu0 k Za]
  have:(n::ch).length-1-k=(ch.length-1-k)+1:=by simp only[List.length_cons];omega
  rw[this,List.getD_cons_succ]
def Qwn(l:List Cls)(ch:List Str):List Fld:=Qfm l ch ch.length
theorem Qu1{l:List Cls}{n:Str}{ch:List Str}:Qwn l (n::ch)=Qwn l ch++Qzy (Q1u l n):=by
 unfold Qwn
 rw[List.length_cons,Qfm,Qu0 _ (Nat.le_refl _)]
 simp
theorem Q13d:Qzy zC=[]:=rfl
theorem Q123{l:List Cls}(hw:Qx l=true): ∀x,isKnown l x=true→0≤Q1v x→Qwn l (Qu l x)=[]:=by
 have one: ∀x (xs:List Str),0≤Q1v x→Qwn l (x::xs)=Qwn l xs:=fun x xs hb=>by
  rw[Qu1,Qma (Q1s hw) hb,Q13d,List.append_nil]
 refine Qnx hw ?_ ?_
 ·intro hb;rw[Qnw hw,one _ _ hb];rfl
 ·intro x hx hxo _ ih hb
  rw[Q7t hw hx,one _ _ hb]
  rcases Qol (Q1s hw) hb with e|e
  ·exact absurd e (Qgl (Q1s hw) hx hxo)
  ·exact ih e
theorem Q13o{l:List Cls}(hw:Qx l=true){n:Str}(h:Qk n l 0<0):Q9g l n=[]:=by
 by_cases hb:0≤Q1v n
 ·exact Q123 hw n (Q54 hb) hb
 ·unfold Q9g;rw[Qmb (by simp[isKnown];omega)];rfl
theorem Qz0{l:List Cls}(hw:Qx l=true){n:Str}{k:Nat}(h:Qk n l 0=k): ∃hk:k<l.length,Q9g l n=Q9g l l[k].super++Qzy l[k]:=by
 obtain ⟨i,hi,e1,e2,e3⟩:=Q5t (l:=l) (n:=n) Za
 obtain rfl:i=k:=by omega
 refine ⟨hi,?_⟩
 have hn:isKnown l n=true:=by rw[←e2];exact Q66 hi
 show Qwn l (Qu l n)=Qwn l (Qu l l[i].super)++Qzy l[i]
 have hc:=Qe7 (Q1s hw) hi
 rw[Q2c hi,e2] at hc
 rw[Q7t hw hn,Qu1,e3,hc]
theorem Qrn{l:List Cls}(hw:Qx l=true){n:Str}:(Q9g l n).length≤18*Q1r l:=by
 have h1:=Qro (l:=l) (ch:=Qu l n) (Qu l n).length
 have h2:=Q8x l n
 have h3:=Qa1 hw
 exact Nat.le_trans h1 (Nat.mul_le_mul_right _ Za)
theorem Q10c{l:List Cls}(hw:Qx l=true){n:Str}{k:Nat}(h:Qk n l 0=k): ∃hk:k<l.length,rkU l (Qk l[k].super l 0)<rkU l (Qk n l 0):=by
 obtain ⟨hk,_⟩:=Qz0 hw h
 refine ⟨hk,?_⟩
 rw[h]
 have:=Qxd hw hk
 rwa [Qbg,Qb hk] at this
end Go.Proofs
namespace Go.Proofs
open Go Go.Ev
def ndt(n t:Str)(f:Fld):Bool:=decide (f.name=n)&&decide (f.type=t)
def zF:Fld:=⟨[],[],false⟩
def Q7v(fs:List Fld):Nat:=(fs.filter (·.static)).length
def Q7w(cs:List Cls):Nat:=(cs.map fun c=>Q7v c.fields).sum
def Qsu(fs:List Fld):Nat:=(fs.filter fun f=> !f.static).length
def fpl(l:List Cls)(k i:Nat):Nat:=
 if (atL (atL l k).fields i).static then Q7w (l.take k)+Q7v ((atL l k).fields.take i)
 else (Q9g l (atL l k).super).length+Qsu ((atL l k).fields.take i)
theorem Qql(fs:List Fld):Q7v fs≤fs.length:=List.length_filter_le _ _
theorem Qxa{fs:List Fld}{i:Nat}(h:i<fs.length):Q7v (fs.take (i+1))=Q7v (fs.take i)+if fs[i].static then 1 else 0:=by
 unfold Q7v
 rw[List.take_succ_eq_append_getElem h,List.filter_append,List.length_append]
 cases hs:fs[i].static<;>simp[hs]
theorem Qgm{fs:List Fld}{i:Nat}(h:i<fs.length):Q7v (fs.take (i+1))=Q7v (fs.take i)+fs[i].static.toNat:=by
 rw[Qxa h];cases fs[i].static<;>rfl
theorem Qyr(fs:List Fld):Qsu fs≤fs.length:=List.length_filter_le _ _
theorem Qn3{fs:List Fld}{i:Nat}(h:i<fs.length):Qsu (fs.take (i+1))=Qsu (fs.take i)+(!fs[i].static).toNat:=by
 unfold Qsu
 rw[Qdy h,List.length_append]
 cases fs[i].static<;>rfl
theorem Qd9(fs:List Fld)(i:Nat):Q7v (fs.take i)≤Q7v fs:=by
 have:Q7v fs=Q7v (fs.take i)+Q7v (fs.drop i):=by
  unfold Q7v;rw[←List.length_append,←List.filter_append,List.take_append_drop]
 omega
theorem Qqm{cs:List Cls}{k:Nat}(h:k<cs.length):Q7w (cs.take (k+1))=Q7w (cs.take k)+Q7v cs[k].fields:=by
 unfold Q7w
 rw[List.take_succ_eq_append_getElem h,List.map_append,List.sum_append];simp
theorem Qjh(cs:List Cls)(k:Nat):Q7w (cs.take k)≤Q7w cs:=by
 have:Q7w cs=Q7w (cs.take k)+Q7w (cs.drop k):=by
  unfold Q7w;rw[←List.sum_append,←List.map_append,List.take_append_drop]
 omega
theorem Qvt(l:List Cls):Q7w l≤Q1r l:=by
 have key: ∀l:List Cls,Q7w l≤(l.map Q1n).sum:=by
  intro l
  induction l with
  |nil=>simp[Q7w]
  |cons c l ih=>
   have h1:=Qql c.fields
   have h2:c.fields.length≤Q1n c:=by unfold Q1n;omega
   simp only[Q7w,List.map_cons,List.sum_cons] at ih⊢;omega
 have:=key l
 unfold Q1r;omega
theorem Qwl{l:List Cls}{k i:Nat}(hk:k<l.length)(hi:i<l[k].fields.length)(h:l[k].fields[i].static=true):fpl l k i=Q7w (l.take k)+Q7v (l[k].fields.take i):=by
 unfold fpl;simp only[Qb hk,Qb hi];rw[if_pos h]
theorem Qyy{l:List Cls}{k i:Nat}(hk:k<l.length)(hi:i<l[k].fields.length)(h: ¬l[k].fields[i].static=true):fpl l k i=(Q9g l l[k].super).length+Qsu (l[k].fields.take i):=by
 unfold fpl;simp only[Qb hk,Qb hi];rw[if_neg h]
theorem Q14g{a:Nat}(b:Bool)(h:a≤4611686018427387904):IntKind.i64.wrap ((a:Int)+(b.toNat:Int))=(a:Int)+(b.toNat:Int):=by
 have:=Bool.toNat_le b
 rw[Q7 Za Za]
theorem Qqd{α:Type}{p:α→Bool}{l:List α}(h:0≤fix p l): ∃i,∃hi:i<l.length,fix p l=i∧p l[i]=true∧ ∀x∈l.take i,p x=false:=by
 induction l with
 |nil=>simp[fix] at h
 |cons x l ih=>
  simp only[fix] at h⊢
  by_cases hx:p x=true
  ·exact ⟨0,by simp,by simp[hx],by simpa using hx,by simp⟩
  ·rw[if_neg hx] at h⊢
   have hf: ¬fix p l<0:=fun hc=>by rw[if_pos hc] at h;omega
   rw[if_neg hf]
   obtain ⟨i,hi,e1,e2,e3⟩:=ih Za
   refine ⟨i+1,by simpa using hi,by omega,by simpa using e2,fun y hy=> ?_⟩
   rw[List.take_succ_cons] at hy
   rcases List.mem_cons.1 hy with rfl|hy
   ·simpa using hx
   ·exact e3 y hy
def Qzm(fs:List Fld):Prop:=fs.Pairwise fun f g=>f.name≠g.name
theorem Qtz: ∀{fs pre:List Fld},Qcx pre fs=true→Qzm fs∧ ∀g∈pre,∀f∈fs,g.name≠f.name
 |[],_,_=>⟨List.Pairwise.nil,fun _ _ f hf=>by cases hf⟩
 |f::l,pre,h=>by
  simp only[Qcx,Bool.and_eq_true,List.all_eq_true] at h
  obtain ⟨⟨_,h1⟩,h2⟩:=h
  obtain ⟨hu,hp⟩:=Qtz h2
  refine ⟨List.Pairwise.cons (fun g hg=>hp f Z3 g hg) hu,fun g hg x hx=> ?_⟩
  rcases List.mem_cons.1 hx with rfl|hx
  ·simpa using h1 g hg
  ·exact hp g (by simp[hg]) x hx
theorem Qyd{l:List Cls}(hw:Qx l=true){k:Nat}(hk:k<l.length):Qzm l[k].fields:=by
 have h:=(Qbm hw).1 k hk
 simp only[Q64,Qb hk] at h
 have hc:Q49 l[k]=true:=by
  cases hc:Q49 l[k]
  ·rw[hc] at h;simp at h
  ·rfl
 simp only[Q49,Bool.and_eq_true] at hc
 exact (Qtz hc.2.1).1
theorem Qgj{l:List Cls}(hw:Qx l=true){j k:Nat}(hj:j<l.length)(hk:k<l.length)(h:l[j].name=l[k].name):j=k:=by
 have h1:=Q4f hj ((Q1s hw) j hj).1
 have h2:=Q4f hk ((Q1s hw) k hk).1
 rw[h,h2] at h1;omega
theorem Qyc{l:List Cls}(hw:Qx l=true){k:Nat}(hk:k<l.length){i j:Nat}(hi:i<l[k].fields.length)(hj:j<l[k].fields.length)(h:l[k].fields[i].name=l[k].fields[j].name):i=j:=by
 have hu:=List.pairwise_iff_getElem.1 (Qyd hw hk)
 rcases Nat.lt_trichotomy i j with h1|h1|h1
 ·exact absurd h (hu i j hi hj h1)
 ·exact h1
 ·exact absurd h.symm (hu j i hj hi h1)
theorem Qx8{l:List Cls}(hw:Qx l=true)(x:Str):Qzm (Q1u l x).fields:=by
 by_cases hf:0≤Qk x l 0
 ·obtain ⟨i,hi,_,_,e,_⟩:=Q53 hf
  rw[e];exact Qyd hw hi
 ·rw[Q6q hf];exact List.Pairwise.nil
theorem Qv7{fs:List Fld}(hu:Qzm fs){i:Nat}(hi:i<fs.length){p:Fld→Bool}(hp:p fs[i]=true)(hn: ∀f,p f=true→f.name=fs[i].name):fix p fs=i:=by
 refine Q77 hi (fun x hx=> ?_) hp
 cases hpx:p x
 ·rfl
 ·obtain ⟨j,hj,rfl⟩:=List.getElem_of_mem hx
  rw[List.length_take] at hj
  have:=List.pairwise_iff_getElem.1 hu j i Za hi Za
  exact absurd (by simpa using hn _ hpx) this
theorem Qz1{fs:List Fld}(hu:Qzm fs)(n t:Str):
  (0≤fix (fun f=>decide (f.name=n)) fs∧(atL fs (fix (fun f=>decide (f.name=n)) fs).toNat).type=t)↔0≤fix (ndt n t) fs:=by
 constructor
 ·rintro ⟨h1,h2⟩
  obtain ⟨i,hi,e1,e2,_⟩:=Qqd h1
  rw[e1] at h2
  simp only[Int.toNat_natCast,Qb hi] at h2
  rw[Qv7 hu hi (p:=ndt n t) (by simpa[ndt,h2] using e2) (fun f hf=>by simp[ndt] at hf;simp at e2;rw[hf.1,e2])];omega
 ·intro h
  obtain ⟨i,hi,e1,e2,_⟩:=Qqd h
  simp only[ndt,Bool.and_eq_true,decide_eq_true_eq] at e2
  have:=Qv7 hu hi (p:=fun f=>decide (f.name=n)) (by simpa using e2.1) (fun f hf=>by simp at hf;rw[hf,e2.1])
  rw[this]
  simp only[Int.toNat_natCast,Qb hi]
  exact ⟨by omega,e2.2⟩
theorem Qxz{fs:List Fld}(hu:Qzm fs){n t:Str}(h:0≤fix (ndt n t) fs):fix (fun f=>decide (f.name=n)) fs=fix (ndt n t) fs:=by
 obtain ⟨i,hi,e1,e2,_⟩:=Qqd h
 simp only[ndt,Bool.and_eq_true,decide_eq_true_eq] at e2
 rw[e1]
 exact Qv7 hu hi (by simpa using e2.1) (fun f hf=>by simp at hf;rw[hf,e2.1])
def ffL(l:List Cls)(n t:Str):List Str→Fnd×Fld
 |[]=>(Qjv,zF)
 |x::xs=>if 0≤fix (ndt n t) (Q1u l x).fields then (⟨x,fpl l (Qqt l x).toNat (fix (ndt n t) (Q1u l x).fields).toNat,0⟩,atL (Q1u l x).fields (fix (ndt n t) (Q1u l x).fields).toNat) else ffL l n t xs
def ffU(l:List Cls)(n t:Str)(k:Int):Fnd:=if k<0 then Qjv else (ffL l n t (Qu l (Q8z l k))).1
theorem Qy0{l:List Cls}(hw:Qx l=true){n t:Str}: ∀x,isKnown l x=true→0≤Q1v x→ffL l n t (Qu l x)=(Qjv,zF):=by
 have one: ∀x (xs:List Str),0≤Q1v x→ffL l n t (x::xs)=ffL l n t xs:=fun x xs hb=>by
  simp only[ffL]
  rw[Qma (Q1s hw) hb,if_neg (by simp[zC,fix])]
 refine Qnx hw ?_ ?_
 ·intro hb;rw[Qnw hw,one _ _ hb];rfl
 ·intro x hx hxo _ ih hb
  rw[Q7t hw hx,one _ _ hb]
  rcases Qol (Q1s hw) hb with e|e
  ·exact absurd e (Qgl (Q1s hw) hx hxo)
  ·exact ih e
theorem Q125{l:List Cls}(hw:Qx l=true){c n t:Str}:ffU l n t (Qk c l 0)=(ffL l n t (Qu l c)).1:=by
 unfold ffU
 by_cases hf:Qk c l 0<0
 ·rw[if_pos hf]
  by_cases hb:0≤Q1v c
  ·rw[Qy0 hw c (Q54 hb) hb]
  ·rw[Qmb (by simp[isKnown];omega)];rfl
 ·rw[if_neg hf]
  obtain ⟨i,hi,e1,e2,_⟩:=Q5t (l:=l) (n:=c) Za
  rw[e1,Q2c hi,e2]
theorem Q13q{l:List Cls}{n t:Str}{k:Int}(h:k<0):ffU l n t k=Qjv:=if_pos h
theorem Q13a{l:List Cls}(hw:Qx l=true){k:Nat}(hk:k<l.length):Qqt l l[k].name=k:=by
 have:=Q4f hk ((Q1s hw) k hk).1
 unfold Qqt;rw[this,if_pos Za]
theorem Q15a{l:List Cls}(hw:Qx l=true){n t:Str}{k:Nat}(hk:k<l.length):
  ffU l n t k=if 0≤fix (ndt n t) l[k].fields then ⟨l[k].name,fpl l k (fix (ndt n t) l[k].fields).toNat,0⟩ else ffU l n t (nxt l k):=by
 have hp:=Q1s hw
 have hkn:=Qlh (l:=l) (k:=(k:Int)) Za Za
 unfold ffU
 rw[if_neg Za,Q7t hw hkn]
 simp only[ffL]
 rw[Qe7 hp hk,Q2c hk,Q13a hw hk]
 by_cases h1:0≤fix (ndt n t) l[k].fields
 ·rw[if_pos h1,if_pos h1];rfl
 ·rw[if_neg h1,if_neg h1]
  by_cases h3:nxt l k<0
  ·rw[if_pos h3]
   obtain ⟨e1,e2⟩:=Q7m hp hk
   rw[e1]
   rcases e2 with ⟨_,e|e⟩|⟨j,hj,e4,_⟩
   ·rw[e,Qy0 hw _ Qtt (by rw[Q3h.1];omega)]
   ·rw[e,Qy0 hw _ (Q54 (by rw[Q3h.2.1];omega)) (by rw[Q3h.2.1];omega)]
   ·omega
  ·rw[if_neg h3]
   have:=Ql9 hp (k:=(k:Int)) Za Za Za
   rw[Q2c hk] at this
   rw[this]
theorem Q126{l:List Cls}(hw:Qx l=true){n t x:Str}(h:0≤fix (ndt n t) (Q1u l x).fields): ∃k,∃hk:k<l.length,∃j,∃hj:j<l[k].fields.length,
  l[k].name=x∧Q1u l x=l[k]∧fix (fun f=>decide (f.name=n)) (Q1u l x).fields=j∧fix (ndt n t) (Q1u l x).fields=j∧Qqt l x=k:=by
 have hu:=Qx8 hw x
 have hy:=Qxz hu h
 by_cases hf:0≤Qk x l 0
 ·obtain ⟨k,hk,_,hp,e,hn⟩:=Q53 hf
  rw[e] at h hy⊢
  obtain ⟨j,hj,ej,_,_⟩:=Qqd h
  exact ⟨k,hk,j,hj,hn,rfl,by rw[hy,ej],ej,hp⟩
 ·rw[Q6q hf] at h;simp[zC,fix] at h
def inS(l:List Cls)(p i cc kk:Nat):Nat:=Q7w (l.take cc)+if cc<p then Q7v ((atL l cc).fields.take kk) else Q7v ((atL l cc).fields.take (min kk i))
def Qxi(l:List Cls)(p i cc:Nat):Nat:=if cc≤p then Q7w (l.take cc) else Q7w (l.take p)+Q7v ((atL l p).fields.take i)
theorem Q16p{l:List Cls}{p i cc:Nat}(h:cc≤p):inS l p i cc 0=Qxi l p i cc:=by
 unfold inS Qxi;rw[if_pos h];simp[Q7v]
theorem Q11y{l:List Cls}{p i cc kk:Nat}(h:cc<l.length)(hk:kk<l[cc].fields.length):inS l p i cc (kk+1)=inS l p i cc kk+(l[cc].fields[kk].static&&(decide (cc<p)||decide (kk<i))).toNat:=by
 unfold inS
 rw[Qb h]
 by_cases h1:cc<p
 ·rw[if_pos h1,if_pos h1,Qgm hk,decide_eq_true h1];simp;omega
 ·rw[if_neg h1,if_neg h1,decide_eq_false h1]
  by_cases h2:kk<i
  ·rw[show min (kk+1) i=kk+1 from by omega,show min kk i=kk from by omega,Qgm hk,decide_eq_true h2];simp;omega
  ·rw[show min (kk+1) i=i from by omega,show min kk i=i from by omega,decide_eq_false h2];simp
theorem Q13m{l:List Cls}{p i cc kk:Nat}(hp:p<l.length)(hi:i<l[p].fields.length)(h:cc≤p)(hk:kk=(l[cc]'Za).fields.length):inS l p i cc kk=Qxi l p i (cc+1):=by
 have hc:cc<l.length:=by omega
 unfold inS Qxi
 rw[Qb hc,Qb hp]
 by_cases h1:cc<p
 ·rw[if_pos h1,if_pos Za,Qqm hc,hk,List.take_of_length_le (Nat.le_refl _)]
 ·obtain rfl:cc=p:=by omega
  rw[if_neg h1,if_neg Za,hk,Nat.min_eq_right Za]
theorem Q158(l:List Cls)(p i cc kk:Nat)(h:cc<l.length):inS l p i cc kk≤2*Q1r l:=by
 have h1:=Qjh l cc
 have h2:=Qvt l
 have h3:=Qql ((atL l cc).fields)
 have h4:=Qd9 (atL l cc).fields kk
 have h5:=Qd9 (atL l cc).fields (min kk i)
 have h6:=Q4v h
 simp only[Q1n] at h6
 rw[Qb h] at h3 h4 h5
 unfold inS
 rw[Qb h]
 split<;>omega
end Go.Proofs
namespace Go.Proofs
open Go Go.Ev
structure SF where
 l:List Cls
 c:Cls
 m:Mth
 i:Ins
 at':Int
def oSV(F:SF)(x y:V)(k:Int):V:= .agg [.lst false 6 (F.l.map eC),.str F.c.name,.str F.c.super,.bool F.c.final,.bool F.c.abstr,.lst false 3 (F.c.fields.map eF),.lst false 9 (F.c.methods.map eM),
 .str F.m.name,.str F.m.desc,.bool F.m.static,.bool F.m.abstr,.bool F.m.final,.int .i64 F.m.stack,.int .i64 F.m.locals,.lst false 5 (F.m.code.map eI),.lst false 4 (F.m.hdls.map eH),
 .int .i64 F.i.op,.int .i64 F.i.a,.str F.i.cls,.str F.i.name,.str F.i.desc,.int .i64 F.at',x,y,.int .i64 k]
def oSW(F:SF)(o1 o2:Bool)(st lo:List Typ)(k:Int):V:=oSV F (.lst o1 3 (st.map eT)) (.lst o2 3 (lo.map eT)) k
attribute [simp] oSV oSW
structure SW where
 o1:Bool
 o2:Bool
 st:List Typ
 lo:List Typ
 k:Int
def Qbf(F:SF)(s:SW):V:=oSW F s.o1 s.o2 s.st s.lo s.k
attribute [simp] Qbf
def ndC(k:Int)(ok:Bool)(c:Int):Int:=if k=0∧ok=false then c else k
def Qb6(k:Int)(st:List Typ)(n:Nat):Bool:= !decide (k=0)||decide (st.length<n)
def tkC(k:Int)(st:List Typ)(n:Nat):Int:=ndC k (decide (n≤st.length)) 11
def tkL(k:Int)(st:List Typ)(n:Nat):List Typ:=if Qb6 k st n=true then st else st.take (st.length-n)
def tkV(k:Int)(st:List Typ)(n:Nat):List Typ:=if Qb6 k st n=true then List.replicate n zT else st.drop (st.length-n)
def tkO(o:Bool)(k:Int)(st:List Typ)(n:Nat):Bool:=o|| !Qb6 k st n
@[simp] theorem tkV_len (k:Int) (st:List Typ) (n:Nat):(tkV k st n).length=n:=by
 unfold tkV
 split
 ·simp
 ·rename_i h
  simp only[Qb6,Bool.or_eq_true,decide_eq_true_eq,not_or] at h
  rw[List.length_drop];omega
theorem Q29(k:Int)(st:List Typ)(n:Nat):(tkL k st n).length≤st.length:=by
 unfold tkL
 split
 ·exact Nat.le_refl _
 ·rw[List.length_take];omega
theorem Qx9{k:Int}{st:List Typ}{n:Nat}(h:Qb6 k st n=true)(o:Bool):tkC k st n=ndC k false 11∧tkL k st n=st∧tkV k st n=List.replicate n zT∧tkO o k st n=o:=by
 refine ⟨?_,by rw[tkL,if_pos h],by rw[tkV,if_pos h],by simp[tkO,h]⟩
 simp only[Qb6,Bool.or_eq_true,Bool.not_eq_true',decide_eq_false_iff_not,decide_eq_true_eq] at h
 unfold tkC ndC
 rcases h with h|h
 ·simp[h]
 ·simp[show¬n≤st.length by omega]
theorem Q10w{k:Int}{st:List Typ}{n q:Nat}(h:Qb6 k st n=false)(hq:st.length=q+n)(o:Bool):tkC k st n=k∧tkL k st n=st.take q∧tkV k st n=st.drop q∧tkO o k st n=true:=by
 have e:st.length-n=q:=by omega
 refine ⟨?_,by rw[tkL,if_neg (by simp[h]),e],by rw[tkV,if_neg (by simp[h]),e],by simp[tkO,h]⟩
 unfold tkC ndC
 simp[show n≤st.length by omega]
@[simp] theorem free_eT (l:List Typ):Q9f (Q26 (l.map eT))=true:=by
 induction l with
 |nil=>rfl
 |cons x l ih=>simp[flat_cons,eT,V.cells,Q9f,V.free,ih]
@[simp] theorem free_dT (q:Nat) (l:List Typ):Q9f (Q26 (List.drop q (l.map eT)))=true:=by rw[←List.map_drop];exact free_eT _
@[simp] theorem free_tT (q:Nat) (l:List Typ):Q9f (Q26 (List.take q (l.map eT)))=true:=by rw[←List.map_take];exact free_eT _
@[simp] theorem pure_dT (q:Nat) (l:List Typ):Q2t (List.drop q (l.map eT))=true:=by rw[←List.map_drop];exact pureL_eT _
@[simp] theorem pure_tT (q:Nat) (l:List Typ):Q2t (List.take q (l.map eT))=true:=by rw[←List.map_take];exact pureL_eT _
@[simp] theorem jk_dT (p:Nat→Bool) (q:Nat) (l:List Typ):jkL p (List.drop q (l.map eT))=List.drop q (l.map eT):=by rw[←List.map_drop];exact jkL_eT p _
@[simp] theorem jk_tT (p:Nat→Bool) (q:Nat) (l:List Typ):jkL p (List.take q (l.map eT))=List.take q (l.map eT):=by rw[←List.map_take];exact jkL_eT p _
@[simp] theorem pure_repT (n:Nat):Q2t (List.replicate n (V.agg [.int .i64 0,.str [],.int .i64 0]))=true:=by induction n<;>simp_all[List.replicate_succ,Q2t,V.pure]
theorem Q16s{l:List Typ}{q n:Nat}(h:l.length=q+n):List.take n (List.drop q (l.map eT))=List.drop q (l.map eT):=List.take_of_length_le (by rw[List.length_drop,List.length_map];omega)
def Qy(c:Str):Typ:=⟨3,c,0⟩
def swT(a b t:Typ):Typ:=if t=a then b else t
theorem Qyt(k:Int)(a b:Bool)(c:Int):ndC (ndC k a c) b c=ndC k (a&&b) c:=by
 unfold ndC
 cases a<;>cases b<;>by_cases hk:k=0<;>simp_all
theorem Q14l(k c:Int):ndC k true c=k:=by simp[ndC]
theorem Qwa{k e:Int}(h:ndC k (decide (e=0)) e=0):k=0∧e=0:=by
 unfold ndC at h
 split at h
 ·rename_i h9;simp only[decide_eq_false_iff_not] at h9;exact absurd h h9.2
 ·rename_i h9
  refine ⟨h,?_⟩
  by_cases he:e=0
  ·exact he
  ·exact absurd ⟨h,by simpa using he⟩ h9
theorem Q11n{k c:Int}{b:Bool}(h:ndC k b c=0)(hc:c≠0):k=0∧b=true:=by
 unfold ndC at h
 split at h
 ·exact absurd h hc
 ·rename_i h9;exact ⟨h,by simpa[h] using h9⟩
theorem Q7h{x y:Typ}:x=y↔x.k=y.k∧x.c=y.c∧x.at'=y.at':=by cases x;cases y;simp
theorem Q12m{l:List Typ}{i:Nat}(h:i<l.length)(p:Typ→Bool):(l.take (i+1)).all p=((l.take i).all p&&p l[i]):=by
 rw[List.take_succ_eq_append_getElem h,List.all_append];simp
def Qsv(l:List Cls)(x:Fnd):Mth:=if x.p<0 then Q12h Qm Qh7 else atL (Q1u l x.c).methods x.p.toNat
theorem fm_e(l:List Cls)(n d:Str): ∀xs:List Str,(fmL l n d xs).1.e=0→
  (((fmL l n d xs).1.p= -1∧n=Qm∧d=Qh7)∨(0≤Qk (fmL l n d xs).1.c l 0∧ ∃j:Nat,(fmL l n d xs).1.p=j∧j<(Q1u l (fmL l n d xs).1.c).methods.length))∧Qsv l (fmL l n d xs).1=(fmL l n d xs).2
 |[],h=>by simp[fmL,Qjv] at h
 |x::xs,h=>by
  simp only[fmL] at h⊢
  by_cases h1:0≤Q1a n d (Q1u l x).methods 0
  ·simp only[if_pos h1] at h⊢
   rcases @Q9c n d (Q1u l x).methods 0 with ⟨h2,_⟩|⟨i,hi,h2,_⟩
   ·omega
   ·have hf:0≤Qk x l 0:=by
     rcases Int.lt_or_le (Qk x l 0) 0 with h3|h3
     ·rw[Q6q Za] at hi;exact absurd hi (by simp[zC])
     ·exact h3
    refine ⟨.inr ⟨hf,i,by rw[h2];simp,hi⟩,?_⟩
    unfold Qsv
    rw[if_neg (by simp only;omega)]
  ·simp only[if_neg h1] at h⊢
   by_cases h2:n=Qm
   ·simp only[if_pos h2] at h⊢
    by_cases h3:bIn x=true∧d=Qh7
    ·simp only[if_pos h3] at h⊢
     refine ⟨.inl ⟨by first|rfl|trivial,h2,h3.2⟩,?_⟩
     unfold Qsv
     rw[if_pos (by simp only;omega),h3.2]
    ·simp only[if_neg h3] at h;exact absurd h (by simp[Qjv])
   ·simp only[if_neg h2] at h⊢
    exact fm_e l n d xs h
def Qtc(l:List Cls)(c n:Str):Bool:=if 0≤fix (fun f=>decide (f.name=n)) (Q1u l c).fields then (atL (Q1u l c).fields (fix (fun f=>decide (f.name=n)) (Q1u l c).fields).toNat).static else false
theorem ff_e{l:List Cls}(hw:Qx l=true)(n t:Str): ∀xs:List Str,(ffL l n t xs).1.e=0→0≤Qk (ffL l n t xs).1.c l 0∧Qtc l (ffL l n t xs).1.c n=(ffL l n t xs).2.static
 |[],h=>by simp[ffL,Qjv] at h
 |x::xs,h=>by
  simp only[ffL] at h⊢
  by_cases h1:0≤fix (ndt n t) (Q1u l x).fields
  ·simp only[if_pos h1] at h⊢
   obtain ⟨k,hk,j,hj,e1,e2,e3,e4,_⟩:=Q126 hw h1
   refine ⟨?_,?_⟩
   ·rcases Int.lt_or_le (Qk x l 0) 0 with h3|h3
    ·rw[Q6q Za] at h1;exact absurd h1 (by simp[zC,fix])
    ·exact h3
   ·unfold Qtc
    rw[e3,e4,if_pos Za]
  ·simp only[if_neg h1] at h⊢
   exact ff_e hw n t xs h
def Qdu(F:SF):Typ:=⟨6,F.i.cls,F.at'⟩
@[simp] theorem newT_k (F:SF):(Qdu F).k=6:=rfl
@[simp] theorem newT_c (F:SF):(Qdu F).c=F.i.cls:=rfl
@[simp] theorem newT_a (F:SF):(Qdu F).at'=F.at':=rfl
def abOK(F:SF):Bool:=decide (Qk F.i.cls F.l 0<0)|| !(atL F.l (Qk F.i.cls F.l 0).toNat).abstr
def Qys(F:SF)(k:Int):Int:=ndC (ndC k (isKnown F.l F.i.cls) 6) (abOK F) 14
def Qxl(F:SF)(st:List Typ)(k:Int):Int:=ndC (Qys F k) (st.all fun x=> !decide (x=Qdu F)) 10
def Qiu(F:SF)(o1 o2:Bool)(st lo:List Typ)(k:Int):SW:=if Qxl F st k=0 then ⟨true,true,st.map (swT (Qdu F) zT)++[Qdu F],lo.map (swT (Qdu F) zT),0⟩ else ⟨o1,o2,st,lo,Qxl F st k⟩
def Qsw(i:Ins):Bool:=decide (34≤i.op)
def Qrf(i:Ins):Bool:=decide (i.op=33∨i.op=35)
def Qh4(i:Ins):Nat:=(if Qsw i=true then 0 else 1)+(if Qrf i=true then 1 else 0)
def fdxS(F:SF):Fnd:=(ffL F.l F.i.name F.i.desc (Qu F.l F.i.cls)).1
def Qh5(F:SF)(st:List Typ)(k:Int):Int:=ndC (ndC (tkC k st (Qh4 F.i)) (isKnown F.l F.i.cls) 6) (decide ((fdxS F).e=0)) (fdxS F).e
def Qn9(F:SF)(a:List Typ)(k:Int):Int:=if Qsw F.i=true then ndC k (Qtc F.l (fdxS F).c F.i.name==Qsw F.i) 14 else ndC (ndC k (Qtc F.l (fdxS F).c F.i.name==Qsw F.i) 14) (leT F.l (atL a 0) (Qy F.i.cls)) 10
def fdS(F:SF)(o1 o2:Bool)(st lo:List Typ)(k:Int):SW:=
 if Qh5 F st k≠0 then ⟨tkO o1 k st (Qh4 F.i),o2,tkL k st (Qh4 F.i),lo,Qh5 F st k⟩
 else if Qrf F.i=true then ⟨tkO o1 k st (Qh4 F.i),o2,tkL k st (Qh4 F.i),lo,ndC (Qn9 F (tkV k st (Qh4 F.i)) (Qh5 F st k)) (leT F.l (atL (tkV k st (Qh4 F.i)) (Qh4 F.i-1)) (Q3c F.i.desc)) 10⟩
 else ⟨true,o2,tkL k st (Qh4 F.i)++[Q3c F.i.desc],lo,Qn9 F (tkV k st (Qh4 F.i)) (Qh5 F st k)⟩
def Qco(l:List Cls)(xs:List Typ)(off:Nat)(ps:List Str):Nat→Bool
 |0=>true
 |j+1=>Qco l xs off ps j&&leT l (atL xs (off+j)) (Q3c (atL ps j))
def Qn1(r:Str)(s:SW):SW:=if r≠[86]∧s.k=0 then ⟨true,s.o2,s.st++[Q3c r],s.lo,s.k⟩ else s
end Go.Proofs
namespace Go.Proofs
open Go Go.Ev
def Qai(t:Typ):Bool:=decide (t.k=4∨t.k=5)
def elT(t:Typ):Typ:=if t.k=4 then ⟨1,[],0⟩ else Qy t.c
end Go.Proofs
namespace Go.Proofs
open Go Go.Ev
def cF(F:SF)(x y z:V):List V:=[wv F.l,.str F.c.name,.str F.c.super,.bool F.c.final,.bool F.c.abstr,.lst false 3 (F.c.fields.map eF),.lst false 9 (F.c.methods.map eM),
 .str F.m.name,.str F.m.desc,.bool F.m.static,.bool F.m.abstr,.bool F.m.final,.int .i64 F.m.stack,.int .i64 F.m.locals,.lst false 5 (F.m.code.map eI),.lst false 4 (F.m.hdls.map eH),.int .i64 F.at',x,y,z]
def oFV(F:SF)(x y z:V):V:= .agg (cF F x y z)
def oFl(F:SF)(st lo tk:List Typ):V:=oFV F (.lst true 3 (st.map eT)) (.lst true 3 (lo.map eT)) (.lst false 3 (tk.map eT))
def pFl(F:SF)(x y z:V):V:= .fp (cF F x y z)
attribute [simp] cF oFV oFl pFl
@[simp] theorem jk_comp (p:Nat→Bool) (f:Typ→Typ) (l:List Typ):jkL p (l.map (eT∘f))=l.map (eT∘f):=by rw[←List.map_map];exact jkL_eT p _
@[simp] theorem pure_comp (f:Typ→Typ) (l:List Typ):Q2t (l.map (eT∘f))=true:=by rw[←List.map_map];exact pureL_eT _
structure IW where
 k:Int
 st:List Typ
 lo:List Typ
def cu(b:Bool)(c:Int):Int:=if b=true then 0 else c
def Q3g(tk:List Typ):Bool:=tk.all fun t=>decide (t.k=1)
def Qet(tk:List Typ):Bool:=tk.all Q76
def Q39(F:SF)(st lo tk:List Typ):IW:=
 if F.i.op=1 then ⟨0,st++[⟨1,[],0⟩],lo⟩ else if F.i.op=2 then ⟨0,st++[⟨2,[],0⟩],lo⟩
 else if F.i.op=3 then (if F.i.a<lo.length∧ ¬(atL lo F.i.a.toNat).k=0 then ⟨0,st++[atL lo F.i.a.toNat],lo⟩ else ⟨10,st,lo⟩)
 else if F.i.op=4 then (if F.i.a<lo.length then (if F.i.a=0∧F.m.name=Qm then ⟨14,st,lo⟩ else ⟨0,st,lo.set F.i.a.toNat (atL tk 0)⟩) else ⟨10,st,lo⟩)
 else if F.i.op=6 then ⟨0,st++[atL tk 0,atL tk 0],lo⟩ else if F.i.op=7 then ⟨0,st++[atL tk 1,atL tk 0],lo⟩
 else if F.i.op=30 then ⟨0,st++[atL tk 0,atL tk 1,atL tk 0,atL tk 1],lo⟩ else ⟨0,st,lo⟩
def Qfp(F:SF)(lo tk:List Typ):Int:=
 if F.i.op=29 then cu (leI F.l (atL tk 0) (Qy Q1i)) 10
 else if F.i.op=26 then (if (Q1g F.m.desc).res=[86] then cu (!decide (F.m.name=Qm)||(decide (0<lo.length)&&decide (atL lo 0=Qy F.c.name))) 10 else 12)
 else if F.i.op=27 then (if (Q1g F.m.desc).res=[73] then cu (Q3g tk) 10 else 12)
 else if (Q1g F.m.desc).res=[86]∨(Q1g F.m.desc).res=[73] then 12 else cu (leI F.l (atL tk 0) (Q3c (Q1g F.m.desc).res)) 10
def Qb8(F:SF):Typ:=⟨6,F.i.cls,F.at'⟩
@[simp] theorem newTi_k (F:SF):(Qb8 F).k=6:=rfl
@[simp] theorem newTi_c (F:SF):(Qb8 F).c=F.i.cls:=rfl
@[simp] theorem newTi_a (F:SF):(Qb8 F).at'=F.at':=rfl
def Qll(F:SF)(st lo:List Typ):IW:=
 if isKnown F.l F.i.cls=true then (if (Q1u F.l F.i.cls).abstr=true then ⟨14,st,lo⟩ else if (st.any fun x=>decide (Qb8 F=x))=true then ⟨10,st,lo⟩
  else ⟨0,st.map (swT (Qb8 F) zT)++[Qb8 F],lo.map (swT (Qb8 F) zT)⟩) else ⟨6,st,lo⟩
def Qdx(i:Ins):Bool:=decide (i.op=34)||decide (i.op=35)
def Qcy(F:SF)(st lo tk:List Typ)(x:Fnd×Fld):IW:=
 if isKnown F.l F.i.cls=true then (if x.1.e=0 then (if x.2.static=Qdx F.i then
   (if (!Qdx F.i&& !leI F.l (atL tk 0) (Qy F.i.cls))=true then ⟨10,st,lo⟩
    else if F.i.op=32∨F.i.op=34 then ⟨0,st++[Q3c F.i.desc],lo⟩ else ⟨cu (leI F.l (atL tk (tk.length-1)) (Q3c F.i.desc)) 10,st,lo⟩)
   else ⟨14,st,lo⟩) else ⟨x.1.e,st,lo⟩) else ⟨6,st,lo⟩
def Qfn(F:SF)(st lo tk:List Typ):IW:=Qcy F st lo tk (ffL F.l F.i.name F.i.desc (Qu F.l F.i.cls))
def Qgr(l:List Cls)(a:List Typ)(ps:List Str):Nat→Bool
 |0=>true
 |j+1=>Qgr l a ps j&&leI l (atL a j) (Q3c (atL ps j))
theorem Qtg{l:List Cls}{a:List Typ}{ps:List Str}{j:Nat}(h:Qgr l a ps j=false): ∀d,Qgr l a ps (j+d)=false
 |0=>h
 |d+1=>by show (Qgr l a ps (j+d)&&_)=false;rw[Qtg h d];rfl
theorem Q13c{l:List Cls}{a:List Typ}{ps:List Str}{j:Nat}(hj:j<ps.length)(ha:j<a.length)(h:leI l a[j] (Q3c ps[j])=false):Qgr l a ps ps.length=false:=by
 have h1:Qgr l a ps (j+1)=false:=by simp only[Qgr];rw[Qb ha,Qb hj,h,Bool.and_false]
 have:=Qtg h1 (ps.length-(j+1))
 rwa [show j+1+(ps.length-(j+1))=ps.length by omega] at this
def Qvw(r:Str)(st:List Typ):List Typ:=if r=[86] then st else st++[Q3c r]
def Qcj(F:SF)(st lo tk:List Typ)(x:Fnd×Mth):IW:=
 if F.i.name=Qm then ⟨14,st,lo⟩ else if isKnown F.l F.i.cls=true then (if x.1.e=0 then (if x.2.static=decide (F.i.op=37) then
   (if ((!decide (F.i.op=37)&& !leI F.l (atL tk 0) (Qy F.i.cls))|| !Qgr F.l (if F.i.op=37 then tk else tk.drop 1) (Q1g F.i.desc).params (Q1g F.i.desc).params.length)=true then ⟨10,st,lo⟩
    else ⟨0,Qvw (Q1g F.i.desc).res st,lo⟩) else ⟨14,st,lo⟩) else ⟨x.1.e,st,lo⟩) else ⟨6,st,lo⟩
def clI(F:SF)(st lo tk:List Typ):IW:=Qcj F st lo tk (fmL F.l F.i.name F.i.desc (Qu F.l F.i.cls))
def Q6j(F:SF)(a:Typ):Bool:=decide (a.k=7)&&(decide (F.i.cls=F.c.name)||decide (F.i.cls=F.c.super))
def Q6k(F:SF)(a:Typ):Bool:=decide (a.k=6)&&decide (a.c=F.i.cls)
theorem spC(a:Typ)(c n s:Str):(((a.k=7)=(true=true))∧((a.k=6)=(false=true))∧((c=n)=(true=true))∧True∧True)∨(((a.k=7)=(true=true))∧((a.k=6)=(false=true))∧((c=n)=(false=true))∧((c=s)=(true=true))∧True)∨(((a.k=7)=(true=true))∧((a.k=6)=(false=true))∧((c=n)=(false=true))∧((c=s)=(false=true))∧True)∨(((a.k=7)=(false=true))∧((a.k=6)=(true=true))∧True∧True∧((a.c=c)=(true=true)))∨(((a.k=7)=(false=true))∧((a.k=6)=(true=true))∧True∧True∧((a.c=c)=(false=true)))∨(((a.k=7)=(false=true))∧((a.k=6)=(false=true))∧True∧True∧True):=by
 by_cases h7:a.k=7
 ·by_cases h:c=n<;>by_cases h2:c=s<;>simp[h7,h,h2]<;>simp_all
 ·by_cases h6:a.k=6<;>by_cases h:a.c=c<;>simp[h7,h6,h]
def Qcg(F:SF)(st lo tk:List Typ)(x:Fnd×Mth):IW:=
 if F.i.name=Qm then
  (if isKnown F.l F.i.cls=true then (if x.1.e=0 then
   (if ((!Q6k F (atL tk 0)&& !Q6j F (atL tk 0))|| !Qgr F.l (tk.drop 1) (Q1g F.i.desc).params (Q1g F.i.desc).params.length)=true then ⟨10,st,lo⟩
    else if Q6j F (atL tk 0)=true then ⟨0,st.map (swT (atL tk 0) (Qy F.c.name)),lo.map (swT (atL tk 0) (Qy F.c.name))⟩ else ⟨0,st.map (swT (atL tk 0) (Qy (atL tk 0).c)),lo.map (swT (atL tk 0) (Qy (atL tk 0).c))⟩)
   else ⟨x.1.e,st,lo⟩) else ⟨6,st,lo⟩)
 else if F.i.cls=F.c.super then (if x.1.e=0 then (if ((x.2.static||x.2.abstr)||F.m.static)=true then ⟨14,st,lo⟩
   else if (!leI F.l (atL tk 0) (Qy F.c.name)|| !Qgr F.l (tk.drop 1) (Q1g F.i.desc).params (Q1g F.i.desc).params.length)=true then ⟨10,st,lo⟩ else ⟨0,Qvw (Q1g F.i.desc).res st,lo⟩)
  else ⟨x.1.e,st,lo⟩) else ⟨14,st,lo⟩
def spI(F:SF)(st lo tk:List Typ):IW:=Qcg F st lo tk (fmL F.l F.i.name F.i.desc (Qu F.l F.i.cls))
def csI(F:SF)(st lo tk:List Typ):IW:=
 if isKnown F.l F.i.cls=true then (if Qet tk=true then ⟨0,st++[if F.i.op=39 then Qy F.i.cls else ⟨1,[],0⟩],lo⟩ else ⟨10,st,lo⟩) else ⟨6,st,lo⟩
def lsI(F:SF)(st lo tk:List Typ):IW:=
 if F.i.op=41 then
  (if¬Q1c F.i.desc=[]∧isKnown F.l (Q1c F.i.desc)=false then ⟨6,st,lo⟩ else if (atL tk 0).k=1 then ⟨0,st++[if Q1c F.i.desc=[] then ⟨4,[],0⟩ else ⟨5,Q1c F.i.desc,0⟩],lo⟩ else ⟨10,st,lo⟩)
 else if Qai (atL tk 0)=false∨(¬F.i.op=44∧ ¬(atL tk 1).k=1) then ⟨10,st,lo⟩
 else if F.i.op=44 then ⟨0,st++[⟨1,[],0⟩],lo⟩ else if F.i.op=42 then ⟨0,st++[elT (atL tk 0)],lo⟩
 else if (atL tk 0).k=4 then ⟨cu (decide ((atL tk 2).k=1)) 10,st,lo⟩ else ⟨cu (Q76 (atL tk 2)) 10,st,lo⟩
def Q45(F:SF)(st lo tk:List Typ):IW:=
 if F.i.op≤7∨F.i.op=30 then Q39 F st lo tk
 else if 8≤F.i.op∧F.i.op≤18 then (if Q3g tk=true then ⟨0,st++[⟨1,[],0⟩],lo⟩ else ⟨10,st,lo⟩)
 else if 19≤F.i.op∧F.i.op≤23 then ⟨cu (Q3g tk) 10,st,lo⟩
 else if F.i.op=24∨F.i.op=25 then ⟨cu (Qet tk) 10,st,lo⟩
 else if 26≤F.i.op∧F.i.op≤29 then ⟨Qfp F lo tk,st,lo⟩
 else if F.i.op=31 then Qll F st lo
 else if 32≤F.i.op∧F.i.op≤35 then Qfn F st lo tk
 else if F.i.op=38 then spI F st lo tk
 else if F.i.op=36∨F.i.op=37 then clI F st lo tk
 else if F.i.op=39∨F.i.op=40 then csI F st lo tk
 else lsI F st lo tk
def tk1(n:Int):Bool:=decide (n=4∨n=5∨n=6∨n=20∨n=21∨n=24∨n=27∨n=28∨n=29∨n=32∨n=35∨n=39∨n=40∨n=41∨n=44)
def tk2(n:Int):Bool:=decide (n=7∨n=30∨n=22∨n=23∨n=25∨n=33∨n=42)
def Q30(i:Ins):Int:=if tk1 i.op=true then 1 else if tk2 i.op=true then 2 else if i.op=43 then 3 else if i.op=36∨i.op=38 then 1+Q5v i.desc else if i.op=37 then Q5v i.desc else if 8≤i.op∧i.op≤18 then 2 else 0
theorem Q133(i:Ins): -1≤Q30 i∧Q30 i≤9:=by
 have:=Qit i.desc
 unfold Q30
 repeat' split
 all_goals omega
def Qh6(F:SF)(st lo:List Typ):IW:=
 if (st.length:Int)-Q30 F.i<0 then ⟨11,st,lo⟩
 else if (Q45 F (st.take ((st.length:Int)-Q30 F.i).toNat) lo (st.drop ((st.length:Int)-Q30 F.i).toNat)).k=0 then
  ⟨cu (decide (((Q45 F (st.take ((st.length:Int)-Q30 F.i).toNat) lo (st.drop ((st.length:Int)-Q30 F.i).toNat)).st.length:Int)≤F.m.stack)) 11,(Q45 F (st.take ((st.length:Int)-Q30 F.i).toNat) lo (st.drop ((st.length:Int)-Q30 F.i).toNat)).st,(Q45 F (st.take ((st.length:Int)-Q30 F.i).toNat) lo (st.drop ((st.length:Int)-Q30 F.i).toNat)).lo⟩
 else Q45 F (st.take ((st.length:Int)-Q30 F.i).toNat) lo (st.drop ((st.length:Int)-Q30 F.i).toNat)
def Qy1(F:SF)(st tk:List Typ):List Typ:=if (st.length:Int)-Q30 F.i<0 then tk else st.drop ((st.length:Int)-Q30 F.i).toNat
end Go.Proofs
namespace Go.Proofs
open Go Go.Ev
theorem Q113(l:List Typ):Q3z (l.map eT)=true:=by
 induction l with
 |nil=>rfl
 |cons x l ih=>simp_all[Q3z,V.solid,eT]
@[simp] theorem solid_dT (q:Nat) (l:List Typ):Q3z (List.drop q (l.map eT))=true:=by rw[←List.map_drop];exact Q113 _
end Go.Proofs
namespace Go.Proofs
open Go Go.Ev
@[simp] theorem ix01:List.idxOf? 1 [0,1]=some 1:=by decide
@[simp] theorem ix02:List.idxOf? 2 [0,2]=some 1:=by decide
@[simp] theorem ix03:List.idxOf? 3 [0,3]=some 1:=by decide
@[simp] theorem ix04:List.idxOf? 4 [0,4]=some 1:=by decide
@[simp] theorem ix05:List.idxOf? 5 [0,5]=some 1:=by decide
@[simp] theorem wr0:IntKind.i64.wrap 0=0:=by decide
@[simp] theorem wr1:IntKind.i64.wrap 1=1:=by decide
@[simp] theorem wr2:IntKind.i64.wrap 2=2:=by decide
def Qfl(F:SF)(o1 o2:Bool)(st lo:List Typ)(k:Int):SW:=
 if F.i.op=26 then ⟨o1,o2,st,lo,if F.m.name=Qm then ndC (ndC k (decide ((Qg F.m.desc).res=[86])) 12) (decide (atL lo 0=Qy F.c.name)) 10 else ndC k (decide ((Qg F.m.desc).res=[86])) 12⟩
 else ⟨tkO o1 k st 1,o2,tkL k st 1,lo,
  if F.i.op=27 then ndC (ndC (tkC k st 1) (decide ((Qg F.m.desc).res=[73])) 12) (decide ((atL (tkV k st 1) 0).k=1)) 10
  else if F.i.op=28 then ndC (ndC (tkC k st 1) (!decide ((Qg F.m.desc).res=[86])&& !decide ((Qg F.m.desc).res=[73])) 12) (leT F.l (atL (tkV k st 1) 0) (Q3c (Qg F.m.desc).res)) 10
  else ndC (tkC k st 1) (leT F.l (atL (tkV k st 1) 0) (Qy Q1i)) 10⟩
def Qv0(F:SF):Typ:=if F.i.desc=[73] then ⟨4,[],0⟩ else ⟨5,Q1c F.i.desc,0⟩
def lsK(F:SF)(k:Int)(a:Typ):Int:=ndC (if F.i.desc=[73] then k else ndC k (isKnown F.l (Q1c F.i.desc)) 6) (decide (a.k=1)) 10
def Qbz(F:SF)(o1 o2:Bool)(st lo:List Typ)(k:Int):SW:=
 if F.i.op=41 then ⟨true,o2,tkL k st 1++[Qv0 F],lo,lsK F (tkC k st 1) (atL (tkV k st 1) 0)⟩
 else if F.i.op=42 then ⟨true,o2,tkL k st 2++[elT (atL (tkV k st 2) 0)],lo,ndC (ndC (tkC k st 2) (Qai (atL (tkV k st 2) 0)) 10) (decide ((atL (tkV k st 2) 1).k=1)) 10⟩
 else if F.i.op=43 then ⟨tkO o1 k st 3,o2,tkL k st 3,lo,ndC (ndC (ndC (tkC k st 3) (Qai (atL (tkV k st 3) 0)) 10) (decide ((atL (tkV k st 3) 1).k=1)) 10) (if (atL (tkV k st 3) 0).k=4 then decide ((atL (tkV k st 3) 2).k=1) else Q76 (atL (tkV k st 3) 2)) 10⟩
 else ⟨true,o2,tkL k st 1++[⟨1,[],0⟩],lo,ndC (tkC k st 1) (Qai (atL (tkV k st 1) 0)) 10⟩
end Go.Proofs
namespace Go.Proofs
open Go Go.Ev
def Q3u(F:SF):Nat:=(Qg F.i.desc).params.length+(if F.i.op=37 then 0 else 1)
def Qvj(F:SF):Fnd:=(fmL F.l F.i.name F.i.desc (Qu F.l F.i.cls)).1
def Q3f(F:SF)(k:Int):Int:=if F.i.op=38 then (if F.i.name=Qm then k else ndC k (decide (F.i.cls=F.c.super)) 14) else ndC k (!decide (F.i.name=Qm)) 14
def Q4u(F:SF)(st:List Typ)(k:Int):Int:=ndC (ndC (Q3f F (tkC k st (Q3u F))) (isKnown F.l F.i.cls) 6) (decide ((Qvj F).e=0)) (Qvj F).e
def Q34(F:SF)(a:Typ):Bool:=decide (a.k=6)&&decide (a.c=F.i.cls)
def ownB(F:SF)(a:Typ):Bool:=decide (a.k=7)&&(decide (F.i.cls=F.c.name)||decide (F.i.cls=F.c.super))
def Q4r(F:SF)(a:List Typ)(off:Nat):Bool:=Qco F.l a off (Qg F.i.desc).params (Qg F.i.desc).params.length
def Q50(F:SF)(o1 o2:Bool)(st lo:List Typ)(k:Int)(a:List Typ):SW:=
 if F.i.op=36 then ⟨o1,o2,st,lo,ndC (ndC (ndC k (!(Qsv F.l (Qvj F)).static) 14) (leT F.l (atL a 0) (Qy F.i.cls)) 10) (Q4r F a 1) 10⟩
 else if F.i.op=37 then ⟨o1,o2,st,lo,ndC (ndC k (Qsv F.l (Qvj F)).static 14) (Q4r F a 0) 10⟩
 else if F.i.name=Qm then
  if Q34 F (atL a 0)=true then ⟨true,true,st.map (swT (atL a 0) (Qy F.i.cls)),lo.map (swT (atL a 0) (Qy F.i.cls)),ndC (ndC k (Q34 F (atL a 0)||ownB F (atL a 0)) 10) (Q4r F a 1) 10⟩
  else if ownB F (atL a 0)=true then ⟨true,true,st.map (swT (atL a 0) (Qy F.c.name)),lo.map (swT (atL a 0) (Qy F.c.name)),ndC (ndC k (Q34 F (atL a 0)||ownB F (atL a 0)) 10) (Q4r F a 1) 10⟩
  else ⟨o1,o2,st,lo,ndC (ndC k (Q34 F (atL a 0)||ownB F (atL a 0)) 10) (Q4r F a 1) 10⟩
 else ⟨o1,o2,st,lo,ndC (ndC (ndC k (!(Qsv F.l (Qvj F)).static&&(!(Qsv F.l (Qvj F)).abstr&& !F.m.static)) 14) (leT F.l (atL a 0) (Qy F.c.name)) 10) (Q4r F a 1) 10⟩
def Q48(F:SF)(o1 o2:Bool)(st lo:List Typ)(k:Int):SW:=
 if Q4u F st k=0 then Qn1 (Qg F.i.desc).res (Q50 F (tkO o1 k st (Q3u F)) o2 (tkL k st (Q3u F)) lo (Q4u F st k) (tkV k st (Q3u F)))
 else ⟨tkO o1 k st (Q3u F),o2,tkL k st (Q3u F),lo,Q4u F st k⟩
end Go.Proofs
namespace Go.Proofs
open Go Go.Ev
def ldB(F:SF)(lo:List Typ):Bool:=decide (F.i.a<lo.length)&& !decide ((atL lo F.i.a.toNat).k=0)
def stK(F:SF)(st lo:List Typ)(k:Int):Int:=ndC (ndC (tkC k st 1) (decide (F.i.a<lo.length)) 10) (decide (0<F.i.a)|| !decide (F.m.name=([60,105,110,105,116,62]:Str))) 14
def Q2k(F:SF)(o1 o2:Bool)(st lo:List Typ)(k:Int):SW:=
 if F.i.op=1 then ⟨true,o2,st++[⟨1,[],0⟩],lo,k⟩
 else if F.i.op=2 then ⟨true,o2,st++[⟨2,[],0⟩],lo,k⟩
 else if F.i.op=3 then (if ndC k (ldB F lo) 10=0 then ⟨true,o2,st++[atL lo F.i.a.toNat],lo,0⟩ else ⟨o1,o2,st,lo,ndC k (ldB F lo) 10⟩)
 else if F.i.op=4 then (if stK F st lo k=0 then ⟨tkO o1 k st 1,true,tkL k st 1,lo.set F.i.a.toNat (atL (tkV k st 1) 0),0⟩ else ⟨tkO o1 k st 1,o2,tkL k st 1,lo,stK F st lo k⟩)
 else if F.i.op=5 then ⟨tkO o1 k st 1,o2,tkL k st 1,lo,tkC k st 1⟩
 else if F.i.op=6 then ⟨true,o2,tkL k st 1++[atL (tkV k st 1) 0]++[atL (tkV k st 1) 0],lo,tkC k st 1⟩
 else if F.i.op=7 then ⟨true,o2,tkL k st 2++[atL (tkV k st 2) 1]++[atL (tkV k st 2) 0],lo,tkC k st 2⟩
 else if F.i.op=30 then ⟨true,o2,tkL k st 2++[atL (tkV k st 2) 0]++[atL (tkV k st 2) 1]++[atL (tkV k st 2) 0]++[atL (tkV k st 2) 1],lo,tkC k st 2⟩
 else if F.i.op=20∨F.i.op=21 then ⟨tkO o1 k st 1,o2,tkL k st 1,lo,ndC (tkC k st 1) (decide ((atL (tkV k st 1) 0).k=1)) 10⟩
 else if F.i.op=22∨F.i.op=23 then ⟨tkO o1 k st 2,o2,tkL k st 2,lo,ndC (ndC (tkC k st 2) (decide ((atL (tkV k st 2) 0).k=1)) 10) (decide ((atL (tkV k st 2) 1).k=1)) 10⟩
 else if F.i.op=24 then ⟨tkO o1 k st 1,o2,tkL k st 1,lo,ndC (tkC k st 1) (Q76 (atL (tkV k st 1) 0)) 10⟩
 else if F.i.op=25 then ⟨tkO o1 k st 2,o2,tkL k st 2,lo,ndC (tkC k st 2) (Q76 (atL (tkV k st 2) 0)&&Q76 (atL (tkV k st 2) 1)) 10⟩
 else if F.i.op=39∨F.i.op=40 then ⟨true,o2,tkL k st 1++[if F.i.op=39 then Qy F.i.cls else ⟨1,[],0⟩],lo,ndC (ndC (tkC k st 1) (isKnown F.l F.i.cls) 6) (Q76 (atL (tkV k st 1) 0)) 10⟩
 else ⟨o1,o2,st,lo,k⟩
def d2L(a:List Typ):Nat→List Typ
 |0=>[]
 |j+1=>d2L a j++[atL a (j%2)]
theorem Q115(l:List Typ)(n:Nat)(a c:Int)(t:Str):(l.map eT).set n (V.agg [.int .i64 a,.str t,.int .i64 c])=(l.set n ⟨a,t,c⟩).map eT:=by rw[List.map_set];rfl
@[simp] theorem pure_setT (l:List Typ) (n:Nat) (a c:Int) (t:Str):Q2t ((l.map eT).set n (V.agg [.int .i64 a,.str t,.int .i64 c]))=true:=by rw[Q115];exact pureL_eT _
@[simp] theorem jk_setT (p:Nat→Bool) (l:List Typ) (n:Nat) (a c:Int) (t:Str):jkL p ((l.map eT).set n (V.agg [.int .i64 a,.str t,.int .i64 c]))=(l.map eT).set n (V.agg [.int .i64 a,.str t,.int .i64 c]):=by rw[Q115];exact jkL_eT p _
@[simp] theorem take_setT (l:List Typ) (n:Nat) (x:V):List.take l.length ((l.map eT).set n x)=(l.map eT).set n x:=List.take_of_length_le Z3
@[simp] theorem ndC_f10 (k:Int):(ndC k false 10=0)=False:=by
 unfold ndC
 by_cases h:k=0<;>simp[h]
theorem Qz3(a:List Typ): ∀j,(d2L a j).length=j
 |0=>rfl
 |j+1=>by simp[d2L,Qz3 a j]
theorem mod2(j:Nat):Int.tmod (j:Int) 2=((j%2:Nat):Int):=by rw[Int.tmod_eq_emod_of_nonneg Za];omega
def Qq2(F:SF)(o1 o2:Bool)(st lo:List Typ)(k:Int):SW:=⟨true,o2,tkL k st 2++[atL (tkV k st 2) 0],lo,ndC (ndC (tkC k st 2) (decide ((atL (tkV k st 2) 0).k=1)) 10) (decide ((atL (tkV k st 2) 1).k=1)) 10⟩
def Qa5(F:SF)(o1 o2:Bool)(st lo:List Typ)(k:Int):SW:=
 if 8≤F.i.op∧F.i.op≤18 then Qq2 F o1 o2 st lo k
 else if 26≤F.i.op∧F.i.op≤29 then Qfl F o1 o2 st lo k
 else if F.i.op=31 then Qiu F o1 o2 st lo k
 else if 32≤F.i.op∧F.i.op≤35 then fdS F o1 o2 st lo k
 else if 36≤F.i.op∧F.i.op≤38 then Q48 F o1 o2 st lo k
 else if 41≤F.i.op then Qbz F o1 o2 st lo k
 else Q2k F o1 o2 st lo k
def Qbk(F:SF)(s:SW):SW:=⟨s.o1,s.o2,s.st,s.lo,ndC s.k (decide ((s.st.length:Int)≤F.m.stack)) 11⟩
def Q8n(F:SF)(o1 o2:Bool)(st lo:List Typ)(k:Int):SW:=Qbk F (Qa5 F o1 o2 st lo k)
end Go.Proofs
namespace Go.Proofs
open Go Go.Ev
theorem Q117(r:Str)(s:SW):(Qn1 r s).st.length≤s.st.length+1∧(Qn1 r s).lo.length=s.lo.length:=by
 unfold Qn1
 split<;>simp
def LenS(s:SW)(n m:Nat):Prop:=s.st.length≤n∧s.lo.length=m
theorem Qn7{c:Prop}[Decidable c]{x y:SW}{n m:Nat}(hx:LenS x n m)(hy:LenS y n m):LenS (if c then x else y) n m:=by
 by_cases h:c
 ·rw[if_pos h];exact hx
 ·rw[if_neg h];exact hy
theorem Q128(F:SF)(o1 o2:Bool)(st lo:List Typ)(k:Int):LenS (Qa5 F o1 o2 st lo k) (st.length+4) lo.length:=by
 have h0:=Q29 k st (Qh4 F.i)
 have h1:=Q29 k st 1
 have h2:=Q29 k st 2
 have h3:=Q29 k st 3
 have h4:=Q29 k st (Q3u F)
 unfold Qa5
 refine Qn7 ?_ (Qn7 ?_ (Qn7 ?_ (Qn7 ?_ (Qn7 ?_ (Qn7 ?_ ?_)))))
 ·unfold Qq2
  all_goals (refine ⟨?_,?_⟩<;>(simp only[List.length_append,List.length_cons,List.length_nil,List.length_set,List.length_map])<;>omega)
 ·unfold Qfl
  repeat' apply Qn7
  all_goals (refine ⟨?_,?_⟩<;>(simp only[List.length_append,List.length_cons,List.length_nil,List.length_set,List.length_map])<;>omega)
 ·unfold Qiu
  repeat' apply Qn7
  all_goals (refine ⟨?_,?_⟩<;>(simp only[List.length_append,List.length_cons,List.length_nil,List.length_set,List.length_map])<;>omega)
 ·unfold fdS
  repeat' apply Qn7
  all_goals (refine ⟨?_,?_⟩<;>(simp only[List.length_append,List.length_cons,List.length_nil,List.length_set,List.length_map])<;>omega)
 ·unfold Q48
  refine Qn7 ?_ ?_
  ·have h5:LenS (Q50 F (tkO o1 k st (Q3u F)) o2 (tkL k st (Q3u F)) lo (Q4u F st k) (tkV k st (Q3u F))) (tkL k st (Q3u F)).length lo.length:=by
    unfold Q50
    repeat' apply Qn7
    all_goals (refine ⟨?_,?_⟩<;>(simp only[List.length_append,List.length_cons,List.length_nil,List.length_set,List.length_map])<;>omega)
   have h6:=Q117 (Qg F.i.desc).res (Q50 F (tkO o1 k st (Q3u F)) o2 (tkL k st (Q3u F)) lo (Q4u F st k) (tkV k st (Q3u F)))
   unfold LenS at h5⊢
   omega
  ·refine ⟨?_,rfl⟩
   show (tkL k st (Q3u F)).length≤_
   omega
 ·unfold Qbz
  repeat' apply Qn7
  all_goals (refine ⟨?_,?_⟩<;>(simp only[List.length_append,List.length_cons,List.length_nil,List.length_set,List.length_map])<;>omega)
 ·unfold Q2k
  repeat' apply Qn7
  all_goals (refine ⟨?_,?_⟩<;>(simp only[List.length_append,List.length_cons,List.length_nil,List.length_set,List.length_map])<;>omega)
theorem Qwq(F:SF)(o1 o2:Bool)(st lo:List Typ)(k:Int):(Q8n F o1 o2 st lo k).st.length≤st.length+4∧(Q8n F o1 o2 st lo k).lo.length=lo.length:=Q128 F o1 o2 st lo k
def frOf(s:SW):FrO:=if s.k=0 then ⟨⟨s.st,s.lo⟩,0⟩ else zFo s.k
def efT(F:SF)(f:Frm):FrO:=frOf (Q8n F false false f.stack f.locals 0)
def Qc2(l:List Cls)(c m a:Int)(f:Frm):Bool:=Q8u l f&&(Q4l l c m&&(!(Q52 l c m).abstr&&(decide (0≤a∧a<(Q52 l c m).code.length)&&(decide ((f.stack.length:Int)≤(Q52 l c m).stack)&&decide ((f.locals.length:Int)=(Q52 l c m).locals)))))
def Q7i(l:List Cls)(c m a:Int):SF:=⟨l,Qwv l c m,Q52 l c m,atL (Q52 l c m).code a.toNat,a⟩
def Qc3(l:List Cls)(c m a:Int)(f:Frm):FrO:=if 400<l.length then zFo 2 else if Qc2 l c m a f=true then efT (Q7i l c m a) f else zFo 1
end Go.Proofs
namespace Go.Proofs
open Go Go.Ev
theorem Qxu{x:Ins}(h:Q1o x=true):1≤x.op∧x.op≤44:=by
 by_cases h1:x.op<1∨44<x.op
 ·have:Q8l x.op=[33]:=by unfold Q8l;rw[if_pos h1]
  simp[Q1o,this] at h
 ·omega
theorem Q14p{x:Ins}(h:Q1o x=true)(h2:x.op=3∨x.op=4):0≤x.a:=by
 have:Q8l x.op=[105]:=by rcases h2 with e|e<;>rw[e]<;>decide
 simp[Q1o,this] at h
 omega
theorem Q11w{x:Ins}(h:Q1o x=true)(h2:x.op=36∨x.op=37∨x.op=38):(Qg x.desc).code=0:=by
 have:Q8l x.op=[109]:=by rcases h2 with e|e|e<;>rw[e]<;>decide
 simp[Q1o,this] at h
 exact h.2
theorem Qbo{x:Ins}(h:Q1o x=true)(h2:x.op=36∨x.op=37∨x.op=38):Q5v x.desc=(Q1g x.desc).params.length∧Qg x.desc=Q1g x.desc:=by
 have hc:=Q11w h h2
 rw[Qrq hc]
 exact ⟨by unfold Q5v;rw[if_pos hc],rfl⟩
theorem Qs3{l:List Cls}(hR:Qx l=true){i j:Nat}(p1:i<l.length)(p2:j<l[i].methods.length)(ha:l[i].methods[j].abstr=false){n:Nat}(p3:n<l[i].methods[j].code.length):
  Q1o l[i].methods[j].code[n]=true∧(l[i].methods[j].name=Qm→1≤l[i].methods[j].locals∧l[i].methods[j].static=false∧(Q1g l[i].methods[j].desc).res=[86]):=by
 have h:=Qii hR p1 p2
 have hh:=Qlj h
 rw[Qgw hh ha] at h
 simp only[Bool.and_eq_true,decide_eq_true_eq,Qu6,List.all_eq_true] at h
 obtain ⟨⟨⟨_,h1,_⟩,h2⟩,h3⟩:=h
 refine ⟨?_,fun hn=> ?_⟩
 ·have:=h1 _ (List.getElem_mem p3)
  simp only[Q83,Bool.and_eq_true] at this
  exact this.1
 ·rw[hn] at h3
  simp at h3
  have:=Qit l[i].methods[j].desc
  have hc:=Qn8 hh
  have hd:0≤Q5v l[i].methods[j].desc:=by unfold Q5v;rw[if_pos hc];omega
  rw[h3.1.1] at h2
  simp at h2
  exact ⟨by omega,h3.1.1,h3.2⟩
theorem Q12o{l:List Cls}(hR:Qx l=true){i j:Nat}(p1:i<l.length)(p2:j<l[i].methods.length)(ha:l[i].methods[j].abstr=true):l[i].methods[j].code.length=0:=by
 have h:=Qii hR p1 p2
 rw[Q9b (Qlj h) ha] at h
 simp only[Bool.and_eq_true,decide_eq_true_eq] at h
 exact h.1.1.1.2.2.1
theorem Qr3{l:List Cls}{i j:Nat}(p1:i<l.length)(p2:j<l[i].methods.length):Q3t l[i].methods[j]≤Q1r l:=by
 have h1:=Q4v p1
 have h2:=Q3q (f:=Q3t) (List.getElem_mem p2)
 simp only[Q1n] at h1
 omega
theorem Qwi{m:Mth}{n:Nat}(p3:n<m.code.length):Q5x m.code[n]≤Q3t m:=by
 have h2:=Q3q (f:=Q5x) (List.getElem_mem p3)
 unfold Q3t
 omega
def FP(l:List Cls)(m:Mth)(x:Ins)(f:Frm):Prop:=Qx l=true∧f.stack.length≤100∧f.locals.length≤100∧(x.op=3∨x.op=4→0≤x.a)∧x.desc.length≤1099511627776∧m.desc.length≤1099511627776∧(m.name=Qm→0<f.locals.length)
theorem Qh0(l:List Cls)(c m a:Int)(f:Frm)(hs:Q1r l≤1048576):Qc2 l c m a f=false∨ ∃i j n:Nat,c=i∧m=j∧a=n∧Qc2 l i j n f=true∧ ∃(p1:i<l.length) (p2:j<l[i].methods.length) (p3:n<l[i].methods[j].code.length),
  FP l l[i].methods[j] l[i].methods[j].code[n] f∧Q7i l i j n=⟨l,l[i],l[i].methods[j],l[i].methods[j].code[n],n⟩:=by
 cases hF:Qc2 l c m a f
 ·exact .inl rfl
 ·refine .inr ?_
  have hF0:=hF
  simp only[Qc2,Bool.and_eq_true,decide_eq_true_eq,Bool.not_eq_true',Q8u,Qev] at hF
  obtain ⟨⟨hR,h1,h2,_⟩,hT,hA,⟨h3,h4⟩,h5,h6⟩:=hF
  rcases Q8q l c m with ⟨_,_,hT2⟩|⟨i,rfl,_,_,hT2⟩|⟨i,rfl,_,_,hT2⟩|⟨i,j,rfl,rfl,_,_,hT2⟩|⟨i,j,rfl,rfl,p1,p2,_⟩
  ·rw[hT2] at hT;cases hT
  ·rw[hT2] at hT;cases hT
  ·rw[hT2] at hT;cases hT
  ·rw[hT2] at hT;cases hT
  ·have e:=Q8t hT p1 p2
   obtain ⟨n,rfl⟩: ∃n:Nat,a=n:=⟨a.toNat,by omega⟩
   rw[e] at hA h4 h5 h6
   have p3:n<l[i].methods[j].code.length:=by omega
   have hc:=Qs3 hR p1 p2 hA p3
   have z1:=Qr3 p1 p2
   have z2:=Qwi p3
   refine ⟨i,j,n,rfl,rfl,rfl,hF0,p1,p2,p3,⟨hR,by omega,by omega,Q14p hc.1,?_,?_,fun e=> ?_⟩,?_⟩
   ·unfold Q5x at z2;omega
   ·unfold Q3t at z1;omega
   ·have:=(hc.2 e).1;omega
   ·unfold Q7i
    rw[e,Qp5 hT p1]
    simp[Qb p3]
end Go.Proofs
namespace Go.Proofs
open Go Go.Ev
attribute [simp] St.nilF
def Qjo(l:List Cls)(c m a:Int)(f:Frm):Bool:=Qx l&&(Q4l l c m&&(Qev l f&&(decide (0≤a∧a≤((Q52 l c m).code.length:Int)-1)&&(!decide ((Q52 l c m).stack<(f.stack.length:Int))&&decide ((f.locals.length:Int)=(Q52 l c m).locals)))))
def Qbh:V:= .raw (.pointer none)
def Qp3(l:List Cls)(c m a:Int)(f:Frm):V:=
 if 400<l.length then .tup [Qbh,.int .i64 2] else if Qjo l c m a f=true then .tup [.bx 20 (oFl (Q7i l c m a) f.stack f.locals []),.int .i64 0] else .tup [Qbh,.int .i64 1]
theorem Qwm(l:List Cls)(c m a:Int)(f:Frm):(Qp3 l c m a f= .tup [Qbh,.int .i64 2]∧400<l.length)∨
  (Qp3 l c m a f= .tup [Qbh,.int .i64 1]∧ ¬400<l.length∧Qjo l c m a f=false)∨
  (Qp3 l c m a f= .tup [.bx 20 (oFl (Q7i l c m a) f.stack f.locals []),.int .i64 0]∧ ¬400<l.length∧Qjo l c m a f=true):=by
 unfold Qp3
 split
 ·rename_i hc;exact .inl ⟨rfl,hc⟩
 ·rename_i hc
  split
  ·rename_i hr;exact .inr (.inr ⟨rfl,hc,hr⟩)
  ·rename_i hr;exact .inr (.inl ⟨rfl,hc,by simpa using hr⟩)
theorem Qxm(l:List Cls)(c m:Int):Q3t (Q52 l c m)≤Q1r l:=by
 rcases Q8q l c m with ⟨_,_,hT⟩|⟨i,rfl,_,_,hT⟩|⟨i,rfl,_,_,hT⟩|⟨i,j,rfl,rfl,_,_,hT⟩|⟨i,j,rfl,rfl,p1,p2,hT⟩
 all_goals first|(rw[Q8t hT p1 p2];exact Qr3 p1 p2;done)|(unfold Q52;rw[hT];simp[zM,Q3t])
theorem Q10f(l:List Cls)(c m:Int)(hs:Q1r l≤1048576):(Q52 l c m).code.length≤1048576∧IntKind.i64.wrap (((Q52 l c m).code.length:Int)-1)=((Q52 l c m).code.length:Int)-1:=by
 have:=Qxm l c m
 have h:(Q52 l c m).code.length≤1048576:=by unfold Q3t at this;omega
 exact ⟨h,Q7 Za Za⟩
theorem pl7(l:List Cls)(c m a:Int)(f:Frm):
  ((Qx l=false)∧(True)∧(True)∧(True)∧(True)∧(True))∨
  ((Qx l=true)∧(Q4l l c m=false)∧(True)∧(True)∧(True)∧(True))∨
  ((Qx l=true)∧(Q4l l c m=true)∧(Qev l f=false)∧(True)∧(True)∧(True))∨
  ((Qx l=true)∧(Q4l l c m=true)∧(Qev l f=true)∧((decide (0≤a)&&decide (a≤((Q52 l c m).code.length:Int)-1))=false)∧(True)∧(True))∨
  ((Qx l=true)∧(Q4l l c m=true)∧(Qev l f=true)∧((decide (0≤a)&&decide (a≤((Q52 l c m).code.length:Int)-1))=true)∧(((Q52 l c m).stack<(f.stack.length:Int))=(true=true))∧(True))∨
  ((Qx l=true)∧(Q4l l c m=true)∧(Qev l f=true)∧((decide (0≤a)&&decide (a≤((Q52 l c m).code.length:Int)-1))=true)∧(((Q52 l c m).stack<(f.stack.length:Int))=(false=true))∧(((f.locals.length:Int)=(Q52 l c m).locals)=(false=true)))∨
  ((Qx l=true)∧(Q4l l c m=true)∧(Qev l f=true)∧((decide (0≤a)&&decide (a≤((Q52 l c m).code.length:Int)-1))=true)∧(((Q52 l c m).stack<(f.stack.length:Int))=(false=true))∧(((f.locals.length:Int)=(Q52 l c m).locals)=(true=true))):=by
 cases h1:Qx l
 ·simp
 ·cases h2:Q4l l c m
  ·simp
  ·cases h3:Qev l f
   ·simp
   ·cases h4:(decide (0≤a)&&decide (a≤((Q52 l c m).code.length:Int)-1))
    ·simp
    ·by_cases h5:(Q52 l c m).stack<(f.stack.length:Int)
     ·simp[h5]
     ·by_cases h6:(f.locals.length:Int)=(Q52 l c m).locals
      ·simp[h5,h6]
      ·simp[h5,h6]
end Go.Proofs
namespace Go.Proofs
open Go Go.Ev
def Qdf(l:List Cls)(c m a:Int)(f:Frm):FrO:=
 if 400<l.length then zFo 2 else if Qjo l c m a f=true then
  (if (Qh6 (Q7i l c m a) f.stack f.locals).k=0 then ⟨⟨(Qh6 (Q7i l c m a) f.stack f.locals).st,(Qh6 (Q7i l c m a) f.stack f.locals).lo⟩,0⟩ else zFo (Qh6 (Q7i l c m a) f.stack f.locals).k) else zFo 1
theorem Qrm(l:List Cls)(c m a:Int)(f:Frm):Qjo l c m a f=Qc2 l c m a f:=by
 unfold Qjo Qc2 Q8u
 cases hR:Qx l
 ·rfl
 cases hT:Q4l l c m
 ·simp
 cases hF:Qev l f
 ·simp
 simp only[Bool.true_and]
 cases hA:(Q52 l c m).abstr
 ·simp only[Bool.not_false,Bool.true_and]
  congr 1
  ·apply Bool.eq_iff_iff.2;simp only[decide_eq_true_eq];omega
  ·congr 1
   apply Bool.eq_iff_iff.2;simp
 ·simp only[Bool.not_true,Bool.false_and]
  rcases Q8q l c m with ⟨_,_,hT2⟩|⟨i,rfl,_,_,hT2⟩|⟨i,rfl,_,_,hT2⟩|⟨i,j,rfl,rfl,_,_,hT2⟩|⟨i,j,rfl,rfl,p1,p2,_⟩
  any_goals (rw[hT2] at hT;cases hT;done)
  rw[Q8t hT p1 p2] at hA⊢
  have:=Q12o hR p1 p2 hA
  rw[this]
  have:decide (0≤a∧a≤((0:Nat):Int)-1)=false:=decide_eq_false Za
  rw[this];rfl
theorem Qp2{l:List Cls}{c m a:Int}{f:Frm}(hs:Q1r l≤1048576)(h:Qjo l c m a f=true):
  Qx l=true∧f.stack.length≤100∧f.locals.length≤100∧((Q7i l c m a).i.op=3∨(Q7i l c m a).i.op=4→0≤(Q7i l c m a).i.a)∧(Q7i l c m a).i.desc.length≤1099511627776∧(Q7i l c m a).m.desc.length≤1099511627776∧(Q7i l c m a).i.cls.length≤1099511627776∧
  ((Q7i l c m a).i.op=36∨(Q7i l c m a).i.op=37∨(Q7i l c m a).i.op=38→Q5v (Q7i l c m a).i.desc=(Q1g (Q7i l c m a).i.desc).params.length)∧(1≤(Q7i l c m a).i.op∧(Q7i l c m a).i.op≤44)∧0≤(Q7i l c m a).at'∧
  (∃hlt:(Q7i l c m a).at'.toNat<(Q7i l c m a).m.code.length,(Q7i l c m a).m.code[(Q7i l c m a).at'.toNat]=(Q7i l c m a).i)∧0≤Q30 (Q7i l c m a).i∧Q1o (Q7i l c m a).i=true:=by
 rw[Qrm] at h
 rcases Qh0 l c m a f hs with h0|⟨i,j,n,rfl,rfl,rfl,hF,p1,p2,p3,hP,hsf⟩
 ·rw[h0] at h;cases h
 ·rw[hsf]
  have hA:l[i].methods[j].abstr=false:=by
   have hF2:=hF
   simp only[Qc2,Bool.and_eq_true,Bool.not_eq_true'] at hF2
   rw[Q8t hF2.2.1 p1 p2] at hF2
   exact hF2.2.2.1
  have hc:=(Qs3 hP.1 p1 p2 hA p3).1
  have z1:=Qr3 p1 p2
  have z2:=Qwi p3
  have hi:=Qxu hc
  refine ⟨hP.1,hP.2.1,hP.2.2.1,hP.2.2.2.1,hP.2.2.2.2.1,hP.2.2.2.2.2.1,?_,fun e=>(Qbo hc e).1,hi,?_,⟨?_,?_⟩,?_,hc⟩
  ·show l[i].methods[j].code[n].cls.length≤_
   unfold Q5x at z2;omega
  ·show (0:Int)≤(n:Int);omega
  ·simpa using p3
  ·simp
  ·show 0≤Q30 l[i].methods[j].code[n]
   unfold Q30
   split
   ·decide
   split
   ·decide
   split
   ·decide
   split
   ·rename_i e
    rw[(Qbo hc Za).1];omega
   split
   ·rename_i e
    rw[(Qbo hc Za).1];omega
   split<;>decide
end Go.Proofs
namespace Go.Proofs
open Go Go.Ev
theorem Qzz{l:List Cls}{a b:Str}(h:out (Qu l a) b=true):isKnown l b=true:=Q11t (a:=a) (by simpa[out] using h)
theorem Q11s{l:List Cls}{a b:Typ}(ha:Q16 l a=true)(hb:b.at'=0)(hb2:b.k≠2):leI l a b=leT l a b:=by
 unfold leI leT
 by_cases h1:a=b∨b.k=0
 ·rw[if_pos h1,if_pos h1]
 ·rw[if_neg h1,if_neg h1]
  by_cases h2:a.k=2
  ·rw[if_pos h2,if_pos h2]
   unfold Q76
   rw[Bool.eq_iff_iff];simp;omega
  ·rw[if_neg h2,if_neg h2]
   by_cases h3:(a.k=3∧b.k=3)∨(a.k=5∧b.k=5)
   ·rw[if_pos h3,if_pos h3]
    have ka:=Q156 ha Za
    unfold subS
    rw[Qny ka.1]
    cases ho:out (Qu l a.c) b.c
    ·simp
    ·rw[Qzz ho];rfl
   ·rw[if_neg h3,if_neg h3,Bool.and_assoc]
    congr 1
    rw[Bool.eq_iff_iff]
    simp only[decide_eq_true_eq,Bool.and_eq_true]
    constructor
    ·rintro rfl;exact ⟨rfl,rfl⟩
    ·rintro ⟨e1,e2⟩;exact Qyf e1 e2 hb
theorem Qr9{l:List Cls}{a:Typ}{c:Str}(ha:Q16 l a=true):leI l a (Qy c)=leT l a (Qy c):=Q11s ha rfl (by simp[Qy])
theorem Qta(s:Str):(Q3c s).at'=0∧(Q3c s).k≠2:=by
 unfold Q3c
 repeat' split
 all_goals simp[zT]
theorem Qq9{l:List Cls}{a:Typ}{s:Str}(ha:Q16 l a=true):leI l a (Q3c s)=leT l a (Q3c s):=Q11s ha (Qta s).1 (Qta s).2
theorem Qur{l:List Cls}{xs:List Typ}{off:Nat}{ps:List Str}(hx: ∀t∈xs,Q16 l t=true): ∀n,off+n≤xs.length→Qgr l (xs.drop off) ps n=Qco l xs off ps n
 |0,_=>rfl
 |n+1,h=>by
  simp only[Qgr,Qco]
  rw[Qur hx n Za]
  congr 1
  rw[Qb (show off+n<xs.length by omega),Qb (show n<(xs.drop off).length by rw[List.length_drop];omega),List.getElem_drop]
  exact Qq9 (hx _ (List.getElem_mem _))
theorem Q13b{l:List Cls}{xs:List Typ}{ps:List Str}(hx: ∀t∈xs,Q16 l t=true)(n:Nat)(h:n≤xs.length):Qgr l xs ps n=Qco l xs 0 ps n:=by
 have:=Qur (off:=0) (ps:=ps) hx n Za
 simpa using this
theorem Q15s{st:List Typ}{n:Nat}(h:st.length<n)(o:Bool):tkC 0 st n=11∧tkL 0 st n=st:=by
 have h2:Qb6 0 st n=true:=by simp[Qb6,h]
 have:=Qx9 h2 o
 exact ⟨by rw[this.1];simp[ndC],this.2.1⟩
theorem Qd8{st:List Typ}{n:Nat}(h:n≤st.length):tkC 0 st n=0∧tkL 0 st n=st.take (st.length-n)∧tkV 0 st n=st.drop (st.length-n):=by
 have h2:Qb6 0 st n=false:=by simp[Qb6];omega
 have:=Q10w (q:=st.length-n) h2 Za true
 exact ⟨this.1,this.2.1,this.2.2.1⟩
@[simp] theorem ndC_0 (b:Bool) (c:Int):ndC 0 b c=cu b c:=by unfold ndC cu;cases b<;>simp
theorem Q14m{k:Int}(h:k≠0)(b:Bool)(c:Int):ndC k b c=k:=by unfold ndC;rw[if_neg (fun e=>h e.1)]
theorem Qgv(b:Bool)(c:Int):ndC 11 b c=11:=Q14m (by decide) b c
def Q4e(s:SW)(x:IW):Prop:=s.k=x.k∧(x.k=0→s.st=x.st∧s.lo=x.lo)
theorem Q116{F:SF}{s:SW}{x:IW}(h:Q4e s x):Q4e (Qbk F s) (if x.k=0 then ⟨cu (decide ((x.st.length:Int)≤F.m.stack)) 11,x.st,x.lo⟩ else x):=by
 obtain ⟨h1,h2⟩:=h
 by_cases h3:x.k=0
 ·rw[if_pos h3]
  obtain ⟨h4,h5⟩:=h2 h3
  exact ⟨by show ndC s.k _ 11=cu _ 11;rw[h1,h3,ndC_0,h4],fun _=>⟨h4,h5⟩⟩
 ·rw[if_neg h3]
  exact ⟨by show ndC s.k _ 11=x.k;rw[h1,Q14m h3],fun e=>absurd e h3⟩
end Go.Proofs
namespace Go.Proofs
open Go Go.Ev
theorem Qv3{l:List Typ}(h:l.length=1): ∃a,l=[a]:=by
 match l,h with
 |[a],_=>exact ⟨a,rfl⟩
theorem len2{l:List Typ}(h:l.length=2): ∃a b,l=[a,b]:=by
 match l,h with
 |[a,b],_=>exact ⟨a,b,rfl⟩
theorem len3{l:List Typ}(h:l.length=3): ∃a b c,l=[a,b,c]:=by
 match l,h with
 |[a,b,c],_=>exact ⟨a,b,c,rfl⟩
theorem Q157{l:List Cls}{t:Typ}(h:Q16 l t=true)(hk:t.k=1):t=⟨1,[],0⟩:=by
 obtain ⟨h1,h2,_⟩:=Q155 h Za Za
 exact Qyf hk h1 h2
theorem Qln{l:List Cls}{st:List Typ}(h: ∀t∈st,Q16 l t=true)(q:Nat): ∀t∈st.drop q,Q16 l t=true:=fun t ht=>h t (List.mem_of_mem_drop ht)
theorem Q169{F:SF}{o1 o2:Bool}{st lo:List Typ}(hst: ∀t∈st,Q16 F.l t=true)(hn:2≤st.length):
  Q4e (Qq2 F o1 o2 st lo 0) (if Q3g (st.drop (st.length-2))=true then ⟨0,st.take (st.length-2)++[⟨1,[],0⟩],lo⟩ else ⟨10,st.take (st.length-2),lo⟩):=by
 obtain ⟨e1,e2,e3⟩:=Qd8 hn
 have hk:=Qln hst (st.length-2)
 obtain ⟨a,b,hd⟩:=len2 (show (st.drop (st.length-2)).length=2 by rw[List.length_drop];omega)
 rw[hd] at hk e3⊢
 unfold Qq2 Q4e
 rw[e1,e2,e3]
 have ha:=hk a Z3
 by_cases h1:a.k=1
 ·have:=Q157 ha h1
  subst this
  by_cases h2:b.k=1<;>simp[Q3g,h2,cu,ndC]
 ·simp[Q3g,h1,cu,ndC]
theorem Q160{F:SF}{o1 o2:Bool}{st lo:List Typ}{n:Nat}(hst: ∀t∈st,Q16 F.l t=true)(hop:26≤F.i.op∧F.i.op≤29)(hn:n=if F.i.op=26 then 0 else 1)(hl:n≤st.length)(hm:Qg F.m.desc=Q1g F.m.desc)(hi:F.m.name=Qm→0<lo.length):
  Q4e (Qfl F o1 o2 st lo 0) ⟨Qfp F lo (st.drop (st.length-n)),st.take (st.length-n),lo⟩:=by
 unfold Qfl Qfp
 rw[hm]
 by_cases h26:F.i.op=26
 ·have e26:(F.i.op=26)=True:=eq_true h26
  have e29:(F.i.op=29)=False:=eq_false Za
  rw[if_pos h26] at hn
  subst hn
  simp only[e26,e29,if_true,if_false]
  refine ⟨?_,fun _=>⟨by simp,rfl⟩⟩
  by_cases h1:(Q1g F.m.desc).res=[86]
  ·by_cases h2:F.m.name=Qm
   ·have:=hi h2
    simp[h1,h2,this,cu,ndC]
   ·simp[h1,h2,cu,ndC]
  ·by_cases h2:F.m.name=Qm<;>simp[h1,h2,cu,ndC]
 ·rw[if_neg h26] at hn⊢
  subst hn
  obtain ⟨e1,e2,e3⟩:=Qd8 hl
  have hk:=Qln hst (st.length-1)
  obtain ⟨a,hd⟩:=Qv3 (show (st.drop (st.length-1)).length=1 by rw[List.length_drop];omega)
  rw[hd] at hk e3⊢
  rw[e1,e2,e3]
  have ha:=hk a Z3
  have hr:=Qr9 (c:=Q1i) ha
  have hf:=Qq9 (s:=(Q1g F.m.desc).res) ha
  refine ⟨?_,fun _=>⟨rfl,rfl⟩⟩
  rcases (by omega:F.i.op=27∨F.i.op=28∨F.i.op=29) with h|h|h
  ·by_cases h1:(Q1g F.m.desc).res=[73]<;>simp[h,h1,cu,ndC,Q3g]
  ·by_cases h1:(Q1g F.m.desc).res=[86]<;>by_cases h2:(Q1g F.m.desc).res=[73]<;>simp[h,h1,h2,cu,ndC,hf]<;>(cases leT F.l a (Q3c (Q1g F.m.desc).res)<;>simp)
  ·simp[h,cu,ndC,hr]
   cases leT F.l a (Qy Q1i)<;>simp
theorem Q15y{F:SF}{o1 o2:Bool}{st lo:List Typ}(hw:Qx F.l=true):Q4e (Qiu F o1 o2 st lo 0) (Qll F st lo):=by
 unfold Qiu Qll Qxl Qys Q4e
 have e:Qb8 F=Qdu F:=rfl
 rw[e]
 by_cases h1:isKnown F.l F.i.cls=true
 ·rw[if_pos h1]
  have ha:abOK F= !(Q1u F.l F.i.cls).abstr:=by
   unfold abOK Q1u
   by_cases h:Qk F.i.cls F.l 0<0
   ·rw[decide_eq_true h,if_neg Za];rfl
   ·rw[decide_eq_false h,if_pos Za];rfl
  rw[ha,h1]
  cases h2:(Q1u F.l F.i.cls).abstr
  ·have h3:(st.all fun x=> !decide (x=Qdu F))= !(st.any fun x=>decide (Qdu F=x)):=by
    induction st with
    |nil=>rfl
    |cons x xs ih=>simp only[List.all_cons,List.any_cons,ih,Bool.not_or];congr 2;exact decide_eq_decide.2 ⟨Eq.symm,Eq.symm⟩
   rw[h3]
   cases h4:(st.any fun x=>decide (Qdu F=x))<;>simp[ndC,cu]
  ·simp[ndC,cu]
 ·rw[if_neg h1]
  simp only[Bool.not_eq_true] at h1
  simp[h1,ndC,cu]
end Go.Proofs
namespace Go.Proofs
open Go Go.Ev
theorem Q15w{F:SF}{o1 o2:Bool}{st lo:List Typ}{n:Nat}(hop:F.i.op≤7∨F.i.op=30)(hop1:1≤F.i.op)(hia:F.i.op=3∨F.i.op=4→0≤F.i.a)(hn:(n:Int)=Q30 F.i)(hl:n≤st.length):
  Q4e (Q2k F o1 o2 st lo 0) (Q39 F (st.take (st.length-n)) lo (st.drop (st.length-n))):=by
 obtain ⟨e1,e2,e3⟩:=Qd8 hl
 rcases (by omega:F.i.op=1∨F.i.op=2∨F.i.op=3∨F.i.op=4∨F.i.op=5∨F.i.op=6∨F.i.op=7∨F.i.op=30) with h|h|h|h|h|h|h|h
 all_goals (simp[Q30,tk1,tk2,h] at hn;subst hn)
 ·simp[Q2k,Q39,h,Q4e]
 ·simp[Q2k,Q39,h,Q4e]
 ·unfold Q2k Q39 Q4e ldB
  simp only[h]
  by_cases h1:F.i.a<(lo.length:Int)
  ·by_cases h2:(atL lo F.i.a.toNat).k=0<;>simp[h1,h2,cu]
  ·simp[h1,cu]
 ·have ha:=hia (.inr h)
  unfold Q2k Q39 Q4e stK
  rw[e1,e2,e3]
  simp only[h]
  by_cases h1:F.i.a<(lo.length:Int)
  ·by_cases h2:F.i.a=0
   ·by_cases h3:F.m.name=Qm
    ·have: ¬0<F.i.a:=by omega
     have h6:0<lo.length:=by omega
     have h5:lo≠[]:=fun e=>by rw[e] at h6;simp at h6
     simp[h2,h3,cu,ndC,Qm,h5,h6]
    ·have h3': ¬F.m.name=[60,105,110,105,116,62]:=h3
     have h6:0<lo.length:=by omega
     have h5:lo≠[]:=fun e=>by rw[e] at h6;simp at h6
     simp[h2,h3',h3,cu,ndC,h5,h6]
   ·have h4:0<F.i.a:=by omega
    simp[h1,h2,h4,cu,ndC]
  ·simp[h1,cu,ndC]
 all_goals (simp[Q2k,Q39,h,Q4e,e1,e2,e3])
theorem Q161{F:SF}{o1 o2:Bool}{st lo:List Typ}{n:Nat}(hop:19≤F.i.op∧F.i.op≤23)(hn:(n:Int)=Q30 F.i)(hl:n≤st.length):
  Q4e (Q2k F o1 o2 st lo 0) ⟨cu (Q3g (st.drop (st.length-n))) 10,st.take (st.length-n),lo⟩:=by
 obtain ⟨e1,e2,e3⟩:=Qd8 hl
 have hd:(st.drop (st.length-n)).length=n:=by rw[List.length_drop];omega
 rcases (by omega:F.i.op=19∨F.i.op=20∨F.i.op=21∨F.i.op=22∨F.i.op=23) with h|h|h|h|h
 all_goals (simp[Q30,tk1,tk2,h] at hn;subst hn)
 ·simp[Q2k,h,Q4e,Q3g,cu]
 ·obtain ⟨a,ea⟩:=Qv3 hd
  rw[ea] at e3⊢
  by_cases h1:a.k=1<;>simp[Q2k,h,Q4e,e1,e2,e3,Q3g,h1,cu]
 ·obtain ⟨a,ea⟩:=Qv3 hd
  rw[ea] at e3⊢
  by_cases h1:a.k=1<;>simp[Q2k,h,Q4e,e1,e2,e3,Q3g,h1,cu]
 ·obtain ⟨a,b,ea⟩:=len2 hd
  rw[ea] at e3⊢
  by_cases h1:a.k=1<;>by_cases h2:b.k=1<;>simp[Q2k,h,Q4e,e1,e2,e3,Q3g,h1,h2,cu,ndC]
 ·obtain ⟨a,b,ea⟩:=len2 hd
  rw[ea] at e3⊢
  by_cases h1:a.k=1<;>by_cases h2:b.k=1<;>simp[Q2k,h,Q4e,e1,e2,e3,Q3g,h1,h2,cu,ndC]
theorem Q15x{F:SF}{o1 o2:Bool}{st lo:List Typ}{n:Nat}(hop:F.i.op=24∨F.i.op=25)(hn:(n:Int)=Q30 F.i)(hl:n≤st.length):
  Q4e (Q2k F o1 o2 st lo 0) ⟨cu (Qet (st.drop (st.length-n))) 10,st.take (st.length-n),lo⟩:=by
 obtain ⟨e1,e2,e3⟩:=Qd8 hl
 have hd:(st.drop (st.length-n)).length=n:=by rw[List.length_drop];omega
 rcases hop with h|h
 all_goals (simp[Q30,tk1,tk2,h] at hn;subst hn)
 ·obtain ⟨a,ea⟩:=Qv3 hd
  rw[ea] at e3⊢
  simp[Q2k,h,Q4e,e1,e2,e3,Qet]
 ·obtain ⟨a,b,ea⟩:=len2 hd
  rw[ea] at e3⊢
  simp[Q2k,h,Q4e,e1,e2,e3,Qet]
theorem Q150{F:SF}{o1 o2:Bool}{st lo:List Typ}(hop:F.i.op=39∨F.i.op=40)(hl:1≤st.length):
  Q4e (Q2k F o1 o2 st lo 0) (csI F (st.take (st.length-1)) lo (st.drop (st.length-1))):=by
 obtain ⟨e1,e2,e3⟩:=Qd8 hl
 obtain ⟨a,ea⟩:=Qv3 (show (st.drop (st.length-1)).length=1 by rw[List.length_drop];omega)
 rw[ea] at e3⊢
 unfold csI
 rcases hop with h|h
 all_goals (cases h1:isKnown F.l F.i.cls<;>cases h2:Q76 a<;>simp[Q2k,h,Q4e,e1,e2,e3,Qet,h1,h2,cu,ndC])
end Go.Proofs
namespace Go.Proofs
open Go Go.Ev
theorem Q11v{x:Ins}(h:Q1o x=true)(h2:x.op=41):(Q1c x.desc=[]↔x.desc=[73]):=by
 have:Q8l x.op=[121]:=by rw[h2];decide
 simp[Q1o,this] at h
 obtain ⟨⟨_,h3⟩,h4⟩:=h
 constructor
 ·intro e
  refine Classical.byContradiction fun hn=>Ql5 h3 hn (fun e2=> ?_) e
  rw[e2] at h4;simp[Q28] at h4
 ·intro e;rw[e];decide
theorem Q15z{F:SF}{o1 o2:Bool}{st lo:List Typ}{n:Nat}(hr:Q1o F.i=true)(hop:41≤F.i.op∧F.i.op≤44)(hn:(n:Int)=Q30 F.i)(hl:n≤st.length):
  Q4e (Qbz F o1 o2 st lo 0) (lsI F (st.take (st.length-n)) lo (st.drop (st.length-n))):=by
 obtain ⟨e1,e2,e3⟩:=Qd8 hl
 have hd:(st.drop (st.length-n)).length=n:=by rw[List.length_drop];omega
 rcases (by omega:F.i.op=41∨F.i.op=42∨F.i.op=43∨F.i.op=44) with h|h|h|h
 all_goals (simp[Q30,tk1,tk2,h] at hn;subst hn)
 ·have hi:=Q11v hr h
  obtain ⟨a,ea⟩:=Qv3 hd
  rw[ea] at e3⊢
  unfold Qbz lsI Qv0 lsK
  rw[e1,e2,e3]
  by_cases h1:F.i.desc=[73]
  ·have h2:=hi.2 h1
   rw[h1] at h2
   by_cases h3:a.k=1<;>simp[h,Q4e,h1,h2,h3,cu,ndC]
  ·have h2: ¬Q1c F.i.desc=[]:=fun e=>h1 (hi.1 e)
   cases h4:isKnown F.l (Q1c F.i.desc)<;>by_cases h3:a.k=1<;>simp[h,Q4e,h1,h2,h3,h4,cu,ndC]
 ·obtain ⟨a,b,ea⟩:=len2 hd
  rw[ea] at e3⊢
  cases h1:Qai a<;>by_cases h2:b.k=1<;>simp[Qbz,lsI,h,Q4e,e1,e2,e3,h1,h2,cu,ndC]
 ·obtain ⟨a,b,c,ea⟩:=len3 hd
  rw[ea] at e3⊢
  cases h1:Qai a<;>by_cases h2:b.k=1<;>by_cases h3:a.k=4<;>by_cases h4:c.k=1<;>cases h5:Q76 c<;>simp[Qbz,lsI,h,Q4e,e1,e2,e3,h1,h2,h3,h4,h5,cu,ndC]
 ·obtain ⟨a,ea⟩:=Qv3 hd
  rw[ea] at e3⊢
  cases h1:Qai a<;>simp[Qbz,lsI,h,Q4e,e1,e2,e3,h1,cu,ndC]
theorem Q167{F:SF}{o1 o2:Bool}{st lo:List Typ}{n:Nat}(hw:Qx F.l=true)(hst: ∀t∈st,Q16 F.l t=true)(hop:32≤F.i.op∧F.i.op≤35)(hn:(n:Int)=Q30 F.i)(hl:n≤st.length):
  Q4e (fdS F o1 o2 st lo 0) (Qfn F (st.take (st.length-n)) lo (st.drop (st.length-n))):=by
 have hn2:Qh4 F.i=n:=by
  unfold Qh4 Qsw Qrf
  rcases (by omega:F.i.op=32∨F.i.op=33∨F.i.op=34∨F.i.op=35) with h|h|h|h
  all_goals (simp[Q30,tk1,tk2,h] at hn⊢;omega)
 obtain ⟨e1,e2,e3⟩:=Qd8 hl
 have hd:(st.drop (st.length-n)).length=n:=by rw[List.length_drop];omega
 have hk:=Qln hst (st.length-n)
 have hfs:Qsw F.i=Qdx F.i:=by unfold Qsw Qdx;rw[Bool.eq_iff_iff];simp;omega
 unfold fdS Qfn Qcy Qn9 Qh5
 rw[hn2,e1,e2,e3]
 have hx:fdxS F=(ffL F.l F.i.name F.i.desc (Qu F.l F.i.cls)).1:=rfl
 rw[hx]
 cases h1:isKnown F.l F.i.cls
 ·simp[Q4e,ndC,cu]
 by_cases h2:(ffL F.l F.i.name F.i.desc (Qu F.l F.i.cls)).1.e=0
 ·obtain ⟨_,hs⟩:=ff_e hw F.i.name F.i.desc (Qu F.l F.i.cls) h2
  rw[hs,hfs]
  rcases (by omega:F.i.op=32∨F.i.op=33∨F.i.op=34∨F.i.op=35) with h|h|h|h
  all_goals (simp[Q30,tk1,tk2,h] at hn;subst hn)
  ·obtain ⟨a,ea⟩:=Qv3 hd
   rw[ea] at hk⊢
   have q1:=Qr9 (c:=F.i.cls) (hk a Z3)
   cases h4:(ffL F.l F.i.name F.i.desc (Qu F.l F.i.cls)).2.static<;>cases h5:leT F.l a (Qy F.i.cls)<;>simp[Q4e,h2,h,Qrf,Qdx,q1,h4,h5,cu,ndC]
  ·obtain ⟨a,b,ea⟩:=len2 hd
   rw[ea] at hk⊢
   have q1:=Qr9 (c:=F.i.cls) (hk a Z3)
   have q2:=Qq9 (s:=F.i.desc) (hk b Z3)
   cases h4:(ffL F.l F.i.name F.i.desc (Qu F.l F.i.cls)).2.static<;>cases h5:leT F.l a (Qy F.i.cls)<;>cases h6:leT F.l b (Q3c F.i.desc)<;>simp[Q4e,h2,h,Qrf,Qdx,q1,q2,h4,h5,h6,cu,ndC]
  ·cases h4:(ffL F.l F.i.name F.i.desc (Qu F.l F.i.cls)).2.static<;>simp[Q4e,h2,h,Qrf,Qdx,h4,cu,ndC]
  ·obtain ⟨b,ea⟩:=Qv3 hd
   rw[ea] at hk⊢
   have q2:=Qq9 (s:=F.i.desc) (hk b Z3)
   cases h4:(ffL F.l F.i.name F.i.desc (Qu F.l F.i.cls)).2.static<;>cases h6:leT F.l b (Q3c F.i.desc)<;>simp[Q4e,h2,h,Qrf,Qdx,q2,h4,h6,cu,ndC]
 ·simp[Q4e,ndC,cu,h2]
end Go.Proofs
namespace Go.Proofs
open Go Go.Ev
theorem Q14n{l:List Cls}{xs:List Typ}(h: ∀t∈xs,Q16 l t=true){i:Nat}(hi:i<xs.length):Q16 l (atL xs i)=true:=by rw[Qb hi];exact h _ (List.getElem_mem hi)
theorem Q168{F:SF}{o1 o2:Bool}{st lo:List Typ}{n:Nat}(hst: ∀t∈st,Q16 F.l t=true)(hr:Q1o F.i=true)(hop:F.i.op=36∨F.i.op=37)(hn:(n:Int)=Q30 F.i)(hl:n≤st.length):
  Q4e (Q48 F o1 o2 st lo 0) (clI F (st.take (st.length-n)) lo (st.drop (st.length-n))):=by
 obtain ⟨hs1,hs2⟩:=Qbo hr Za
 obtain ⟨e1,e2,e3⟩:=Qd8 hl
 have hd:(st.drop (st.length-n)).length=n:=by rw[List.length_drop];omega
 have hk:=Qln hst (st.length-n)
 obtain ⟨tk,htk⟩: ∃t,t=st.drop (st.length-n):=⟨_,rfl⟩
 obtain ⟨s1,hs1'⟩: ∃t,t=st.take (st.length-n):=⟨_,rfl⟩
 rw[←htk] at hd hk e3⊢
 rw[←hs1'] at e2⊢
 have hN:Q3u F=n:=by
  unfold Q3u
  rw[hs2]
  rcases hop with h|h<;>(simp[Q30,tk1,tk2,h] at hn⊢;omega)
 unfold Q48 clI Qcj Q4u Q3f
 rw[hN,e1,e2,e3,hs2]
 have hx:Qvj F=(fmL F.l F.i.name F.i.desc (Qu F.l F.i.cls)).1:=rfl
 rw[hx]
 have h38: ¬F.i.op=38:=by omega
 rw[if_neg h38]
 by_cases h0:F.i.name=Qm
 ·simp[Q4e,h0,ndC,cu]
 cases h1:isKnown F.l F.i.cls
 ·simp[Q4e,h0,ndC,cu]
 by_cases h2:(fmL F.l F.i.name F.i.desc (Qu F.l F.i.cls)).1.e=0
 ·obtain ⟨_,hs⟩:=fm_e F.l F.i.name F.i.desc (Qu F.l F.i.cls) h2
  unfold Q50 Q4r
  rw[hx,hs,hs2]
  rcases hop with h|h
  ·have hp:(Q1g F.i.desc).params.length+1=n:=by simp[Q30,tk1,tk2,h] at hn;omega
   have q1:=Qr9 (c:=F.i.cls) (Q14n hk (show 0<tk.length by omega))
   have q2:=Qur (off:=1) (ps:=(Q1g F.i.desc).params) hk (Q1g F.i.desc).params.length Za
   have e37:(F.i.op=37)=False:=eq_false Za
   simp only[e37,if_false]
   rw[q2,q1]
   cases h4:(fmL F.l F.i.name F.i.desc (Qu F.l F.i.cls)).2.static<;>cases h5:leT F.l (atL tk 0) (Qy F.i.cls)<;>cases h6:Qco F.l tk 1 (Q1g F.i.desc).params (Q1g F.i.desc).params.length<;>by_cases h7:(Q1g F.i.desc).res=[86]<;>
    simp[Q4e,h0,h2,h,h4,h5,h6,h7,cu,ndC,Qn1,Qvw]
  ·have hp:(Q1g F.i.desc).params.length=n:=by simp[Q30,tk1,tk2,h] at hn;omega
   have q2:=Q13b (ps:=(Q1g F.i.desc).params) hk (Q1g F.i.desc).params.length Za
   cases h4:(fmL F.l F.i.name F.i.desc (Qu F.l F.i.cls)).2.static<;>cases h6:Qco F.l tk 0 (Q1g F.i.desc).params (Q1g F.i.desc).params.length<;>by_cases h7:(Q1g F.i.desc).res=[86]<;>
    simp[Q4e,h0,h2,h,h4,h6,h7,q2,cu,ndC,Qn1,Qvw]
 ·simp[Q4e,h0,ndC,cu,h2]
end Go.Proofs
namespace Go.Proofs
open Go Go.Ev
theorem Q14q(l:List Cls)(n d:Str): ∀xs:List Str,(fmL l n d xs).1.e=0→(n=Qm∧d=Qh7)∨ ∃i,∃h:i<l.length,∃j,∃h2:j<l[i].methods.length,l[i].methods[j].name=n∧l[i].methods[j].desc=d
 |[],h=>by simp[fmL,Qjv] at h
 |x::xs,h=>by
  simp only[fmL] at h
  by_cases h1:0≤Q1a n d (Q1u l x).methods 0
  ·rcases @Q9c n d (Q1u l x).methods 0 with ⟨h2,_⟩|⟨i,hi,h2,h3,_⟩
   ·omega
   ·have hf:0≤Qk x l 0:=by
     rcases Int.lt_or_le (Qk x l 0) 0 with h3|h3
     ·rw[Q6q Za] at hi;exact absurd hi (by simp[zC])
     ·exact h3
    obtain ⟨k,hk,_,_,e3,_⟩:=Q53 hf
    refine .inr ⟨k,hk,i,by rw[←e3];exact hi,?_⟩
    simp only[e3] at h3
    exact h3
  ·simp only[if_neg h1] at h
   by_cases h2:n=Qm
   ·simp only[if_pos h2] at h
    by_cases h3:bIn x=true∧d=Qh7
    ·exact .inl ⟨h2,h3.2⟩
    ·simp only[if_neg h3] at h;exact absurd h (by simp[Qjv])
   ·simp only[if_neg h2] at h
    exact Q14q l n d xs h
theorem Q11x{l:List Cls}(hR:Qx l=true){d:Str}{xs:List Str}(h:(fmL l Qm d xs).1.e=0):(Q1g d).res=[86]:=by
 rcases Q14q l Qm d xs h with ⟨_,rfl⟩|⟨i,hi,j,hj,h1,rfl⟩
 ·decide
 ·have hm:=Qii hR hi hj
  have hh:=Qlj hm
  by_cases ha:l[i].methods[j].abstr=true
  ·rw[Q9b hh ha,h1] at hm
   simp at hm
  ·rw[Qgw hh (by simpa using ha),h1] at hm
   simp at hm
   exact hm.2.2
theorem Q15v{F:SF}{o1 o2:Bool}{st lo:List Typ}{n:Nat}(hw:Qx F.l=true)(hsup:isKnown F.l F.c.super=true)(hst: ∀t∈st,Q16 F.l t=true)(hr:Q1o F.i=true)(h:F.i.op=38)(hn:(n:Int)=Q30 F.i)(hl:n≤st.length):
  Q4e (Q48 F o1 o2 st lo 0) (spI F (st.take (st.length-n)) lo (st.drop (st.length-n))):=by
 obtain ⟨hs1,hs2⟩:=Qbo hr Za
 obtain ⟨e1,e2,e3⟩:=Qd8 hl
 have hd:(st.drop (st.length-n)).length=n:=by rw[List.length_drop];omega
 have hk:=Qln hst (st.length-n)
 obtain ⟨tk,htk⟩: ∃t,t=st.drop (st.length-n):=⟨_,rfl⟩
 obtain ⟨s1,hs1'⟩: ∃t,t=st.take (st.length-n):=⟨_,rfl⟩
 rw[←htk] at hd hk e3⊢
 rw[←hs1'] at e2⊢
 have hp:(Q1g F.i.desc).params.length+1=n:=by simp[Q30,tk1,tk2,h] at hn;omega
 have hN:Q3u F=n:=by
  unfold Q3u
  rw[hs2]
  simp[h];omega
 have e36:(F.i.op=36)=False:=eq_false Za
 have e37:(F.i.op=37)=False:=eq_false Za
 have e38:(F.i.op=38)=True:=eq_true h
 unfold Q48 spI Qcg Q4u Q3f
 rw[hN,e1,e2,e3,hs2]
 have hx:Qvj F=(fmL F.l F.i.name F.i.desc (Qu F.l F.i.cls)).1:=rfl
 rw[hx]
 simp only[e38,if_true]
 have q2:=Qur (off:=1) (ps:=(Q1g F.i.desc).params) hk (Q1g F.i.desc).params.length Za
 rw[q2]
 by_cases h0:F.i.name=Qm
 ·simp only[h0,if_true]
  cases h1:isKnown F.l F.i.cls
  ·simp[Q4e,ndC,cu]
  by_cases h2:(fmL F.l Qm F.i.desc (Qu F.l F.i.cls)).1.e=0
  ·have hv:=Q11x hw h2
   unfold Q50 Q4r
   rw[hs2]
   simp only[e36,e37,if_false,h0,if_true]
   by_cases h7:(atL tk 0).k=7
   ·have hm:Q34 F (atL tk 0)=false:=by simp[Q34,h7]
    have hm2:Q6k F (atL tk 0)=false:=by simp[Q6k,h7]
    have ho:ownB F (atL tk 0)=Q6j F (atL tk 0):=rfl
    rw[hm,hm2,ho]
    cases h8:Q6j F (atL tk 0)<;>cases h6:Qco F.l tk 1 (Q1g F.i.desc).params (Q1g F.i.desc).params.length<;>simp[Q4e,h2,hv,cu,ndC,Qn1]
   ·have ho:ownB F (atL tk 0)=false:=by simp[ownB,h7]
    have ho2:Q6j F (atL tk 0)=false:=by simp[Q6j,h7]
    have hm:Q34 F (atL tk 0)=Q6k F (atL tk 0):=rfl
    rw[ho,ho2,hm]
    cases h8:Q6k F (atL tk 0)
    ·simp[Q4e,h2,cu,ndC,hv,Qn1]
    ·have hc:(atL tk 0).c=F.i.cls:=by simp[Q6k] at h8;exact h8.2
     cases h6:Qco F.l tk 1 (Q1g F.i.desc).params (Q1g F.i.desc).params.length<;>simp[Q4e,h2,hv,cu,ndC,Qn1,hc]
  ·simp[Q4e,ndC,cu,h2]
 ·simp only[h0,if_false]
  by_cases hcs:F.i.cls=F.c.super
  ·rw[←hcs] at hsup
   have ec:(F.i.cls=F.c.super)=True:=eq_true hcs
   rw[hsup]
   simp only[ec,decide_true,if_true]
   by_cases h2:(fmL F.l F.i.name F.i.desc (Qu F.l F.i.cls)).1.e=0
   ·obtain ⟨_,hs⟩:=fm_e F.l F.i.name F.i.desc (Qu F.l F.i.cls) h2
    unfold Q50 Q4r
    rw[hx,hs,hs2]
    simp only[e36,e37,if_false,h0]
    have q1:=Qr9 (c:=F.c.name) (Q14n hk (show 0<tk.length by omega))
    rw[q1]
    cases h4:(fmL F.l F.i.name F.i.desc (Qu F.l F.i.cls)).2.static<;>cases h9:(fmL F.l F.i.name F.i.desc (Qu F.l F.i.cls)).2.abstr<;>cases h10:F.m.static<;>cases h5:leT F.l (atL tk 0) (Qy F.c.name)<;>cases h6:Qco F.l tk 1 (Q1g F.i.desc).params (Q1g F.i.desc).params.length<;>by_cases h7:(Q1g F.i.desc).res=[86]<;>
     simp[Q4e,h2,h4,h5,h6,h7,h9,cu,ndC,Qn1,Qvw]
   ·simp[Q4e,ndC,cu,h2]
  ·simp[Q4e,ndC,cu,hcs]
end Go.Proofs
namespace Go.Proofs
open Go Go.Ev
theorem Q16a{F:SF}{o1 o2:Bool}{st lo:List Typ}{n:Nat}(hw:Qx F.l=true)(hsup:isKnown F.l F.c.super=true)(hst: ∀t∈st,Q16 F.l t=true)(hr:Q1o F.i=true)(hm:Qg F.m.desc=Q1g F.m.desc)(hi:F.m.name=Qm→0<lo.length)
  (hn:(n:Int)=Q30 F.i) (hl:n≤st.length):Q4e (Qa5 F o1 o2 st lo 0) (Q45 F (st.take (st.length-n)) lo (st.drop (st.length-n))):=by
 have ho:=Qxu hr
 unfold Qa5 Q45
 by_cases h1:8≤F.i.op∧F.i.op≤18
 ·rw[if_pos h1,if_neg Za,if_pos h1]
  have:n=2:=by
   have e1:tk1 F.i.op=false:=by simp[tk1];omega
   have e2:tk2 F.i.op=false:=by simp[tk2];omega
   unfold Q30 at hn
   rw[e1,e2,if_neg (by decide),if_neg (by decide),if_neg Za,if_neg Za,if_neg Za,if_pos h1] at hn
   omega
  subst this
  exact Q169 hst hl
 rw[if_neg h1]
 by_cases h2:26≤F.i.op∧F.i.op≤29
 ·rw[if_pos h2,if_neg Za,if_neg h1,if_neg Za,if_neg Za,if_pos h2]
  refine Q160 hst h2 ?_ hl hm hi
  rcases (by omega:F.i.op=26∨F.i.op=27∨F.i.op=28∨F.i.op=29) with h|h|h|h<;>(simp[Q30,tk1,tk2,h] at hn⊢;omega)
 rw[if_neg h2]
 by_cases h3:F.i.op=31
 ·rw[if_pos h3,if_neg Za,if_neg h1,if_neg Za,if_neg Za,if_neg h2,if_pos h3]
  have:n=0:=by simp[Q30,tk1,tk2,h3] at hn;omega
  subst this
  simp only[Nat.sub_zero,List.take_length]
  exact Q15y hw
 rw[if_neg h3]
 by_cases h4:32≤F.i.op∧F.i.op≤35
 ·rw[if_pos h4,if_neg Za,if_neg h1,if_neg Za,if_neg Za,if_neg h2,if_neg h3,if_pos h4]
  exact Q167 hw hst h4 hn hl
 rw[if_neg h4]
 by_cases h5:36≤F.i.op∧F.i.op≤38
 ·rw[if_pos h5,if_neg Za,if_neg h1,if_neg Za,if_neg Za,if_neg h2,if_neg h3,if_neg h4]
  by_cases h6:F.i.op=38
  ·rw[if_pos h6];exact Q15v hw hsup hst hr h6 hn hl
  ·rw[if_neg h6,if_pos Za];exact Q168 hst hr Za hn hl
 rw[if_neg h5]
 by_cases h6:41≤F.i.op
 ·rw[if_pos h6,if_neg Za,if_neg h1,if_neg Za,if_neg Za,if_neg h2,if_neg h3,if_neg h4,if_neg Za,if_neg Za,if_neg Za]
  exact Q15z hr ⟨h6,ho.2⟩ hn hl
 rw[if_neg h6]
 by_cases h7:F.i.op≤7∨F.i.op=30
 ·rw[if_pos h7];exact Q15w h7 ho.1 (Q14p hr) hn hl
 rw[if_neg h7,if_neg h1]
 by_cases h8:19≤F.i.op∧F.i.op≤23
 ·rw[if_pos h8];exact Q161 h8 hn hl
 rw[if_neg h8]
 by_cases h9:F.i.op=24∨F.i.op=25
 ·rw[if_pos h9];exact Q15x h9 hn hl
 rw[if_neg h9,if_neg h2,if_neg h3,if_neg h4,if_neg Za,if_neg Za,if_pos Za]
 have:n=1:=by rcases (by omega:F.i.op=39∨F.i.op=40) with h|h<;>(simp[Q30,tk1,tk2,h] at hn;omega)
 subst this
 exact Q150 Za hl
theorem k11{s:SW}{F:SF}(h:s.k=11):(Qbk F s).k=11:=by show ndC s.k _ 11=11;rw[h,Qgv]
theorem s_no{F:SF}{o1 o2:Bool}{st lo:List Typ}{n:Nat}(hr:Q1o F.i=true)(hn:(n:Int)=Q30 F.i)(hl:st.length<n):(Q8n F o1 o2 st lo 0).k=11:=by
 have ho:=Qxu hr
 refine k11 ?_
 obtain ⟨e1,_⟩:=Q15s hl true
 unfold Qa5
 by_cases h1:8≤F.i.op∧F.i.op≤18
 ·rw[if_pos h1]
  have:n=2:=by
   have e1:tk1 F.i.op=false:=by simp[tk1];omega
   have e2:tk2 F.i.op=false:=by simp[tk2];omega
   unfold Q30 at hn
   rw[e1,e2,if_neg (by decide),if_neg (by decide),if_neg Za,if_neg Za,if_neg Za,if_pos h1] at hn
   omega
  subst this
  simp[Qq2,e1,Qgv]
 rw[if_neg h1]
 by_cases h5:36≤F.i.op∧F.i.op≤38
 ·rw[if_neg Za,if_neg Za,if_neg Za,if_pos h5]
  obtain ⟨hs1,hs2⟩:=Qbo hr Za
  have hN:Q3u F=n:=by
   unfold Q3u
   rw[hs2]
   rcases (by omega:F.i.op=36∨F.i.op=37∨F.i.op=38) with h|h|h<;>(simp[Q30,tk1,tk2,h] at hn⊢;omega)
  have hk0:Q3f F 11=11:=by (unfold Q3f;repeat' split);(all_goals simp[Qgv])
  have hk:Q4u F st 0=11:=by unfold Q4u;rw[hN,e1,hk0,Qgv,Qgv]
  unfold Q48
  rw[hk,if_neg (by decide)]
 by_cases h4:32≤F.i.op∧F.i.op≤35
 ·rw[if_neg Za,if_neg Za,if_pos h4]
  have hn2:Qh4 F.i=n:=by
   unfold Qh4 Qsw Qrf
   rcases (by omega:F.i.op=32∨F.i.op=33∨F.i.op=34∨F.i.op=35) with h|h|h|h
   all_goals (simp[Q30,tk1,tk2,h] at hn⊢;omega)
  have hk:Qh5 F st 0=11:=by unfold Qh5;rw[hn2,e1,Qgv,Qgv]
  unfold fdS
  rw[hk,if_pos (by decide)]
 rw[if_neg h4,if_neg h5]
 rcases (by omega:F.i.op=1∨F.i.op=2∨F.i.op=3∨F.i.op=4∨F.i.op=5∨F.i.op=6∨F.i.op=7∨F.i.op=19∨F.i.op=20∨F.i.op=21∨F.i.op=22∨F.i.op=23∨F.i.op=24∨F.i.op=25∨F.i.op=26∨F.i.op=27∨F.i.op=28∨F.i.op=29∨F.i.op=30∨F.i.op=31∨F.i.op=39∨F.i.op=40∨F.i.op=41∨F.i.op=42∨F.i.op=43∨F.i.op=44) with h|h|h|h|h|h|h|h|h|h|h|h|h|h|h|h|h|h|h|h|h|h|h|h|h|h
 all_goals (simp[Q30,tk1,tk2,h] at hn;first|(exfalso;omega)|subst hn)
 all_goals (simp[Q2k,Qfl,Qbz,stK,lsK,h,e1,Qgv])
end Go.Proofs
namespace Go.Proofs
open Go Go.Ev
theorem Q127{F:SF}{st lo:List Typ}(hw:Qx F.l=true)(hsup:isKnown F.l F.c.super=true)(hst: ∀t∈st,Q16 F.l t=true)(hr:Q1o F.i=true)(hm:Qg F.m.desc=Q1g F.m.desc)(hi:F.m.name=Qm→0<lo.length)(htk:0≤Q30 F.i):
  Q4e (Q8n F false false st lo 0) (Qh6 F st lo):=by
 obtain ⟨n,hn⟩: ∃n:Nat,(n:Int)=Q30 F.i:=⟨(Q30 F.i).toNat,by omega⟩
 unfold Qh6
 rw[←hn]
 by_cases hl:st.length<n
 ·rw[if_pos Za]
  exact ⟨s_no hr hn hl,fun e=>absurd e Z3⟩
 ·rw[if_neg Za,show ((st.length:Int)-(n:Int)).toNat=st.length-n by omega]
  exact Q116 (Q16a hw hsup hst hr hm hi hn Za)
theorem Q13n(l:List Cls)(c m a:Int)(f:Frm)(hs:Q1r l≤1048576):Qdf l c m a f=Qc3 l c m a f:=by
 unfold Qdf Qc3
 by_cases h4:400<l.length
 ·rw[if_pos h4,if_pos h4]
 rw[if_neg h4,if_neg h4,Qrm]
 by_cases hF:Qc2 l c m a f=true
 ·rw[if_pos hF,if_pos hF]
  have hC:=hF
  rw[←Qrm] at hC
  obtain ⟨_,_,_,_,_,_,_,_,_,_,_,htk,hr⟩:=Qp2 hs hC
  have hst: ∀t∈f.stack,Q16 l t=true:=by
   simp only[Qc2,Bool.and_eq_true,Q8u,Qev,List.all_eq_true] at hF
   exact hF.1.2.2.2.1
  have key:Q4e (Q8n (Q7i l c m a) false false f.stack f.locals 0) (Qh6 (Q7i l c m a) f.stack f.locals):=by
   rcases Qh0 l c m a f hs with h0|⟨i,j,n,rfl,rfl,rfl,_,p1,p2,p3,hP,hsf⟩
   ·rw[h0] at hF;cases hF
   ·have hm:=Q10a (Qlj (Qii hP.1 p1 p2))
    have h2:=(Qbm hP.1).2.1 i p1
    have hsup:isKnown l l[i].super=true:=by
     simp only[Q9x,Qb p1] at h2
     split at h2
     ·assumption
     ·cases h2
    rw[hsf] at htk hr⊢
    exact Q127 hP.1 hsup hst hr hm.2 hP.2.2.2.2.2.2 htk
  obtain ⟨k1,k2⟩:=key
  unfold efT frOf
  rw[k1]
  by_cases hk:(Qh6 (Q7i l c m a) f.stack f.locals).k=0
  ·obtain ⟨g1,g2⟩:=k2 hk
   rw[if_pos hk,if_pos hk,g1,g2]
  ·rw[if_neg hk,if_neg hk]
 ·rw[if_neg hF,if_neg hF]
theorem Q16k{c:Prop}[Decidable c]{x y:FrO}{n:Nat}(hx:x.f.stack.length≤n∧x.f.locals.length≤n)(hy:y.f.stack.length≤n∧y.f.locals.length≤n):(if c then x else y).f.stack.length≤n∧(if c then x else y).f.locals.length≤n:=by
 by_cases h:c
 ·rw[if_pos h];exact hx
 ·rw[if_neg h];exact hy
theorem Qrl(l:List Cls)(c m a:Int)(f:Frm):(Qc3 l c m a f).f.stack.length≤1048576∧(Qc3 l c m a f).f.locals.length≤1048576:=by
 unfold Qc3
 by_cases h4:400<l.length
 ·rw[if_pos h4];simp[zFo]
 rw[if_neg h4]
 by_cases hF:Qc2 l c m a f=true
 ·rw[if_pos hF]
  have hl:f.stack.length≤16∧f.locals.length≤16:=by
   simp only[Qc2,Bool.and_eq_true,Q8u,Qev,decide_eq_true_eq] at hF
   exact ⟨hF.1.2.1,hF.1.2.2.1⟩
  have:=Qwq (Q7i l c m a) false false f.stack f.locals 0
  unfold efT frOf
  refine Q16k ⟨?_,?_⟩ (by simp[zFo])
  ·show (Q8n _ _ _ _ _ _).st.length≤_;omega
  ·show (Q8n _ _ _ _ _ _).lo.length≤_;omega
 ·rw[if_neg hF];simp[zFo]
@[simp] theorem nn3f {a b c:Nat}:(0≤1+(a:Int)+3*(b:Int)+3*(c:Int))=True:=by simp;omega
theorem Qy7(l:List Cls)(c m a:Int)(f:Frm):Q12g (Qc3 l c m a f):=by
 have:=Qrl l c m a f
 exact ⟨by omega,by omega⟩
end Go.Proofs
namespace Go.Proofs
open Go Go.Ev
theorem Qpv:Q6 Tryz.prog 164:=jcb Tryz.func164
theorem Qpj{x:Fld}{z:Int}(h:bigF x)(h0:0≤z)(h1:z≤1099511627776):Ct Tryz.prog 164 [eF x,.int .i64 z] [] (.int .i64 (sub z (Q89 x))) []:=by
 simp only[bigF] at h
 obtain ⟨g0,g1⟩:=h
 refine jbS Tryz.func164 20 fun X hX=> ?_
 refine jq [1,2] ?_
 refine Q0 [1,2] (jh hX Z6) ?_
 refine Q5 (jq [1,2,11] ?_)
 refine jd (fun h2=> ?_) (fun h2=> ?_)
 ·try simp at h2
  refine jq [4] ?_
  refine Q4 (je Zy ?_)
  simp[sub,Q89] at*;omega
 ·try simp at h2
  refine Q3 (Q0 [1] (jh hX (by simp[h2];(try (simp (disch:=omega) only[Q7];(try simp[h2])));rfl)) ?_)
  refine Q5 (jq [1,18] ?_)
  refine jd (fun h5=> ?_) (fun h5=> ?_)
  ·try simp at h5
   refine jq [4] ?_
   refine Q4 (je (by simp[h2,h5];rfl) ?_)
   simp[sub,Q89] at*;omega
  ·try simp at h5
   refine Q3 (jq [4] ?_)
   refine Q4 (je (by simp[h2,h5];rfl) ?_)
   simp[sub,Q89] at*;omega
end Go.Proofs
namespace Go.Proofs
open Go Go.Ev
theorem Qoa:Q6 Tryz.prog 104:=jcb Tryz.func104
theorem Qnl{l:List Fld}{z:Int}(h:l.length<4611686018427387904)(hb: ∀y∈l,bigF y)(h0:0≤z)(h1:z≤1099511627776):Ct Tryz.prog 104 [.lst false 3 (l.map eF),.int .i64 z] [] (.int .i64 (sub z (l.length+(l.map Q89).sum))) []:=by
 refine jbS Tryz.func104 27 fun X hX=> ?_
 refine jq [0,1] ?_
 refine Q0 [0,1] (jh hX Z6) ?_
 refine Q5 (jq [0,1,11] ?_)
 refine jd (fun h2=> ?_) (fun h2=> ?_)
 ·try simp at h2
  refine jq [4] ?_
  refine Q4 (je Zy ?_)
  grind [sub]
 ·try simp at h2
  refine Q3 (Q5 (jq [0,1,5] ?_))
  refine Q9 (Qo (α:=Nat×Int) [0,1,5] (fun p=>[(1,.int .i64 p.2),(5,.int .i64 p.1)]) (fun p=>[]) (fun p=>p.1≤l.length∧0≤p.2∧p.2≤1099511627776∧sub p.2 ((l.drop p.1).map Q89).sum=sub z (l.length+(l.map Q89).sum)) (fun p=>l.length-p.1) ((0,z-l.length)) (fun p=>by simp;rfl) Z3 ?_ ?_)
  ·exact ⟨by simp,by simp;omega,by simp;omega,by simp[sub];grind⟩
  rintro ⟨i,y⟩ ⟨hi,hy0,hy1,hI⟩
  simp only at hi hy0 hy1 hI
  refine Q5 (Q0 [0,1,5,15] (jh hX Zy) ?_)
  refine jd (fun h5=> ?_) (fun h5=> ?_)
  ·try simp at h5
   rw[List.drop_eq_getElem_cons h5] at hI
   simp only[List.map_cons,List.sum_cons] at hI
   refine Q3 (Q5 (Q9 (Q0 [0,1,5] (js hX 5 (by simp[h2,h5];rfl) (jc [] (c:=(by apply Qpj<;>first|assumption|omega|exact hb _ (List.getElem_mem _))) (a:=Qpv) (k:=jr))) ?_)))
   refine jq [0,1,5,25] ?_
   refine jd (fun h8=> ?_) (fun h8=> ?_)
   ·try simp at h8
    refine jq [4] ?_
    refine Q4 (je (by simp[h2,h5,h8];rfl) ?_)
    grind [sub]
   ·try simp at h8
    refine Q3 (Qd (jh hX Z6) ?_)
    refine Qp ((i+1,sub y (Q89 l[i]))) [0,1,5] (by simp[h2,h5,h8];try (simp (disch:=omega) only[Q7])) ?_ ?_
    ·exact ⟨by simp;omega,by simp;grind [sub],by simp;grind [sub],by grind [sub]⟩
    ·simp;omega
  ·try simp at h5
   refine Qr (jq [4] ?_)
   refine Q4 (je (by simp[h2,h5];rfl) ?_)
   grind [sub]
end Go.Proofs
namespace Go.Proofs
open Go Go.Ev
theorem Qt6:Q6 Tryz.prog 296:=jcb Tryz.func296
theorem Qt0{x:Ins}{z:Int}(h:bigI x)(h0:0≤z)(h1:z≤1099511627776):Ct Tryz.prog 296 [eI x,.int .i64 z] [] (.int .i64 (sub z (Q5x x))) []:=by
 simp only[bigI] at h
 obtain ⟨g0,g1,g2⟩:=h
 refine jbS Tryz.func296 27 fun X hX=> ?_
 refine jq [1,2] ?_
 refine Q0 [1,2] (jh hX Z6) ?_
 refine Q5 (jq [1,2,11] ?_)
 refine jd (fun h2=> ?_) (fun h2=> ?_)
 ·try simp at h2
  refine jq [4] ?_
  refine Q4 (je Zy ?_)
  simp[sub,Q5x] at*;omega
 ·try simp at h2
  refine Q3 (Q0 [1,2] (jh hX (by simp[h2];(try (simp (disch:=omega) only[Q7];(try simp[h2])));rfl)) ?_)
  refine Q5 (jq [1,2,18] ?_)
  refine jd (fun h5=> ?_) (fun h5=> ?_)
  ·try simp at h5
   refine jq [4] ?_
   refine Q4 (je (by simp[h2,h5];rfl) ?_)
   simp[sub,Q5x] at*;omega
  ·try simp at h5
   refine Q3 (Q0 [1] (jh hX (by simp[h2,h5];(try (simp (disch:=omega) only[Q7];(try simp[h2,h5])));rfl)) ?_)
   refine Q5 (jq [1,25] ?_)
   refine jd (fun h8=> ?_) (fun h8=> ?_)
   ·try simp at h8
    refine jq [4] ?_
    refine Q4 (je (by simp[h2,h5,h8];rfl) ?_)
    simp[sub,Q5x] at*;omega
   ·try simp at h8
    refine Q3 (jq [4] ?_)
    refine Q4 (je (by simp[h2,h5,h8];rfl) ?_)
    simp[sub,Q5x] at*;omega
end Go.Proofs
namespace Go.Proofs
open Go Go.Ev
theorem Qse:Q6 Tryz.prog 234:=jcb Tryz.func234
theorem Qrz{l:List Ins}{z:Int}(h:l.length<4611686018427387904)(hb: ∀y∈l,bigI y)(h0:0≤z)(h1:z≤1099511627776):Ct Tryz.prog 234 [.lst false 5 (l.map eI),.int .i64 z] [] (.int .i64 (sub z (l.length+(l.map Q5x).sum))) []:=by
 refine jbS Tryz.func234 27 fun X hX=> ?_
 refine jq [0,1] ?_
 refine Q0 [0,1] (jh hX Z6) ?_
 refine Q5 (jq [0,1,11] ?_)
 refine jd (fun h2=> ?_) (fun h2=> ?_)
 ·try simp at h2
  refine jq [4] ?_
  refine Q4 (je Zy ?_)
  grind [sub]
 ·try simp at h2
  refine Q3 (Q5 (jq [0,1,5] ?_))
  refine Q9 (Qo (α:=Nat×Int) [0,1,5] (fun p=>[(1,.int .i64 p.2),(5,.int .i64 p.1)]) (fun p=>[]) (fun p=>p.1≤l.length∧0≤p.2∧p.2≤1099511627776∧sub p.2 ((l.drop p.1).map Q5x).sum=sub z (l.length+(l.map Q5x).sum)) (fun p=>l.length-p.1) ((0,z-l.length)) (fun p=>by simp;rfl) Z3 ?_ ?_)
  ·exact ⟨by simp,by simp;omega,by simp;omega,by simp[sub];grind⟩
  rintro ⟨i,y⟩ ⟨hi,hy0,hy1,hI⟩
  simp only at hi hy0 hy1 hI
  refine Q5 (Q0 [0,1,5,15] (jh hX Zy) ?_)
  refine jd (fun h5=> ?_) (fun h5=> ?_)
  ·try simp at h5
   rw[List.drop_eq_getElem_cons h5] at hI
   simp only[List.map_cons,List.sum_cons] at hI
   refine Q3 (Q5 (Q9 (Q0 [0,1,5] (js hX 5 (by simp[h2,h5];rfl) (jc [] (c:=(by apply Qt0<;>first|assumption|omega|exact hb _ (List.getElem_mem _))) (a:=Qt6) (k:=jr))) ?_)))
   refine jq [0,1,5,25] ?_
   refine jd (fun h8=> ?_) (fun h8=> ?_)
   ·try simp at h8
    refine jq [4] ?_
    refine Q4 (je (by simp[h2,h5,h8];rfl) ?_)
    grind [sub]
   ·try simp at h8
    refine Q3 (Qd (jh hX Z6) ?_)
    refine Qp ((i+1,sub y (Q5x l[i]))) [0,1,5] (by simp[h2,h5,h8];try (simp (disch:=omega) only[Q7])) ?_ ?_
    ·exact ⟨by simp;omega,by simp;grind [sub],by simp;grind [sub],by grind [sub]⟩
    ·simp;omega
  ·try simp at h5
   refine Qr (jq [4] ?_)
   refine Q4 (je (by simp[h2,h5];rfl) ?_)
   grind [sub]
end Go.Proofs
namespace Go.Proofs
open Go Go.Ev
theorem Qmi:Q6 Tryz.prog 297:=jcb Tryz.func297
theorem Qly{x:Hdl}{z:Int}(h:bigH x)(h0:0≤z)(h1:z≤1099511627776):Ct Tryz.prog 297 [eH x,.int .i64 z] [] (.int .i64 (sub z (Qff x))) []:=by
 simp only[bigH] at h
 refine jbS Tryz.func297 13 fun X hX=> ?_
 refine jq [1,2] ?_
 refine Q0 [1] (jh hX Z6) ?_
 refine Q5 (jq [1,11] ?_)
 refine jd (fun h2=> ?_) (fun h2=> ?_)
 ·try simp at h2
  refine jq [4] ?_
  refine Q4 (je Zy ?_)
  simp[sub,Qff] at*;omega
 ·try simp at h2
  refine Q3 (jq [4] ?_)
  refine Q4 (je Zy ?_)
  simp[sub,Qff] at*;omega
end Go.Proofs
namespace Go.Proofs
open Go Go.Ev
theorem Qkp:Q6 Tryz.prog 235:=jcb Tryz.func235
theorem Qk6{l:List Hdl}{z:Int}(h:l.length<4611686018427387904)(hb: ∀y∈l,bigH y)(h0:0≤z)(h1:z≤1099511627776):Ct Tryz.prog 235 [.lst false 4 (l.map eH),.int .i64 z] [] (.int .i64 (sub z (l.length+(l.map Qff).sum))) []:=by
 refine jbS Tryz.func235 27 fun X hX=> ?_
 refine jq [0,1] ?_
 refine Q0 [0,1] (jh hX Z6) ?_
 refine Q5 (jq [0,1,11] ?_)
 refine jd (fun h2=> ?_) (fun h2=> ?_)
 ·try simp at h2
  refine jq [4] ?_
  refine Q4 (je Zy ?_)
  grind [sub]
 ·try simp at h2
  refine Q3 (Q5 (jq [0,1,5] ?_))
  refine Q9 (Qo (α:=Nat×Int) [0,1,5] (fun p=>[(1,.int .i64 p.2),(5,.int .i64 p.1)]) (fun p=>[]) (fun p=>p.1≤l.length∧0≤p.2∧p.2≤1099511627776∧sub p.2 ((l.drop p.1).map Qff).sum=sub z (l.length+(l.map Qff).sum)) (fun p=>l.length-p.1) ((0,z-l.length)) (fun p=>by simp;rfl) Z3 ?_ ?_)
  ·exact ⟨by simp,by simp;omega,by simp;omega,by simp[sub];grind⟩
  rintro ⟨i,y⟩ ⟨hi,hy0,hy1,hI⟩
  simp only at hi hy0 hy1 hI
  refine Q5 (Q0 [0,1,5,15] (jh hX Zy) ?_)
  refine jd (fun h5=> ?_) (fun h5=> ?_)
  ·try simp at h5
   rw[List.drop_eq_getElem_cons h5] at hI
   simp only[List.map_cons,List.sum_cons] at hI
   refine Q3 (Q5 (Q9 (Q0 [0,1,5] (js hX 5 (by simp[h2,h5];rfl) (jc [] (c:=(by apply Qly<;>first|assumption|omega|exact hb _ (List.getElem_mem _))) (a:=Qmi) (k:=jr))) ?_)))
   refine jq [0,1,5,25] ?_
   refine jd (fun h8=> ?_) (fun h8=> ?_)
   ·try simp at h8
    refine jq [4] ?_
    refine Q4 (je (by simp[h2,h5,h8];rfl) ?_)
    grind [sub]
   ·try simp at h8
    refine Q3 (Qd (jh hX Z6) ?_)
    refine Qp ((i+1,sub y (Qff l[i]))) [0,1,5] (by simp[h2,h5,h8];try (simp (disch:=omega) only[Q7])) ?_ ?_
    ·exact ⟨by simp;omega,by simp;grind [sub],by simp;grind [sub],by grind [sub]⟩
    ·simp;omega
  ·try simp at h5
   refine Qr (jq [4] ?_)
   refine Q4 (je (by simp[h2,h5];rfl) ?_)
   grind [sub]
end Go.Proofs
namespace Go.Proofs
open Go Go.Ev
theorem Qo9:Q6 Tryz.prog 165:=jcb Tryz.func165
theorem Qnk{x:Mth}{z:Int}(h:Qsk x)(h0:0≤z)(h1:z≤1099511627776):Ct Tryz.prog 165 [eM x,.int .i64 z] [] (.int .i64 (sub z (Q3t x))) []:=by
 simp only[Qsk] at h
 obtain ⟨g0,g1,g2,g3,g4,g5⟩:=h
 refine jbS Tryz.func165 32 fun X hX=> ?_
 refine jq [1,2] ?_
 refine Q0 [1,2] (jh hX Z6) ?_
 refine Q5 (jq [1,2,11] ?_)
 refine jd (fun h2=> ?_) (fun h2=> ?_)
 ·try simp at h2
  refine jq [4] ?_
  refine Q4 (je Zy ?_)
  grind [sub,Q3t]
 ·try simp at h2
  refine Q3 (Q0 [1,2] (jh hX (by simp[h2];(try (simp (disch:=omega) only[Q7];(try simp[h2])));rfl)) ?_)
  refine Q5 (jq [1,2,18] ?_)
  refine jd (fun h5=> ?_) (fun h5=> ?_)
  ·try simp at h5
   refine jq [4] ?_
   refine Q4 (je (by simp[h2,h5];rfl) ?_)
   grind [sub,Q3t]
  ·try simp at h5
   refine Q3 (Q0 [1,2] (js hX 3 (by simp[h2,h5];rfl) (jc [] (c:=(by apply Qrz<;>first|assumption|omega|grind [sub])) (a:=Qse) (k:=jr))) ?_)
   refine Q5 (jq [1,2,24] ?_)
   refine jd (fun h8=> ?_) (fun h8=> ?_)
   ·try simp at h8
    refine jq [4] ?_
    refine Q4 (je (by simp[h2,h5,h8];rfl) ?_)
    grind [sub,Q3t]
   ·try simp at h8
    refine Q3 (Q0 [1] (js hX 3 (by simp[h2,h5,h8];rfl) (jc [] (c:=(by apply Qk6<;>first|assumption|omega|grind [sub])) (a:=Qkp) (k:=jr))) ?_)
    refine Q5 (jq [1,30] ?_)
    refine jd (fun h11=> ?_) (fun h11=> ?_)
    ·try simp at h11
     refine jq [4] ?_
     refine Q4 (je (by simp[h2,h5,h8,h11];rfl) ?_)
     grind [sub,Q3t]
    ·try simp at h11
     refine Q3 (jq [4] ?_)
     refine Q4 (je (by simp[h2,h5,h8,h11];rfl) ?_)
     grind [sub,Q3t]
end Go.Proofs
namespace Go.Proofs
open Go Go.Ev
theorem Qmh:Q6 Tryz.prog 105:=jcb Tryz.func105
theorem Qlx{l:List Mth}{z:Int}(h:l.length<4611686018427387904)(hb: ∀y∈l,Qsk y)(h0:0≤z)(h1:z≤1099511627776):Ct Tryz.prog 105 [.lst false 9 (l.map eM),.int .i64 z] [] (.int .i64 (sub z (l.length+(l.map Q3t).sum))) []:=by
 refine jbS Tryz.func105 27 fun X hX=> ?_
 refine jq [0,1] ?_
 refine Q0 [0,1] (jh hX Z6) ?_
 refine Q5 (jq [0,1,11] ?_)
 refine jd (fun h2=> ?_) (fun h2=> ?_)
 ·try simp at h2
  refine jq [4] ?_
  refine Q4 (je Zy ?_)
  grind [sub]
 ·try simp at h2
  refine Q3 (Q5 (jq [0,1,5] ?_))
  refine Q9 (Qo (α:=Nat×Int) [0,1,5] (fun p=>[(1,.int .i64 p.2),(5,.int .i64 p.1)]) (fun p=>[]) (fun p=>p.1≤l.length∧0≤p.2∧p.2≤1099511627776∧sub p.2 ((l.drop p.1).map Q3t).sum=sub z (l.length+(l.map Q3t).sum)) (fun p=>l.length-p.1) ((0,z-l.length)) (fun p=>by simp;rfl) Z3 ?_ ?_)
  ·exact ⟨by simp,by simp;omega,by simp;omega,by simp[sub];grind⟩
  rintro ⟨i,y⟩ ⟨hi,hy0,hy1,hI⟩
  simp only at hi hy0 hy1 hI
  refine Q5 (Q0 [0,1,5,15] (jh hX Zy) ?_)
  refine jd (fun h5=> ?_) (fun h5=> ?_)
  ·try simp at h5
   rw[List.drop_eq_getElem_cons h5] at hI
   simp only[List.map_cons,List.sum_cons] at hI
   refine Q3 (Q5 (Q9 (Q0 [0,1,5] (js hX 5 (by simp[h2,h5];rfl) (jc [] (c:=(by apply Qnk<;>first|assumption|omega|exact hb _ (List.getElem_mem _))) (a:=Qo9) (k:=jr))) ?_)))
   refine jq [0,1,5,25] ?_
   refine jd (fun h8=> ?_) (fun h8=> ?_)
   ·try simp at h8
    refine jq [4] ?_
    refine Q4 (je (by simp[h2,h5,h8];rfl) ?_)
    grind [sub]
   ·try simp at h8
    refine Q3 (Qd (jh hX Z6) ?_)
    refine Qp ((i+1,sub y (Q3t l[i]))) [0,1,5] (by simp[h2,h5,h8];try (simp (disch:=omega) only[Q7])) ?_ ?_
    ·exact ⟨by simp;omega,by simp;grind [sub],by simp;grind [sub],by grind [sub]⟩
    ·simp;omega
  ·try simp at h5
   refine Qr (jq [4] ?_)
   refine Q4 (je (by simp[h2,h5];rfl) ?_)
   grind [sub]
end Go.Proofs
namespace Go.Proofs
open Go Go.Ev
theorem Qpw:Q6 Tryz.prog 52:=jcb Tryz.func52
theorem Qpk{x:Cls}{z:Int}(h:Qq1 x)(h0:0≤z)(h1:z≤1099511627776):Ct Tryz.prog 52 [eC x,.int .i64 z] [] (.int .i64 (sub z (Q1n x))) []:=by
 simp only[Qq1] at h
 obtain ⟨g0,g1,g2,g3,g4,g5⟩:=h
 refine jbS Tryz.func52 32 fun X hX=> ?_
 refine jq [1,2] ?_
 refine Q0 [1,2] (jh hX Z6) ?_
 refine Q5 (jq [1,2,11] ?_)
 refine jd (fun h2=> ?_) (fun h2=> ?_)
 ·try simp at h2
  refine jq [4] ?_
  refine Q4 (je Zy ?_)
  grind [sub,Q1n]
 ·try simp at h2
  refine Q3 (Q0 [1,2] (jh hX (by simp[h2];(try (simp (disch:=omega) only[Q7];(try simp[h2])));rfl)) ?_)
  refine Q5 (jq [1,2,18] ?_)
  refine jd (fun h5=> ?_) (fun h5=> ?_)
  ·try simp at h5
   refine jq [4] ?_
   refine Q4 (je (by simp[h2,h5];rfl) ?_)
   grind [sub,Q1n]
  ·try simp at h5
   refine Q3 (Q0 [1,2] (js hX 3 (by simp[h2,h5];rfl) (jc [] (c:=(by apply Qnl<;>first|assumption|omega|grind [sub])) (a:=Qoa) (k:=jr))) ?_)
   refine Q5 (jq [1,2,24] ?_)
   refine jd (fun h8=> ?_) (fun h8=> ?_)
   ·try simp at h8
    refine jq [4] ?_
    refine Q4 (je (by simp[h2,h5,h8];rfl) ?_)
    grind [sub,Q1n]
   ·try simp at h8
    refine Q3 (Q0 [1] (js hX 3 (by simp[h2,h5,h8];rfl) (jc [] (c:=(by apply Qlx<;>first|assumption|omega|grind [sub])) (a:=Qmh) (k:=jr))) ?_)
    refine Q5 (jq [1,30] ?_)
    refine jd (fun h11=> ?_) (fun h11=> ?_)
    ·try simp at h11
     refine jq [4] ?_
     refine Q4 (je (by simp[h2,h5,h8,h11];rfl) ?_)
     grind [sub,Q1n]
    ·try simp at h11
     refine Q3 (jq [4] ?_)
     refine Q4 (je (by simp[h2,h5,h8,h11];rfl) ?_)
     grind [sub,Q1n]
end Go.Proofs
namespace Go.Proofs
open Go Go.Ev
theorem Qob:Q6 Tryz.prog 10:=jcb Tryz.func10
theorem Qnm{l:List Cls}{z:Int}(h:l.length<4611686018427387904)(hb: ∀y∈l,Qq1 y)(h0:0≤z)(h1:z≤1099511627776):Ct Tryz.prog 10 [.lst false 6 (l.map eC),.int .i64 z] [] (.int .i64 (sub z (l.length+(l.map Q1n).sum))) []:=by
 refine jbS Tryz.func10 27 fun X hX=> ?_
 refine jq [0,1] ?_
 refine Q0 [0,1] (jh hX Z6) ?_
 refine Q5 (jq [0,1,11] ?_)
 refine jd (fun h2=> ?_) (fun h2=> ?_)
 ·try simp at h2
  refine jq [4] ?_
  refine Q4 (je Zy ?_)
  grind [sub]
 ·try simp at h2
  refine Q3 (Q5 (jq [0,1,5] ?_))
  refine Q9 (Qo (α:=Nat×Int) [0,1,5] (fun p=>[(1,.int .i64 p.2),(5,.int .i64 p.1)]) (fun p=>[]) (fun p=>p.1≤l.length∧0≤p.2∧p.2≤1099511627776∧sub p.2 ((l.drop p.1).map Q1n).sum=sub z (l.length+(l.map Q1n).sum)) (fun p=>l.length-p.1) ((0,z-l.length)) (fun p=>by simp;rfl) Z3 ?_ ?_)
  ·exact ⟨by simp,by simp;omega,by simp;omega,by simp[sub];grind⟩
  rintro ⟨i,y⟩ ⟨hi,hy0,hy1,hI⟩
  simp only at hi hy0 hy1 hI
  refine Q5 (Q0 [0,1,5,15] (jh hX Zy) ?_)
  refine jd (fun h5=> ?_) (fun h5=> ?_)
  ·try simp at h5
   rw[List.drop_eq_getElem_cons h5] at hI
   simp only[List.map_cons,List.sum_cons] at hI
   refine Q3 (Q5 (Q9 (Q0 [0,1,5] (js hX 5 (by simp[h2,h5];rfl) (jc [] (c:=(by apply Qpk<;>first|assumption|omega|exact hb _ (List.getElem_mem _))) (a:=Qpw) (k:=jr))) ?_)))
   refine jq [0,1,5,25] ?_
   refine jd (fun h8=> ?_) (fun h8=> ?_)
   ·try simp at h8
    refine jq [4] ?_
    refine Q4 (je (by simp[h2,h5,h8];rfl) ?_)
    grind [sub]
   ·try simp at h8
    refine Q3 (Qd (jh hX Z6) ?_)
    refine Qp ((i+1,sub y (Q1n l[i]))) [0,1,5] (by simp[h2,h5,h8];try (simp (disch:=omega) only[Q7])) ?_ ?_
    ·exact ⟨by simp;omega,by simp;grind [sub],by simp;grind [sub],by grind [sub]⟩
    ·simp;omega
  ·try simp at h5
   refine Qr (jq [4] ?_)
   refine Q4 (je (by simp[h2,h5];rfl) ?_)
   grind [sub]
end Go.Proofs
namespace Go.Proofs
open Go Go.Ev
theorem Qsd:Q6 Tryz.prog 106:=jcb Tryz.func106
theorem Qry{x:Typ}{z:Int}(h:Qy6 x)(h0:0≤z)(h1:z≤1099511627776):Ct Tryz.prog 106 [eT x,.int .i64 z] [] (.int .i64 (sub z (Qla x))) []:=by
 simp only[Qy6] at h
 refine jbS Tryz.func106 13 fun X hX=> ?_
 refine jq [1,2] ?_
 refine Q0 [1] (jh hX Z6) ?_
 refine Q5 (jq [1,11] ?_)
 refine jd (fun h2=> ?_) (fun h2=> ?_)
 ·try simp at h2
  refine jq [4] ?_
  refine Q4 (je Zy ?_)
  simp[sub,Qla] at*;omega
 ·try simp at h2
  refine Q3 (jq [4] ?_)
  refine Q4 (je Zy ?_)
  simp[sub,Qla] at*;omega
end Go.Proofs
namespace Go.Proofs
open Go Go.Ev
theorem Qfj:Q6 Tryz.prog 53:=jcb Tryz.func53
theorem Qfh{l:List Typ}{z:Int}(h:l.length<4611686018427387904)(hb: ∀y∈l,Qy6 y)(h0:0≤z)(h1:z≤1099511627776):Ct Tryz.prog 53 [.lst false 3 (l.map eT),.int .i64 z] [] (.int .i64 (sub z (l.length+(l.map Qla).sum))) []:=by
 refine jbS Tryz.func53 27 fun X hX=> ?_
 refine jq [0,1] ?_
 refine Q0 [0,1] (jh hX Z6) ?_
 refine Q5 (jq [0,1,11] ?_)
 refine jd (fun h2=> ?_) (fun h2=> ?_)
 ·try simp at h2
  refine jq [4] ?_
  refine Q4 (je Zy ?_)
  grind [sub]
 ·try simp at h2
  refine Q3 (Q5 (jq [0,1,5] ?_))
  refine Q9 (Qo (α:=Nat×Int) [0,1,5] (fun p=>[(1,.int .i64 p.2),(5,.int .i64 p.1)]) (fun p=>[]) (fun p=>p.1≤l.length∧0≤p.2∧p.2≤1099511627776∧sub p.2 ((l.drop p.1).map Qla).sum=sub z (l.length+(l.map Qla).sum)) (fun p=>l.length-p.1) ((0,z-l.length)) (fun p=>by simp;rfl) Z3 ?_ ?_)
  ·exact ⟨by simp,by simp;omega,by simp;omega,by simp[sub];grind⟩
  rintro ⟨i,y⟩ ⟨hi,hy0,hy1,hI⟩
  simp only at hi hy0 hy1 hI
  refine Q5 (Q0 [0,1,5,15] (jh hX Zy) ?_)
  refine jd (fun h5=> ?_) (fun h5=> ?_)
  ·try simp at h5
   rw[List.drop_eq_getElem_cons h5] at hI
   simp only[List.map_cons,List.sum_cons] at hI
   refine Q3 (Q5 (Q9 (Q0 [0,1,5] (js hX 5 (by simp[h2,h5];rfl) (jc [] (c:=(by apply Qry<;>first|assumption|omega|exact hb _ (List.getElem_mem _))) (a:=Qsd) (k:=jr))) ?_)))
   refine jq [0,1,5,25] ?_
   refine jd (fun h8=> ?_) (fun h8=> ?_)
   ·try simp at h8
    refine jq [4] ?_
    refine Q4 (je (by simp[h2,h5,h8];rfl) ?_)
    grind [sub]
   ·try simp at h8
    refine Q3 (Qd (jh hX Z6) ?_)
    refine Qp ((i+1,sub y (Qla l[i]))) [0,1,5] (by simp[h2,h5,h8];try (simp (disch:=omega) only[Q7])) ?_ ?_
    ·exact ⟨by simp;omega,by simp;grind [sub],by simp;grind [sub],by grind [sub]⟩
    ·simp;omega
  ·try simp at h5
   refine Qr (jq [4] ?_)
   refine Q4 (je (by simp[h2,h5];rfl) ?_)
   grind [sub]
end Go.Proofs
namespace Go.Proofs
open Go Go.Ev
theorem Qpu:Q6 Tryz.prog 11:=jcb Tryz.func11
theorem Qpi{x:Frm}{z:Int}(h:Qmt x)(h0:0≤z)(h1:z≤1099511627776):Ct Tryz.prog 11 [eFr x,.int .i64 z] [] (.int .i64 (sub z (Qjt x))) []:=by
 simp only[Qmt] at h
 obtain ⟨g0,g1,g2,g3⟩:=h
 refine jbS Tryz.func11 18 fun X hX=> ?_
 refine jq [1,2] ?_
 refine Q0 [1,2] (jt 3 (k:=(jc [] (c:=(by apply Qfh<;>first|assumption|omega|grind [sub])) (a:=Qfj) (k:=jr)))) ?_
 refine Q5 (jq [1,2,10] ?_)
 refine jd (fun h2=> ?_) (fun h2=> ?_)
 ·try simp at h2
  refine jq [4] ?_
  refine Q4 (je Zy ?_)
  grind [sub,Qjt]
 ·try simp at h2
  refine Q3 (Q0 [1] (js hX 3 Zy (jc [] (c:=(by apply Qfh<;>first|assumption|omega|grind [sub])) (a:=Qfj) (k:=jr))) ?_)
  refine Q5 (jq [1,16] ?_)
  refine jd (fun h5=> ?_) (fun h5=> ?_)
  ·try simp at h5
   refine jq [4] ?_
   refine Q4 (je (by simp[h2,h5];rfl) ?_)
   grind [sub,Qjt]
  ·try simp at h5
   refine Q3 (jq [4] ?_)
   refine Q4 (je (by simp[h2,h5];rfl) ?_)
   grind [sub,Qjt]
end Go.Proofs
namespace Go.Proofs
open Go Go.Ev
theorem Qo0:Q6 Tryz.prog 89:=jcb Tryz.func89
theorem Qnb{l:List Cls}{c m:Int}(hl:l.length≤1099511627776):Ct Tryz.prog 89 [.lst false 6 (l.map eC),.int .i64 c,.int .i64 m] [] (.bool (Q4l l c m)) []:=by
 rcases Q8q l c m with ⟨p1,p2,hT⟩|⟨i,rfl,p1,p2,hT⟩|⟨i,rfl,p1,p2,hT⟩|⟨i,j,rfl,rfl,p1,p2,hT⟩|⟨i,j,rfl,rfl,p1,p2,hT⟩
 all_goals
  refine jbS Tryz.func89 29 fun X hX=> ?_
  refine Q0 [0,1,2] (jh hX (by simp[p1,p2,hT];rfl)) ?_
  first|(refine Q0 [6] (jh hX (by simp[p1,p2,hT];rfl)) ?_)|(refine Q0 [6] (jh hX (by simp[p1,p2,hT];rfl)) ?_)|(refine Q0 [6] (jh hX (by simp[p1,p2,hT];rfl)) ?_)|(refine Q0 [6] (jh hX (by simp[p1,p2,hT];rfl)) ?_)
  refine Q4 (je (by simp[p1,p2,hT];rfl) ?_)
  simp[hT]
end Go.Proofs
namespace Go.Proofs
open Go Go.Ev
theorem Q84:Q6 Tryz.prog 212:=jcb Tryz.func212
theorem Q7z{c:UInt8}{f:Bool}:Ct Tryz.prog 212 [.int .u8 c.toNat,.bool f] [] (.bool (Q4w c f)) []:=by
 refine jbS Tryz.func212 33 fun X hX=> ?_
 refine jq [0,1] ?_
 refine Q5 (Q0 [0,1,22] (jt 3 (k:=(jm 3 7 [0,1,10] (p:=Z1p) (q:=Z1p) (k:=(jt 1 (k:=(jm 7 11 [0,1,18] (p:=Z1p) (q:=by intro b;(try simp at b);exact (js hX 3 Z1 (jm 3 14 [0,1,11,17] (p:=Z1p) (q:=Z1p) (k:=(jh hX Z1))))) (k:=(jt 1 (k:=(jm 3 19 [0,1,22] (p:=Z1p) (q:=Z1p) (k:=jf)))))))))))) ?_)
 refine jd (fun h1=> ?_) (fun h1=> ?_)
 ·try simp at h1
  refine jq [4] ?_
  refine Q4 (je Zx ?_)
  (try simp_all[Q4w])<;>grind [Q4w]
 ·try simp at h1
  refine Q3 (Q0 [4] (jt 3 (k:=(jm 3 25 [0,28] (p:=Z1p) (q:=Z1p) (k:=(jt 1 (k:=(jm 3 29 [32] (p:=Z1p) (q:=Z1p) (k:=jr)))))))) ?_)
  refine Q4 (je Zx ?_)
  (try simp_all[Q4w])<;>grind [Q4w]
end Go.Proofs
namespace Go.Proofs
open Go Go.Ev
theorem Q2s:Q6 Tryz.prog 132:=jcb Tryz.func132
theorem Q2r{t:Str}(ht:t.length≤1099511627776):Ct Tryz.prog 132 [.str t] [] (.bool (Q2u t)) []:=by
 refine jbS Tryz.func132 25 fun X hX=> ?_
 refine jq [0] ?_
 refine Q5 (Q0 [0,11] (jt 4 (k:=(jm 4 7 [0,11] (p:=fun b1_4=>by (try simp at b1_4);exact (jh hX Z1)) (q:=fun b1_4=>by (try simp at b1_4);exact (jh hX (by simp[-Qc,-Qb,b1_4];rfl))) (k:=jf)))) ?_)
 refine jd (fun h1=> ?_) (fun h1=> ?_)
 ·try simp at h1
  refine jq [2] ?_
  refine Q4 (je Zx ?_)
  grind [Q2u]
 ·try simp at h1
  refine Q3 (Q5 (jq [0,3] ?_))
  refine Q9 (Qo (α:=Nat) [0,3] (fun i=>[(3,.int .i64 i)]) (fun i=>[]) (fun i=>i≤t.length∧Q8a (decide (i=0)) (t.drop i)=Q8a true t) (fun i=>t.length-i) (0) (fun i=>by simp;rfl) Z3 ?_ ?_)
  ·simp
  rintro i ⟨hi,hI⟩
  refine Q5 (Q0 [0,3,15] (jh hX Zx) ?_)
  refine jd (fun h4=> ?_) (fun h4=> ?_)
  ·try simp at h4
   rw[List.drop_eq_getElem_cons h4] at hI
   simp only[Q8a] at hI
   refine Q3 (Q5 (Q9 (Q0 [0,3,24] (js hX 5 (by simp[h1,h4];rfl) (jc [] (c:=(by apply Q7z<;>exact Z4)) (a:=Q84) (k:=jr))) ?_)))
   refine jd (fun h6=> ?_) (fun h6=> ?_)
   ·try simp at h6
    refine jq [2] ?_
    refine Q4 (je (by simp[h1,h4];rfl) ?_)
    grind [Q2u]
   ·try simp at h6
    refine Q3 (Qd (jh hX Z6) ?_)
    refine Qp (i+1) [0,3] (by simp[h1,h4];try (simp (disch:=omega) only[Q7])) ?_ ?_
    ·exact ⟨by omega,by simp_all⟩
    ·omega
  ·try simp at h4
   rw[List.drop_eq_nil_of_le h4] at hI
   simp only[Q8a] at hI
   refine Qr (jq [2] ?_)
   refine Q4 (je (by simp[h1,h4];rfl) ?_)
   grind [Q2u]
end Go.Proofs
namespace Go.Proofs
open Go Go.Ev
theorem Q8h:Q6 Tryz.prog 213:=jcb Tryz.func213
theorem Qlu{t:Str}{p:Nat}(ht:t.length≤1099511627776)(hp:p≤t.length):Ct Tryz.prog 213 [.str t,.int .i64 p,.bool true] [] (.tup [.int .i64 (Q62 t p).1,.bool (Q62 t p).2]) []:=by
 refine jbS Tryz.func213 85 fun X hX=> ?_
 refine jq [0,1,2] ?_
 refine Q5 (jq [0,1,2,13] ?_)
 refine jd (fun h1=> ?_) (fun h1=> ?_)
 ·try simp at h1
  refine jq [6,7] ?_
  refine Q4 (je Zx ?_)
  simp_all[tyP,Q62,nmP,Q3a,Q6o]
 ·try simp at h1
  refine Q3 (Q5 (Q9 (Q0 [0,1,2,15] (jh hX Zx) ?_)))
  refine jd (fun h3=> ?_) (fun h3=> ?_)
  ·try simp at h3
   refine Q0 [6,7] (jh hX Z6) ?_
   refine Q4 (je Zx ?_)
   simp_all[tyP,Q62,nmP,Q3a,Q6o]
  ·try simp at h3
   refine Q0 [0,1,22] (js hX 5 Zx (jm 3 27 [0,1,30] (p:=Z1p) (q:=Z1p) (k:=jr))) ?_
   refine jd (fun h5=> ?_) (fun h5=> ?_)
   ·try simp at h5
   ·try simp at h5
    refine Q0 [0,1,37] (jh hX Zx) ?_
    refine jd (fun h7=> ?_) (fun h7=> ?_)
    ·try simp at h7
     refine Q0 [0,8] (jh hX Z6) ?_
     refine jq [0,8,9] ?_
     refine Q5 (Q9 (Qo (α:=Nat) [0,8,9] (fun i=>[(9,.int .i64 i)]) (fun i=>[]) (fun i=>p+1≤i∧i≤t.length∧i-(p+1)≤20∧i+Q2y (20-(i-(p+1))) (decide (i=p+1)) (t.drop i)=p+1+Q2y 20 true (t.drop (p+1))) (fun i=>t.length-i) (p+1) (fun i=>by simp;rfl) Z3 ?_ ?_))
     ·simp;omega
     rintro i ⟨h0i,hi,hn,hI⟩
     refine Q5 (Q0 [0,8,9,63] (js hX 5 Zx (jm 5 49 [0,8,9,54] (p:=by intro b;(try simp at b);exact (jh hX (by simp[-Qc,-Qb];(try (simp (disch:=omega) only[Q7];(try simp[-Qc,-Qb])));rfl))) (q:=Z1p) (k:=(jt 1 (k:=(jm 8 55 [0,8,9,63] (p:=fun b10_11=>by (try simp at b10_11);exact (js hX 6 (by simp[-Qc,-Qb,h1,b10_11];rfl) (Q8.call [] rfl Z3 rfl Z1 Z8 (by apply Q7z<;>exact Z4) Q84 Z3 Z3 Z1 (jh hX Z1)))) (q:=fun b10_11=>by (try simp at b10_11);exact (jh hX Z1)) (k:=jf))))))) ?_)
     have hge:t.length≤i→Q2y (20-(i-(p+1))) (decide (i=p+1)) (t.drop i)=0:=fun h=>by rw[List.drop_eq_nil_of_le h];simp[Q2y]
     have hg2:i-(p+1)=20→Q2y (20-(i-(p+1))) (decide (i=p+1)) (t.drop i)=0:=fun h=>by rw[h];simp[Q2y]
     have hg3:=fun h1 h2=> @Qex t i (p+1) h1 h2 h0i
     refine jd (fun h10=> ?_) (fun h10=> ?_)
     ·try simp at h10
      have ⟨⟨h10a,h10b⟩,h10c⟩:=h10
      rw[Qc h10a] at h10c
      rw[hg3 h10a Za,if_pos h10c] at hI
      refine Q3 (Q9 (Qd (jh hX Z6) ?_))
      refine Qp (i+1) [0,8,9] (by simp[h1,h10];try (simp (disch:=omega) only[Q7])) ?_ ?_
      ·exact ⟨by omega,by omega,by omega,by omega⟩
      ·omega
     ·try simp at h10
      have hI2:i=p+1+Q2y 20 true (t.drop (p+1)):=by
       rcases Nat.lt_or_ge i t.length with hl|hl
       ·by_cases hk:i-(p+1)=20
        ·have:=hg2 hk;omega
        ·rw[hg3 hl Za] at hI
         have:Q4w t[i] (decide (i=p+1))=false:=by
          rw[←Qc hl];exact h10 hl Za
         rw[this] at hI;simpa using hI
       ·have:=hge hl;omega
      have hnm:nmP t (p+1)=if (Q28 t i 59&& !decide (i=p+1)) then (i+1,true) else (i,false):=by simp only[nmP,←hI2]
      have hty:Q62 t p=nmP t (p+1):=by simp[Q62,Q3a h1,h3,h7]
      clear hI hI2 hg2 hg3 hge
      refine Qr (Q5 (Q0 [9,80] (js hX 5 (by simp[h1,h10];rfl) (jm 5 70 [8,9,75] (p:=Z1p) (q:=by intro b;(try simp at b);(have hlt:i<t.length:=by omega);exact (jh hX (by simp[-Qc,-Qb,h1,h10,hlt];rfl))) (k:=(jt 1 (k:=(jm 4 76 [9,80] (p:=Z1p) (q:=Z1p) (k:=jf))))))) ?_))
      refine jd (fun h12=> ?_) (fun h12=> ?_)
      ·try simp at h12
       refine jq [6,7] ?_
       refine Q4 (je (by simp[h1,h10];rfl) ?_)
       rw[hty,hnm]
       have:(Q28 t i 59&& !decide (i=p+1))=false:=by grind [Q3a,Q6o,Qc]
       simp[this]
      ·try simp at h12
       refine Q3 (Q0 [6,7] (jh hX Z6) ?_)
       refine Q4 (je (by simp[h1,h10];rfl) ?_)
       rw[hty,hnm]
       have:(Q28 t i 59&& !decide (i=p+1))=true:=by grind [Q3a,Q6o,Qc]
       simp[this]
    ·try simp at h7
     refine Q3 (jq [6,7] ?_)
     refine Q4 (je Zx ?_)
     simp_all[tyP,Q62,nmP,Q3a,Q6o]
theorem Qb0{t:Str}{p:Nat}(ht:t.length≤1099511627776)(hp:p≤t.length):Ct Tryz.prog 213 [.str t,.int .i64 p,.bool false] [] (.tup [.int .i64 (tyP t p).1,.bool (tyP t p).2]) []:=by
 refine jbS Tryz.func213 85 fun X hX=> ?_
 refine jq [0,1,2] ?_
 refine Q5 (jq [0,1,2,13] ?_)
 refine jd (fun h1=> ?_) (fun h1=> ?_)
 ·try simp at h1
  refine jq [6,7] ?_
  refine Q4 (je Zx ?_)
  simp_all[tyP,Q62,nmP,Q3a,Q6o]
 ·try simp at h1
  refine Q3 (Q5 (Q9 (Q0 [0,1,2,15] (jh hX Zx) ?_)))
  refine jd (fun h3=> ?_) (fun h3=> ?_)
  ·try simp at h3
   refine Q0 [6,7] (jh hX Z6) ?_
   refine Q4 (je Zx ?_)
   simp_all[tyP,Q62,nmP,Q3a,Q6o]
  ·try simp at h3
   refine Q0 [0,1,22] (js hX 5 Zx (jm 3 27 [0,1,30] (p:=Z1p) (q:=Z1p) (k:=jr))) ?_
   refine jd (fun h5=> ?_) (fun h5=> ?_)
   ·try simp at h5
    refine Q0 [6,7] (js hX 3 Z6 (jc [] (c:=(by apply Qlu<;>exact Z4)) (a:=Q8h) (k:=jr))) ?_
    refine Q4 (je Zx ?_)
    simp_all[tyP,Q62,nmP,Q3a,Q6o]
   ·try simp at h5
    refine Q0 [0,1,37] (jh hX Zx) ?_
    refine jd (fun h7=> ?_) (fun h7=> ?_)
    ·try simp at h7
     refine Q0 [0,8] (jh hX Z6) ?_
     refine jq [0,8,9] ?_
     refine Q5 (Q9 (Qo (α:=Nat) [0,8,9] (fun i=>[(9,.int .i64 i)]) (fun i=>[]) (fun i=>p+1≤i∧i≤t.length∧i-(p+1)≤20∧i+Q2y (20-(i-(p+1))) (decide (i=p+1)) (t.drop i)=p+1+Q2y 20 true (t.drop (p+1))) (fun i=>t.length-i) (p+1) (fun i=>by simp;rfl) Z3 ?_ ?_))
     ·simp;omega
     rintro i ⟨h0i,hi,hn,hI⟩
     refine Q5 (Q0 [0,8,9,63] (js hX 5 Zx (jm 5 49 [0,8,9,54] (p:=by intro b;(try simp at b);exact (jh hX (by simp[-Qc,-Qb];(try (simp (disch:=omega) only[Q7];(try simp[-Qc,-Qb])));rfl))) (q:=Z1p) (k:=(jt 1 (k:=(jm 8 55 [0,8,9,63] (p:=fun b10_11=>by (try simp at b10_11);exact (js hX 6 (by simp[-Qc,-Qb,h1,b10_11];rfl) (Q8.call [] rfl Z3 rfl Z1 Z8 (by apply Q7z<;>exact Z4) Q84 Z3 Z3 Z1 (jh hX Z1)))) (q:=fun b10_11=>by (try simp at b10_11);exact (jh hX Z1)) (k:=jf))))))) ?_)
     have hge:t.length≤i→Q2y (20-(i-(p+1))) (decide (i=p+1)) (t.drop i)=0:=fun h=>by rw[List.drop_eq_nil_of_le h];simp[Q2y]
     have hg2:i-(p+1)=20→Q2y (20-(i-(p+1))) (decide (i=p+1)) (t.drop i)=0:=fun h=>by rw[h];simp[Q2y]
     have hg3:=fun h1 h2=> @Qex t i (p+1) h1 h2 h0i
     refine jd (fun h10=> ?_) (fun h10=> ?_)
     ·try simp at h10
      have ⟨⟨h10a,h10b⟩,h10c⟩:=h10
      rw[Qc h10a] at h10c
      rw[hg3 h10a Za,if_pos h10c] at hI
      refine Q3 (Q9 (Qd (jh hX Z6) ?_))
      refine Qp (i+1) [0,8,9] (by simp[h1,h10];try (simp (disch:=omega) only[Q7])) ?_ ?_
      ·exact ⟨by omega,by omega,by omega,by omega⟩
      ·omega
     ·try simp at h10
      have hI2:i=p+1+Q2y 20 true (t.drop (p+1)):=by
       rcases Nat.lt_or_ge i t.length with hl|hl
       ·by_cases hk:i-(p+1)=20
        ·have:=hg2 hk;omega
        ·rw[hg3 hl Za] at hI
         have:Q4w t[i] (decide (i=p+1))=false:=by
          rw[←Qc hl];exact h10 hl Za
         rw[this] at hI;simpa using hI
       ·have:=hge hl;omega
      have hnm:nmP t (p+1)=if (Q28 t i 59&& !decide (i=p+1)) then (i+1,true) else (i,false):=by simp only[nmP,←hI2]
      have hty:tyP t p=nmP t (p+1):=by simp_all[tyP,Q62,Q3a h1]
      clear hI hI2 hg2 hg3 hge
      refine Qr (Q5 (Q0 [9,80] (js hX 5 (by simp[h1,h10];rfl) (jm 5 70 [8,9,75] (p:=Z1p) (q:=by intro b;(try simp at b);(have hlt:i<t.length:=by omega);exact (jh hX (by simp[-Qc,-Qb,h1,h10,hlt];rfl))) (k:=(jt 1 (k:=(jm 4 76 [9,80] (p:=Z1p) (q:=Z1p) (k:=jf))))))) ?_))
      refine jd (fun h12=> ?_) (fun h12=> ?_)
      ·try simp at h12
       refine jq [6,7] ?_
       refine Q4 (je (by simp[h1,h10];rfl) ?_)
       rw[hty,hnm]
       have:(Q28 t i 59&& !decide (i=p+1))=false:=by grind [Q3a,Q6o,Qc]
       simp[this]
      ·try simp at h12
       refine Q3 (Q0 [6,7] (jh hX Z6) ?_)
       refine Q4 (je (by simp[h1,h10];rfl) ?_)
       rw[hty,hnm]
       have:(Q28 t i 59&& !decide (i=p+1))=true:=by grind [Q3a,Q6o,Qc]
       simp[this]
    ·try simp at h7
     refine Q3 (jq [6,7] ?_)
     refine Q4 (je Zx ?_)
     simp_all[tyP,Q62,nmP,Q3a,Q6o]
end Go.Proofs
namespace Go.Proofs
open Go Go.Ev
theorem Q7d:Q6 Tryz.prog 133:=jcb Tryz.func133
theorem Q79{t:Str}(ht:t.length≤1099511627776):Ct Tryz.prog 133 [.str t] [] (.bool (Q1k t)) []:=by
 refine jbS Tryz.func133 20 fun X hX=> ?_
 refine jq [0] ?_
 refine Q5 (jq [0,7] ?_)
 refine jd (fun h1=> ?_) (fun h1=> ?_)
 ·try simp at h1
  refine jq [2] ?_
  refine Q4 (je Zx ?_)
  (try simp_all[Q1k])<;>grind
 ·try simp at h1
  refine Q3 (Q0 [0,3,4] (jt 1 (k:=(jc [] (c:=(by apply Qb0<;>exact Z4)) (a:=Q8h) (k:=jr)))) ?_)
  refine Q0 [2] (jt 2 (k:=(jm 5 14 [19] (p:=by intro b;(try simp at b);exact (jh hX (by simp[-Qc,-Qb,h1];rfl))) (q:=Z1p) (k:=jr)))) ?_
  refine Q4 (je Zx ?_)
  (try simp_all[Q1k])<;>grind
end Go.Proofs
namespace Go.Proofs
open Go Go.Ev
theorem Q4d:Q6 Tryz.prog 224:=jcb Tryz.func224
theorem Q4c{n:Int}:Ct Tryz.prog 224 [.int .i64 n] [] (.agg [.raw (.slice none 0 0),.str [],.int .i64 n,.int .i64 3]) []:=by
 refine jbS Tryz.func224 5 fun X hX=> ?_
 refine jq [0,2] ?_
 refine jq [2] ?_
 refine Q4 (je0 ?_)
 rfl
end Go.Proofs
namespace Go.Proofs
open Go Go.Ev
theorem Q6e:Q6 Tryz.prog 155:=jcb Tryz.func155
theorem Q69{t:Str}(ht:t.length≤1099511627776):Ct Tryz.prog 155 [.str t] [] (eDO (Qg t)) []:=by
 refine jbS Tryz.func155 104 fun X hX=> ?_
 refine jq [0,2] ?_
 refine Q5 (jq [0,2,11] ?_)
 refine jd (fun h1=> ?_) (fun h1=> ?_)
 ·try simp at h1
  refine Q0 [2] (jh hX Zx) ?_
  refine Q4 (Q1z Zx ?_ rfl)
  rw[show Qg t=⟨[],[],0,2⟩ from by unfold Qg;rw[if_pos Za]]
  exact Q3b _ _ _
 ·try simp at h1
  have h1c:Qg t=Q1g t:=by unfold Qg;rw[if_neg Za]
  rw[h1c]
  refine Q3 (Q5 (Q0 [0,2,20] (js hX 4 Zx (jm 4 16 [0,2,20] (p:=fun b3_4=>by (try simp at b3_4);exact (jh hX Z1)) (q:=fun b3_4=>by (try simp at b3_4);(have hlt:0<t.length:=List.length_pos_iff.2 b3_4);exact (jh hX (by simp[-Qc,-Qb,h1,hlt];rfl))) (k:=jf))) ?_))
  refine jd (fun h3=> ?_) (fun h3=> ?_)
  ·try simp at h3
   refine Q0 [2] (jc [] (c:=(by apply Q4c<;>exact Z20)) (a:=Q4d) (k:=(jh hX Zx))) ?_
   refine Q4 (Q1z Zx ?_ rfl)
   rw[show Q1g t=Q55 0 from by unfold Q1g;rw[if_neg];rcases h3 with rfl|h3;simp[Q28];simp only[Q28];split<;>simp_all[atD]]
   exact Q3b _ _ _
  ·try simp at h3
   have h3c:0<t.length:=List.length_pos_iff.2 h3.1
   have h3b:Q28 t 0 40=true:=by rw[Q3a h3c,←Qc h3c];simpa using h3.2
   refine Q3 (Q0 [0,2,3] (jh hX Zx) ?_)
   refine jq [0,2,3,4] ?_
   refine Q5 (Q9 (Q21 (Le.nilC 1 0 0 1 Z8) ?_))
   refine Qo (α:=List Str×Nat) [0,2,3,4] (fun a=>[(4,.int .i64 a.2)]) (fun a=>[(1,some (2,[.agg [.arr 2 0 a.1.length,.str []]])),(2,some (1,a.1.map V.str))]) (fun a=>a.2≤t.length∧a.1.length≤8∧Q3s t (8-a.1.length) a.2 a.1=Q3s t 8 1 []) (fun a=>8-a.1.length) (([],1)) (fun a=>by simp;rfl) Z3 ?_ ?_
   ·exact ⟨by simp;omega,by simp,rfl⟩
   rintro ⟨ps,p⟩ ⟨hp,hn,hI⟩
   simp only at hp hn hI
   refine Q5 (Q0 [0,2,3,4,32] (js hX 5 Zx (jm 5 27 [0,2,3,4,32] (p:=fun b7_5=>by (try simp at b7_5);exact (jh hX (by simp[-Qc,-Qb,h1,b7_5];rfl))) (q:=fun b7_5=>by (try simp at b7_5);exact (jh hX Z1)) (k:=jf))) ?_)
   refine jd (fun h7=> ?_) (fun h7=> ?_)
   ·try simp at h7
    have h7a:=h7.1
    have h7b:Q28 t p 41=false:=by rw[Q3a h7a,←Qc h7a];simpa using h7.2
    refine Q3 (Q9 (Q5 (Q0 [0,2,3,4,36] (jh hX (by simp[h1,h7];rfl)) ?_)))
    refine jd (fun h8=> ?_) (fun h8=> ?_)
    ·try simp at h8
     have h8b:8-ps.length=0:=by omega
     rw[h8b,Q3s,if_neg (by simp[h7b])] at hI
     refine Q0 [2] (jt 1 (k:=(jc [] (c:=(by apply Q4c<;>exact Z20)) (a:=Q4d) (k:=(jh hX (by simp[h1,h7];rfl)))))) ?_
     refine Q4 (Q1z (by simp[h1,h7];rfl) ?_ rfl)
     rw[Qdz h3b hI.symm]
     exact Q3b _ _ _
    ·try simp at h8
     have h8b:8-ps.length=(8-(ps.length+1))+1:=by omega
     rw[h8b,Q3s,if_neg (by simp[h7b])] at hI
     obtain ⟨hge,hle,hgt,_⟩:=Qmv hp
     have w1:(ps.length+1)*16≤140737488355328:=by omega
     have w2:ps.length≤1099511627775:=by omega
     refine Q3 (Q0 [0,2,3,4,5,6] (jt 2 (k:=(jc [] (c:=(by apply Qb0<;>exact Z20)) (a:=Q8h) (k:=jr)))) ?_)
     refine Q5 (jq [0,2,3,4,5,46] ?_)
     refine jd (fun h11=> ?_) (fun h11=> ?_)
     ·try simp at h11
      rw[if_neg (by simp[h11])] at hI
      refine Q0 [2] (jt 1 (k:=(jc [] (c:=(by apply Q4c<;>exact Z20)) (a:=Q4d) (k:=(jh hX (by simp[h1,h7,w1,w2];rfl)))))) ?_
      refine Q4 (Q1z (by simp[h1,h7,w1,w2];rfl) ?_ rfl)
      rw[Qdz h3b hI.symm]
      exact Q3b _ _ _
     ·try simp at h11
      rw[if_pos h11] at hI
      have hI3:Q3s t (8-(ps++[seg t p (tyP t p).1]).length) (tyP t p).1 (ps++[seg t p (tyP t p).1])=Q3s t 8 1 []:=by simpa using hI
      refine Q3 (jL 7 [0,1,2,3,4,5] [6] [0,2,3,5] ([1]) hX (by simp[h1,h7,w1,w2,hge,hle];rfl) (jH (p:=fun X hX=>jr) (k:=.nil)) (jh hX (by simp[h1,h7,w1,w2,hge,hle];rfl)) ?_)
      refine Qd jr ?_
      refine Q13 ((ps++[seg t p (tyP t p).1],(tyP t p).1)) [0,2,3,4] 3 (by simp[hX]) Z3 (by simp[seg,h11];try (simp (disch:=omega) only[Q7])) ?_ ?_
      ·exact ⟨hle,by simp;omega,hI3⟩
      ·simp;omega
   ·try simp at h7
    have h7b:p<t.length→Q28 t p 41=true:=fun h=>by rw[Q3a h,←Qc h];simpa using h7 h
    refine Qr (Q5 (Q0 [0,2,3,4,62] (jh hX (by simp[h1,h7];rfl)) ?_))
    refine jd (fun h15=> ?_) (fun h15=> ?_)
    ·try simp at h15
     refine Q0 [2] (jt 1 (k:=(jc [] (c:=(by apply Q4c<;>exact Z20)) (a:=Q4d) (k:=(jh hX (by simp[h1,h7];rfl)))))) ?_
     refine Q4 (Q1z (by simp[h1,h7];rfl) ?_ rfl)
     have hpl:p=t.length:=h15
     rw[show Q1g t=Q55 p from Qdz h3b (by rw[←hI];cases 8-ps.length<;>simp[Q3s,Q6o (show t.length≤p from by omega),tyP,Q62]),hpl]
     exact Q3b _ _ _
    ·try simp at h15
     have h7d:=h7b Za
     have hd:Q1g t=Q1t t ps p:=Qwt h3b (by rw[←hI];cases 8-ps.length<;>simp[Q3s,h7d])
     rw[hd]
     have w0:p+1≤t.length:=by omega
     have wp:ps.length≤ps.length:=Nat.le_refl _
     refine Q3 (Q0 [0,2,3,4] (jh hX Z6) ?_)
     refine Q5 (Q0 [0,2,3,4,76] (js hX 5 (by simp[h1,h7,w0];rfl) (jm 5 71 [0,2,3,4,76] (p:=fun b18_5=>by (try simp at b18_5);exact (jh hX (by simp[-Qc,-Qb,h1,h7,w0,b18_5];rfl))) (q:=fun b18_5=>by (try simp at b18_5);exact (jh hX Z1)) (k:=jf))) ?_)
     refine jd (fun h18=> ?_) (fun h18=> ?_)
     ·try simp at h18
      have h18b:Q28 t (p+1) 86=true:=by rw[Q3a h18.1,←Qc h18.1];simpa using h18.2
      refine Q0 [0,2,3,4] (jh hX (by simp[h1,h7,w0,h18];rfl)) ?_
      refine Qd (jh hX Z6) ?_
      refine Q5 (Q0 [2,3,4,99] (jh hX (by simp[h1,h7,w0,h18];rfl)) ?_)
      refine jd (fun h26=> ?_) (fun h26=> ?_)
      ·try simp at h26
       refine Q0 [2] (jt 1 (k:=(jc [] (c:=(by apply Q4c<;>exact Z20)) (a:=Q4d) (k:=(jh hX (by simp[h1,h7,w0,h18,h26];rfl)))))) ?_
       refine Q4 (Q1z (by simp[h1,h7,w0,h18,h26];rfl) ?_ rfl)
       first
        |(rw[show Q1t t ps p=Q55 (p+2) from by simp only[Q1t,h18b,if_true];rw[if_pos Za],show ((p:Int)+1+1)=((p+2:Nat):Int) from by omega];exact Q3b _ _ _)
        |(rw[show Q1t t ps p=Q55 (tyP t (p+1)).1 from by simp only[Q1t,h18b,h22,if_true];simp;omega];exact Q3b _ _ _)
      ·try simp at h26
       refine Q3 (Q0 [2] (jh hX (by simp[h1,h7,w0,h18,h26];rfl)) ?_)
       refine Q4 (Q1z (by simp[h1,h7,w0,h18,h26];rfl) ?_ rfl)
       first
        |(rw[show Q1t t ps p=⟨ps,[86],0,0⟩ from by simp only[Q1t,h18b,if_true];rw[if_neg Za]];exact Wk.refl _)
        |(rw[show Q1t t ps p=⟨ps,seg t (p+1) (tyP t (p+1)).1,0,0⟩ from by simp only[Q1t,h18b,h22];simp;omega];exact Wk.refl _)
     ·try simp at h18
      have h18b:Q28 t (p+1) 86=false:=by
       rcases Nat.lt_or_ge (p+1) t.length with h|h
       ·rw[Q3a h,←Qc h];simpa using h18 h
       ·exact Q6o h
      obtain ⟨hge,hle,hgt,_⟩:=Qmv w0
      refine Q0 [0,2,3,4,7,8] (jt 2 (k:=(jc [] (c:=(by apply Qb0<;>exact Z20)) (a:=Q8h) (k:=jr)))) ?_
      refine Q5 (jq [0,2,3,4,7,87] ?_)
      refine jd (fun h22=> ?_) (fun h22=> ?_)
      ·try simp at h22
       refine Q0 [2] (jt 1 (k:=(jc [] (c:=(by apply Q4c<;>exact Z20)) (a:=Q4d) (k:=(jh hX (by simp[h1,h7,w0,h18,hge,hle];rfl)))))) ?_
       refine Q4 (Q1z (by simp[h1,h7,w0,h18,hge,hle];rfl) ?_ rfl)
       rw[show Q1t t ps p=Q55 (tyP t (p+1)).1 from by simp[Q1t,h18b,h22]]
       exact Q3b _ _ _
      ·try simp at h22
       refine Q3 (Q0 [0,2,3,7] (jh hX (by simp[h1,h7,w0,h18,hge,hle];rfl)) ?_)
       refine Qd jr ?_
       refine Q5 (Q0 [2,3,4,99] (jh hX (by simp[h1,h7,w0,h18,hge,hle];rfl)) ?_)
       refine jd (fun h26=> ?_) (fun h26=> ?_)
       ·try simp at h26
        refine Q0 [2] (jt 1 (k:=(jc [] (c:=(by apply Q4c<;>exact Z20)) (a:=Q4d) (k:=(jh hX (by simp[h1,h7,w0,h18,hge,hle,h26];rfl)))))) ?_
        refine Q4 (Q1z (by simp[h1,h7,w0,h18,hge,hle,h26];rfl) ?_ rfl)
        first
         |(rw[show Q1t t ps p=Q55 (p+2) from by simp only[Q1t,h18b,if_true];rw[if_pos Za],show ((p:Int)+1+1)=((p+2:Nat):Int) from by omega];exact Q3b _ _ _)
         |(rw[show Q1t t ps p=Q55 (tyP t (p+1)).1 from by simp only[Q1t,h18b,h22,if_true];simp;omega];exact Q3b _ _ _)
       ·try simp at h26
        refine Q3 (Q0 [2] (jh hX (by simp[h1,h7,w0,h18,hge,hle,h26];rfl)) ?_)
        refine Q4 (Q1z (by simp[h1,h7,w0,h18,hge,hle,h26];rfl) ?_ rfl)
        first
         |(rw[show Q1t t ps p=⟨ps,[86],0,0⟩ from by simp only[Q1t,h18b,if_true];rw[if_neg Za]];exact Wk.refl _)
         |(rw[show Q1t t ps p=⟨ps,seg t (p+1) (tyP t (p+1)).1,0,0⟩ from by simp only[Q1t,h18b,h22];simp;omega];exact Wk.refl _)
end Go.Proofs
namespace Go.Proofs
open Go Go.Ev
theorem Qs8:Q6 Tryz.prog 290:=jcb Tryz.func290
theorem Qrt:Ct Tryz.prog 290 [] [] (.lst true 1 (Qvy.map V.str)) []:=by
 refine jbS Tryz.func290 2 fun X hX=> ?_
 refine jq [] ?_
 refine jq [0] ?_
 refine Q4 (je0 ?_)
 rfl
end Go.Proofs
namespace Go.Proofs
open Go Go.Ev
theorem Qo5:Q6 Tryz.prog 291:=jcb Tryz.func291
theorem Qng{t:Str}{c:UInt8}(ht:t.length≤1048576):Ct Tryz.prog 291 [.str t,.int .u8 c.toNat] [] (.lst true 1 ((Q8k c t).map V.str)) []:=by
 refine jbS Tryz.func291 35 fun X hX=> ?_
 refine jq [0,1] ?_
 refine jq [0,1,5] ?_
 refine jq [0,1,5,6] ?_
 refine Q5 (jq [0,1,5,6,7] ?_)
 refine Q9 (Qo (α:=List Str×Nat×Nat) [0,1,5,6,7] (fun a=>[(5,.arr 0 0 a.1.length),(6,.int .i64 a.2.1),(7,.int .i64 a.2.2)]) (fun a=>[(0,some (1,a.1.map V.str))]) (fun a=>a.2.1≤a.2.2∧a.2.2≤t.length∧a.1.length≤a.2.2∧(∀x∈(t.drop a.2.1).take (a.2.2-a.2.1),x≠c)∧a.1++Q8k c (t.drop a.2.1)=Q8k c t) (fun a=>t.length-a.2.2) (([],0,0)) (fun a=>by simp;rfl) Z3 ?_ ?_)
 ·simp
 rintro ⟨ps,f,i⟩ ⟨hf,hi,hp,hn,hI⟩
 simp only at hf hi hp hn hI
 have w1:(ps.length+1)*16≤140737488355328:=by omega
 have w2:ps.length≤1099511627775:=by omega
 refine Q5 (Q0 [0,1,5,6,7,12] (jh hX (by simp[w1,w2,hf,hi];rfl)) ?_)
 refine jd (fun h4=> ?_) (fun h4=> ?_)
 ·try simp at h4
  have hdi:i-f<(t.drop f).length:=by simp;omega
  have hde:(t.drop f)[i-f]=t[i]:=by simp[Nat.add_sub_cancel' hf]
  refine Q3 (Q5 (Q9 (Q0 [0,1,5,6,7,19] (jh hX (by simp[w1,w2,hf,hi,h4];rfl)) ?_)))
  refine jd (fun h6=> ?_) (fun h6=> ?_)
  ·try simp at h6
   have hs:=Qqn hdi hn (by rw[hde];exact UInt8.toNat_inj.1 h6)
   rw[List.drop_drop,show f+(i-f+1)=i+1 from by omega] at hs
   have hI2:(ps++[seg t f i])++Q8k c (t.drop (i+1))=Q8k c t:=by rw[←hI,hs,seg,List.drop_take];simp
   refine Q0 [0,1,5,7] (jh hX (by simp[w1,w2,hf,hi,h4];rfl)) ?_
   refine Qd (jh hX Z6) ?_
   refine Qd (jh hX Z6) ?_
   refine Q13 (if t[i].toNat=c.toNat then (ps++[seg t f i],i+1,i+1) else (ps,f,i+1)) [0,1,5,6,7] 1 (by simp[hX]) Z3 (by simp[h4,h6,seg];try (simp (disch:=omega) only[Q7])) ?_ ?_
   ·first
    |(rw[if_pos h6];exact ⟨Nat.le_refl _,h4,by simp;omega,by simp,hI2⟩)
    |(rw[if_neg h6];exact ⟨by simp;omega,h4,by simp;omega,hn2,hI⟩)
   ·first|(rw[if_pos h6];simp;omega)|(rw[if_neg h6];simp;omega)
  ·try simp at h6
   have h6c:t[i]≠c:=fun e=>h6 (by rw[e])
   have hn2: ∀x∈(t.drop f).take (i+1-f),x≠c:=by
    rw[show i+1-f=(i-f)+1 from by omega,List.take_succ_eq_append_getElem hdi,hde]
    intro x hx
    rcases List.mem_append.1 hx with hx|hx
    ·exact hn x hx
    ·simp at hx;rw[hx];exact h6c
   refine Q3 (Qd (jh hX Z6) ?_)
   refine Q13 (if t[i].toNat=c.toNat then (ps++[seg t f i],i+1,i+1) else (ps,f,i+1)) [0,1,5,6,7] 1 (by simp[hX]) Z3 (by simp[h4,h6,seg];try (simp (disch:=omega) only[Q7])) ?_ ?_
   ·first
    |(rw[if_pos h6];exact ⟨Nat.le_refl _,h4,by simp;omega,by simp,hI2⟩)
    |(rw[if_neg h6];exact ⟨by simp;omega,h4,by simp;omega,hn2,hI⟩)
   ·first|(rw[if_pos h6];simp;omega)|(rw[if_neg h6];simp;omega)
 ·try simp at h4
  have hfl:f≤t.length:=by omega
  refine Qr (Q0 [4] (jh hX (by simp[w1,w2,hf,hi,h4,hfl];rfl)) ?_)
  refine Q4 (Q1z (by simp[w1,w2,hf,hi,h4,hfl];rfl) ?_ rfl)
  have hil:i=t.length:=by omega
  subst hil
  rw[Qtd (by rw[List.take_of_length_le Z3] at hn;exact hn)] at hI
  rw[←hI]
  simp
  exact Wk.refl _
end Go.Proofs
namespace Go.Proofs
open Go Go.Ev
theorem Qhs:Q6 Tryz.prog 215:=jcb Tryz.func215
theorem Qhc{op:Int}:Ct Tryz.prog 215 [.int .i64 op] [] (.str (Q8l op)) []:=by
 have hol:Qvy.length=45:=rfl
 refine jbS Tryz.func215 25 fun X hX=> ?_
 refine jq [0] ?_
 refine Q0 [0,3] (jF (c:=(by apply Qrt<;>exact Z4)) (a:=Qs8) (k:=jr)) ?_
 refine Q5 (Q0 [0,3,13] (jt 3 (k:=(jm 5 8 [0,3,13] (p:=fun b2_3=>by (try simp at b2_3);exact (jh hX Z1)) (q:=fun b2_3=>by (try simp at b2_3);exact (jh hX (by simp[-Qc,-Qb,b2_3];rfl))) (k:=jf)))) ?_)
 refine jd (fun h2=> ?_) (fun h2=> ?_)
 ·try simp at h2
  have hx:Q8l op=[33]:=by simp only[Q8l];rw[if_pos (by simp[hol] at h2;omega)]
  refine jq [2] ?_
  refine Q4 (je Zy ?_)
  simp_all[Qv6]
 ·try simp at h2
  simp only[hol] at h2
  obtain ⟨k,rfl⟩: ∃k:Nat,op=(k:Int):=⟨op.toNat,by omega⟩
  have hk:k<Qvy.length:=by rw[hol];omega
  have hf:=Qxw ⟨k,by omega⟩ (by simp;omega)
  have hl:Qvy[k].length≤1048576:=Nat.le_trans (Q100 ⟨k,by omega⟩) (by decide)
  have hof:Q8l k=Qty.getD (k-1) []:=by simp only[Q8l];rw[if_neg Za];congr 1;omega
  have hge:Qvy.getD k []=Qvy[k]:=by simp[hk]
  simp only[hge] at hf
  rw[hof,←hf]
  clear hf hof hge
  refine Q3 (Q0 [4] (js hX 4 (by simp[h2,hk];rfl) (jF (c:=(by apply (Qng (c:=32))<;>exact Z4)) (a:=Qo5) (k:=jr))) ?_)
  refine Q5 (Q0 [4,21] (jh hX (by simp[h2,hk];rfl)) ?_)
  refine jd (fun h5=> ?_) (fun h5=> ?_)
  ·try simp at h5
   skip
   refine Q0 [2] (jh hX (by simp[h2,hk,h5];rfl)) ?_
   refine Q4 (je (by simp[h2,hk,h5];rfl) ?_)
   simp_all[Qv6]
  ·try simp at h5
   refine Q3 (jq [2] ?_)
   refine Q4 (je (by simp[h2,hk];rfl) ?_)
   simp_all[Qv6]
end Go.Proofs
namespace Go.Proofs
open Go Go.Ev
theorem Q7u:Q6 Tryz.prog 288:=jcb Tryz.func288
theorem Q7r{x:Ins}:Ct Tryz.prog 288 [eI x] [] (.bool (decide (x.cls=[]∧x.name=[]∧x.desc=[]))) []:=by
 refine jbS Tryz.func288 16 fun X hX=> ?_
 refine jq [1] ?_
 refine Q0 [2] (jt 4 (k:=(jm 4 6 [1,10] (p:=Z1p) (q:=Z1p) (k:=(jt 1 (k:=(jm 4 11 [15] (p:=Z1p) (q:=Z1p) (k:=jr)))))))) ?_
 refine Q4 (je0 ?_)
 (try simp_all)<;>grind
end Go.Proofs
namespace Go.Proofs
open Go Go.Ev
theorem Qsa:Q6 Tryz.prog 289:=jcb Tryz.func289
theorem Qrv{n:Int}:Ct Tryz.prog 289 [.int .i64 n] [] (.bool (decide (-2147483648≤n∧n≤2147483647))) []:=by
 refine jbS Tryz.func289 9 fun X hX=> ?_
 refine jq [0] ?_
 refine Q0 [2] (jt 3 (k:=(jm 3 5 [8] (p:=Z1p) (q:=Z1p) (k:=jr)))) ?_
 refine Q4 (je0 ?_)
 (try simp_all)<;>grind
end Go.Proofs
