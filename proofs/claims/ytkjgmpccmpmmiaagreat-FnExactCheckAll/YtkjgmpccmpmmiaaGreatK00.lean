/- Part 1 of what the proofs lean on: an evaluator of Go functions over abstract values. Conditions: none. -/
import Derived.WalkKit
set_option linter.all false
set_option linter.unusedVariables false
set_option linter.unusedSimpArgs false
set_option maxHeartbeats 2000000
set_option maxRecDepth 100000
namespace Go
theorem Z0{p:Prop}(h:p:=by first|assumption|omega|(simp;omega)|(simp;done)):p:=h
theorem Z1{p:Prop}(h:p:=by simp[-Qr,-Qa];rfl):p:=h
theorem Z2{p:Prop}(h:p:=by simp[hfx,e36,e37,e38,en];rfl):p:=h
theorem Z3{p:Prop}(h:p:=by simp):p:=h
theorem Z4{p:Prop}(h:p:=by simp[hYl,hYt,hYj,hYp,w0,w2,w3,w4,hYu,Q6j];rfl):p:=h
theorem Z5{p:Prop}(h:p:=by simp[ho];rfl):p:=h
theorem Z6{p:Prop}(h:p:=by first|assumption|omega|(simp at*;omega)|simp_all):p:=h
theorem Z7{p:Prop}(h:p:=by simp;rfl):p:=h
theorem Z8{p:Prop}(h:p:=by first|(apply Q8e (off:=1) (n:=(Qd F.i.desc).params.length) (xs:=tkV k st ((Qd F.i.desc).params.length+1)) (ps:=(Qd F.i.desc).params)<;>first|assumption|omega|(simp;omega)|(simp;done);done)|(apply Q8e (off:=0) (n:=(Qd F.i.desc).params.length) (xs:=tkV k st (Qd F.i.desc).params.length) (ps:=(Qd F.i.desc).params)<;>first|assumption|omega|(simp;omega)|(simp;done);done)):p:=h
theorem Z9{p:Prop}(h:p:=by simp;(try (simp (disch:=omega) only[Qc];(try simp)));rfl):p:=h
theorem Za{p:Prop}(h:p:=by simp[hL,e36,e37,hk,hk1,d2,en];rfl):p:=h
theorem Zb{p:Prop}(h:p:=by omega):p:=h
theorem Zc{p:Prop}(h:p:=by simp[e32,e34,e35,hk,w1,w2,w3,w4,w5];rfl):p:=h
theorem Zd{p:Prop}(h:p:=by first|(apply Q3b (a:=tk)<;>first|assumption|omega|(simp;omega)|(simp;done);done)|(apply Q3b (a:=tk.drop 1)<;>first|assumption|omega|(simp;omega)|(simp;done);done)|(apply Q3b (a:=tk.tail)<;>first|assumption|omega|(simp;omega)|(simp;done);done)|(rw[←List.map_drop];apply Q3b (a:=tk.drop 1)<;>first|assumption|omega|(simp;omega)|(simp;done);done)|(rw[←List.map_tail];apply Q3b (a:=tk.tail)<;>first|assumption|omega|(simp;omega)|(simp;done);done)):p:=h
theorem Ze{p:Prop}(h:p:=by apply Q9q<;>first|assumption|omega|(simp;omega)|(simp;done)):p:=h
theorem Zf{p:Prop}(h:p:=by first|assumption|omega|(intro e;(have k2:=kt;simp[Q2a,tk1,tk2,e] at k2;omega))|(intro e;rcases e with e|e<;>(have k2:=kt;simp[Q2a,tk1,tk2,e] at k2;omega))|(intro e;rcases e with e|e|e<;>(have k2:=kt;simp[Q2a,tk1,tk2,e] at k2;omega))):p:=h
theorem Zg{p:Prop}(h:p:=by simp[hL,e36,e37,hk,hk1,d2,en];try rfl):p:=h
theorem Zh{p:Prop}(h:p:=by simp[e36,e37,hk,hk1,d2,en];rfl):p:=h
theorem Zi{p:Prop}(h:p:=by simp[hS2,hP1,hP2,hfx];rfl):p:=h
theorem Zj{p:Prop}(h:p:=by simp[e7,e6,ec,es,ew,hk,hk1,d2,en];rfl):p:=h
theorem Zk{p:Prop}(h:p:=by simp[hk,hk1,d2,en];rfl):p:=h
theorem Zl{p:Prop}(h:p:=by (try simp only[←List.map_map]);apply Qei<;>first|assumption|omega|(simp;omega)|(simp;done)):p:=h
theorem Zm{p:Prop}(h:p:=by apply (Q28 (n:=1))<;>first|assumption|omega|(simp;omega)|(simp;done)):p:=h
theorem Zn{p:Prop}(h:p:=by simp[-Qr,-Qa,hfx,e36,e37,e38,en];rfl):p:=h
theorem Zo{p:Prop}(h:p:=by apply Qgz<;>first|assumption|omega|(simp;omega)|(simp;done)):p:=h
theorem Zp{p:Prop}(h:p:=by apply Qlu<;>first|assumption|omega|(simp;omega)|(simp;done)):p:=h
theorem Zq{p:Prop}(h:p:=by apply Qlb<;>first|assumption|omega|(simp;omega)|(simp;done)):p:=h
theorem Zr{p:Prop}(h:p:=by simp[hYl,hYt,hYj,hYp,w0,w2,w3,w4,hYu,Q6j];try rfl):p:=h
theorem Zs{p:Prop}(h:p:=by simp[h1];rfl):p:=h
theorem Zt{p:Prop}(h:p:=by apply Qha<;>first|assumption|omega|(simp;omega)|(simp;done)):p:=h
theorem Zu{p:Prop}(h:p:=by simp[e41,e42,e44,kk,kkk,k0];rfl):p:=h
theorem Zv{p:Prop}(h:p:=by apply Qim<;>first|assumption|omega|(simp;omega)|(simp;done)):p:=h
theorem Zw{p:Prop}(h:p:=by simp[h2];rfl):p:=h
theorem Zx{p:Prop}(h:p:=by first|assumption|omega|(have:=Q3j (f:=Q7e) (List.getElem_mem h4);simp only[Q7e] at*;(try simp only[Qa h4]);omega)|(have:=Q3j (f:=Q3q) (List.getElem_mem h10);(try simp only[Qa h10]);omega)):p:=h
theorem Zy{p:Prop}(h:p:=by simp[Q6w,Qgr,w1,w2];rfl):p:=h
theorem Zz{p:Prop}(h:p:=by simp[hat,hlt,hfi,d2,wa];rfl):p:=h
theorem Z10{p:Prop}(h:p:=by simp[q0,w1,w2,w3,w4];rfl):p:=h
theorem Z11{p:Prop}(h:p:=by simp[mapL_repB,mapL_repN,mapL_T,mapL_iV,mapL_oFr,mapL_bW,mapL_eFr];try rfl):p:=h
theorem Z12{p:Prop}(h:p:=by apply Q25<;>first|assumption|omega|(simp;omega)|(simp;done)):p:=h
theorem Z13{p:Prop}(h:p:=by simp[ha,hA,hAt];try rfl):p:=h
theorem Z14{p:Prop}(h:p:=by first|(apply Q25 (t:=⟨1,[],0⟩)<;>first|assumption|omega|(simp;omega)|(simp;done);done)):p:=h
theorem Z15{p:Prop}(h:p:=by rfl):p:=h
theorem Z16{p:Prop}(h:p:=by simp[q0,w1,w2,w3,w4,hb,hwi,h8,n2,h17,kf,hpx,hpn,n3,n4,n5];rfl):p:=h
theorem Z17{p:Prop}(h:p:=by apply Qfg<;>first|assumption|omega|(simp;omega)|(simp;done)):p:=h
theorem Z18{p:Prop}(h:p:=by apply Q8h<;>first|assumption|omega|(intro e;(have k2:=kt;simp[Q2a,tk1,tk2,e] at k2;omega))|(intro e;rcases e with e|e<;>(have k2:=kt;simp[Q2a,tk1,tk2,e] at k2;omega))|(intro e;rcases e with e|e|e<;>(have k2:=kt;simp[Q2a,tk1,tk2,e] at k2;omega))):p:=h
theorem Z19{p:Prop}(h:p:=by apply Qb7<;>first|assumption|omega|(simp;omega)|(simp;done)):p:=h
theorem Z1a{p:Prop}(h:p:=by apply (Q28 (n:=2))<;>first|assumption|omega|(simp;omega)|(simp;done)):p:=h
theorem Z1b{p:Prop}(h:p:=by apply Q8i<;>first|assumption|omega|(simp;omega)|(simp;done)):p:=h
theorem Z1c{p:Prop}(h:p:=by first|assumption|omega|(simp[*]<;>omega)|(simp<;>omega)):p:=h
theorem Z1d{p:Prop}(h:p:=by apply Qh6<;>first|assumption|omega|(simp[*]<;>omega)|(simp<;>omega)):p:=h
theorem Z1e{p:Prop}(h:p:=by simp[e36,e37,hk,hk1,d2,en];try rfl):p:=h
theorem Z1f{p:Prop}(h:p:=by simp[hL,e41,e42,e44,kk,kkk,k0];rfl):p:=h
theorem Z1g{p:Prop}(h:p:=by simp[St.expose];rfl):p:=h
theorem Z1h{p:Prop}(h:p:=by apply Qek<;>first|assumption|omega|(simp;omega)|(simp;done)):p:=h
theorem Z1i{p:Prop}(h:p:=by first|assumption|omega):p:=h
theorem Z1j{p:Prop}(h:p:=by first|assumption|omega|(have:=Q3j (f:=Q7e) (List.getElem_mem h4);simp only[Q7e] at*;(try simp only[Qa h4]);omega)|(have:=Q3j (f:=Q3q) (List.getElem_mem h14);omega)):p:=h
theorem Z1k{p:Prop}(h:p:=by apply Q7r<;>first|assumption|omega|(simp;omega)|(simp;done)):p:=h
theorem Z1l{p:Prop}(h:p:=by simp[e7,e6,ec,es,ew,hk,hk1,d2,en];try rfl):p:=h
theorem Z1m{p:Prop}(h:p:=by apply Qcl<;>first|assumption|omega|(simp;omega)|(simp;done)):p:=h
theorem Z1n{p:Prop}(h:p:=by simp[h4,hS2,hP1,hP2,hfx];rfl):p:=h
theorem Z1o{p:Prop}(h:p:=by first|assumption|omega|(simp;omega)):p:=h
theorem Z1p{p:Prop}(h:p:=by (try simp only[mapL_repB,mapL_repN,mapL_T,mapL_iV,mapL_oFr,mapL_bW,mapL_eFr]);apply (Qno (F:=fAt l c m i0) (st:=s.frs[i0].stack) (lo:=s.frs[i0].locals) (tk:=[]))<;>first|assumption|omega|simp):p:=h
theorem Z1q{p:Prop}(h:p:=by simp[h4,h12,hS2,hP1,hP2,hfx];rfl):p:=h
theorem Z1r{p:Prop}(h:p:=by simp[hX]):p:=h
theorem Z1s{p:Prop}(h:p:=by apply Q8h<;>first|assumption|omega|(simp at*;omega)|simp_all):p:=h
theorem Z1t{p:Prop}(h:p:=by simp[ha,hA,hAt];rfl):p:=h
theorem Z1u{p:Prop}(h:p:=by simp[e32,e34,e35,hk,w1,w2,w3,w4,w5];try rfl):p:=h
theorem Z1v{p:Prop}(h:p:=by simp[ha,w1,w2,w3,w4,w1,w2,w3,w4,h15,h18];rfl):p:=h
theorem Z1w{p:Prop}(h:p:=by apply Qcb<;>first|assumption|omega|(have:=Q3j (f:=Q7e) (List.getElem_mem h4);simp only[Q7e] at*;(try simp only[Qa h4]);omega)|(have:=Q3j (f:=Q3q) (List.getElem_mem h10);(try simp only[Qa h10]);omega)):p:=h
theorem Z1x{p:Prop}(h:p:=by simp[h2];try (simp (disch:=omega) only[Qc])):p:=h
theorem Z1y{p:Prop}(h:p:=by simp[wq,h3,hq,hq1,d2,hat,hlt,hfi];rfl):p:=h
theorem Z1z{p:Prop}(h:p:=by apply Qf2<;>first|assumption|omega|(simp;omega)|(simp;done)):p:=h
theorem Z20{p:Prop}(h:p:=by simp[hL,hk,hk1,d2,en];rfl):p:=h
theorem Z21{p:Prop}(h:p:=by simp[-Qr,-Qa,ho];rfl):p:=h
theorem Z22{p:Prop}(h:p:=by (try simp);rfl):p:=h
theorem Z23{p:Prop}(h:p:=by simp[h3,Q6w,Qgr,w1,w2];rfl):p:=h
theorem Z24{p:Prop}(h:p:=by kernel_rfl):p:=h
theorem Z25{p:Prop}(h:p:=by simp[ec,e41,e42,e44,kk,kkk,k0];rfl):p:=h
theorem Z26{p:Prop}(h:p:=by apply Q8f<;>first|assumption|omega|(have:=Q3j (f:=Q7e) (List.getElem_mem h4);simp only[Q7e] at*;(try simp only[Qa h4]);omega)|(have:=Q3j (f:=Q3q) (List.getElem_mem h14);omega)):p:=h
theorem Z27{p:Prop}(h:p:=by apply Q6x<;>first|assumption|omega|(simp;omega)|(simp;done)):p:=h
theorem Z28{p:Prop}(h:p:=by simp[Q6w,Qgr,w1,w2];(try (simp (disch:=omega) only[Qc];(try simp[Q6w,Qgr,w1,w2])));rfl):p:=h
theorem Z29{p:Prop}(h:p:=by simp[ha,hA,hmn,hAt,hwl,ho];rfl):p:=h
theorem Z2a{p:Prop}(h:p:=by simp[hat,hlt,hfi];rfl):p:=h
theorem Z2b{p:Prop}(h:p:=by simp[q0,w1,w2,w3,w4,h5,hwi,n2];rfl):p:=h
theorem Z2c{p:Prop}(h:p:=by simp[w1,w2,w3,w4,hy,hxs,hy4,hx4,hyj,hxj];rfl):p:=h
theorem Z2d{p:Prop}(h:p:=by apply Q7r<;>first|assumption|omega|(intro e;(have k2:=kt;simp[Q2a,tk1,tk2,e] at k2;omega))|(intro e;rcases e with e|e<;>(have k2:=kt;simp[Q2a,tk1,tk2,e] at k2;omega))|(intro e;rcases e with e|e|e<;>(have k2:=kt;simp[Q2a,tk1,tk2,e] at k2;omega))):p:=h
theorem Z2e{p:Prop}(h:p:=by apply Qac<;>first|assumption|omega|(simp;omega)|(simp;done)):p:=h
theorem Z2f{p:Prop}(h:p:=by apply Q64<;>first|assumption|omega|(intro e;(have k2:=kt;simp[Q2a,tk1,tk2,e] at k2;omega))|(intro e;rcases e with e|e<;>(have k2:=kt;simp[Q2a,tk1,tk2,e] at k2;omega))|(intro e;rcases e with e|e|e<;>(have k2:=kt;simp[Q2a,tk1,tk2,e] at k2;omega))):p:=h
theorem Z2g{p:Prop}(h:p:=by assumption):p:=h
theorem Z2h{p:Prop}(h:p:=by simp[Q4i];rfl):p:=h
theorem Z2i{p:Prop}(h:p:=by apply Q7y<;>first|assumption|omega|(simp;omega)|(simp;done)):p:=h
theorem Z2j{p:Prop}(h:p:=by simp[w1,w2,w3,w4,hy,hxs,hy4,hx4,hyj,hxj]):p:=h
theorem Z2k{p:Prop}(h:p:=by apply Qfi<;>first|assumption|omega|(simp;omega)|(simp;done)):p:=h
theorem Z2l{p:Prop}(h:p:=by simp[q0,w1,w2,w3,w4];try rfl):p:=h
theorem Z2m{p:Prop}(h:p:=by apply Q8f<;>first|assumption|omega|(simp at*;omega)|simp_all):p:=h
theorem Z2n{p:Prop}(h:p:=by apply Qcb<;>first|assumption|omega|(simp at*;omega)|simp_all):p:=h
theorem Z2o{p:Prop}(h:p:=by apply Qlc<;>first|assumption|omega|(simp;omega)|(simp;done)):p:=h
theorem Z2p{p:Prop}(h:p:=by apply Qf1<;>first|assumption|omega|(simp at*;omega)|simp_all):p:=h
theorem Z2q{p:Prop}(h:p:=by first|(apply Q25 (t:=⟨4,[],0⟩)<;>first|assumption|omega|(simp;omega)|(simp;done);done)|(apply Q25 (t:=⟨5,Q1c F.i.desc,0⟩)<;>first|assumption|omega|(simp;omega)|(simp;done);done)):p:=h
theorem Z2r{p:Prop}(h:p:=by simp[n1,n2,n3];rfl):p:=h
theorem Z2s{p:Prop}(h:p:=by first|assumption|omega|(have:=Q3j (f:=Q7e) (List.getElem_mem h3);simp only[Q7e] at*;(try simp only[Qa h3]);omega)|(have:=Q3j (f:=Q3q) (List.getElem_mem h9);simp only[Q3q] at*;(try simp only[Qa h9]);omega)):p:=h
theorem Z2t{p:Prop}(h:p:=by simp[-Qr,-Qa,e32,e34,e35,hk,w1,w2,w3,w4,w5];rfl):p:=h
theorem Z2u{p:Prop}(h:p:=by apply Qh5<;>first|assumption|omega|(simp;omega)|(simp;done)):p:=h
theorem Z2v{p:Prop}(h:p:=by apply Qdk<;>first|assumption|omega|(simp;omega)|(simp;done)):p:=h
theorem Z2w{p:Prop}(h:p:=by simp[hy,Q4i];rfl):p:=h
theorem Z2x{p:Prop}(h:p:=by simp[ha,w1,w2,w3,w4];rfl):p:=h
theorem Z2y{p:Prop}(h:p:=by simp[q0,w1,w2,w3,w4,hb,hwi,h8,n2];rfl):p:=h
theorem Z2z{p:Prop}(h:p:=by simp[z0]):p:=h
theorem Z30{p:Prop}(h:p:=by first|assumption|omega|exact Q9u hs):p:=h
theorem Z31{p:Prop}(h:p:=by simp[h2,hp,h5,h12,hcl2,h15,h17,hb];(try (simp (disch:=omega) only[Qc];(try simp[h2,hp,h5,h12,hcl2,h15,h17,hb])));rfl):p:=h
theorem Z32{p:Prop}(h:p:=by first|assumption|omega|exact hb1 _ (List.getElem_mem _)|exact hb2 _ (List.getElem_mem _)):p:=h
theorem Z33{p:Prop}(h:p:=by apply Q21 (ys:=[⟨1,[],0⟩])<;>first|assumption|omega|(simp;omega)|(simp;done)):p:=h
theorem Z34{p:Prop}(h:p:=by simpa[Qn] using h14):p:=h
theorem Z35{p:Prop}(h:p:=by simp[h2,h5];rfl):p:=h
theorem Z36{p:Prop}(h:p:=by apply Q9k<;>first|assumption|omega|(simp;omega)|(simp;done)):p:=h
theorem Z37{p:Prop}(h:p:=by simp[h2];(try (simp (disch:=omega) only[Qc];(try simp[h2])));rfl):p:=h
theorem Z38{p:Prop}(h:p:=by apply Q77<;>first|assumption|omega|(simp[*]<;>omega)|(simp<;>omega)):p:=h
theorem Z39{p:Prop}(h:p:=by simp[hk,hk1,d2,en];try rfl):p:=h
theorem Z3a{p:Prop}(h:p:=by apply Qn9<;>first|assumption|omega):p:=h
theorem Z3b{p:Prop}(h:p:=by simp[h2,hp,h5];rfl):p:=h
theorem Z3c{p:Prop}(h:p:=by simp[w0,w1,w2,h7,hp];rfl):p:=h
theorem Z3d{p:Prop}(h:p:=by first|assumption|omega|(have:=Q3j (f:=Q7e) (List.getElem_mem h2);simp only[Q7e] at*;omega)|(have:=Q3j (f:=Q3q) (List.getElem_mem h7);simp only[Q3q] at*;omega)):p:=h
theorem Z3e{p:Prop}(h:p:=by apply Qb8<;>first|assumption|omega|(simp;omega)|(simp;done)):p:=h
theorem Z3f{p:Prop}(h:p:=by simp[ha,w1,w2,w3,w4,w1,w2,w3,w4,h15,h18];try rfl):p:=h
theorem Z3g{p:Prop}(h:p:=by apply Qp8<;>first|assumption|omega|exact hP.1|exact hP.2.1|exact hP.2.2.1|exact hP.2.2.2.1|exact hP.2.2.2.2.1|exact hP.2.2.2.2.2.1|exact hP.2.2.2.2.2.2):p:=h
theorem Z3h{p:Prop}(h:p:=by simp[hL,hk,hk1,d2,en];try rfl):p:=h
theorem Z3i{p:Prop}(h:p:=by simp[h3];rfl):p:=h
theorem Z3j{p:Prop}(h:p:=by first|(simp[wa];done)|(simp[wa];rfl)):p:=h
theorem Z3k{p:Prop}(h:p:=by apply Q93<;>first|assumption|omega|(simp at*;omega)|simp_all):p:=h
theorem Z3l{p:Prop}(h:p:=by simp;omega):p:=h
theorem Z3m{p:Prop}(h:p:=by apply Qh1<;>first|assumption|omega|(simp;omega)|(simp;done)):p:=h
theorem Z3n{p:Prop}(h:p:=by apply Qac<;>first|assumption|omega|(simp at*;omega)|simp_all):p:=h
theorem Z3o{p:Prop}(h:p:=by first|assumption|omega|exact hb _ (List.getElem_mem _)):p:=h
theorem Z3p{p:Prop}(h:p:=by simp[h3,Q6w,Qgr];first|exact Qn2 h3|(constructor<;>first|omega|exact Qn2 h3)):p:=h
theorem Z3q{p:Prop}(h:p:=by simp[q0,w1,w2,w3,w4,h5,hwi,n2,h12,kf,hpx];rfl):p:=h
theorem Z3r{p:Prop}(h:p:=by apply Qc8<;>first|assumption|omega|(simp at*;omega)|simp_all):p:=h
theorem Z3s{p:Prop}(h:p:=by apply Qf2<;>first|assumption|omega|(simp;omega)):p:=h
theorem Z3t{p:Prop}(h:p:=by (try simp[hk,hk1,d2,en]);rfl):p:=h
theorem Z3u{p:Prop}(h:p:=by apply Qn8<;>first|assumption|omega|(simp at*;omega)|simp_all):p:=h
theorem Z3v{p:Prop}(h:p:=by simp[h2,hp,h5,h22,hk3];(try (simp (disch:=omega) only[Qc];(try simp[h2,hp,h5,h22,hk3])));rfl):p:=h
theorem Z3w{p:Prop}(h:p:=by decide):p:=h
theorem Z3x{p:Prop}(h:p:=by simp[hk,hi,h4,h7,hcl];(try (simp (disch:=omega) only[Qc];(try simp[hk,hi,h4,h7,hcl])));rfl):p:=h
theorem Z3y{p:Prop}(h:p:=by first|assumption|omega|exact hsz hp|(have:=hsz hp;simp only[Q1r] at this;omega)):p:=h
theorem Z3z{p:Prop}(h:p:=by simp[w0,w1,w2,h9,hp];(try (simp (disch:=omega) only[Qc];(try simp[w0,w1,w2,h9,hp])));rfl):p:=h
theorem Z40{p:Prop}(h:p:=by simp[zT];try (simp (disch:=omega) only[Qc])):p:=h
theorem Z41{p:Prop}(h:p:=by rw[List.take_of_length_le h2];exact hx):p:=h
theorem Z42{p:Prop}(h:p:=by simp[w0,w1,w2,h7,hp];(try (simp (disch:=omega) only[Qc];(try simp[w0,w1,w2,h7,hp])));rfl):p:=h
theorem Z43{p:Prop}(h:p:=by apply Qh6<;>first|assumption|omega|(simp at*;omega)|simp_all):p:=h
theorem Z44{p:Prop}(h:p:=by simp[h4,h4b,h4c];try (simp (disch:=omega) only[Qc])):p:=h
theorem Z45{p:Prop}(h:p:=by apply Qh5<;>first|assumption|omega|(simp at*;omega)|simp_all):p:=h
theorem Z46{p:Prop}(h:p:=by simp[h2,h5,h8];try (simp (disch:=omega) only[Qc])):p:=h
theorem Z47{p:Prop}(h:p:=by simp[w1,w2];rfl):p:=h
theorem Z48{p:Prop}(h:p:=by simp[w1,w2,h3,w1,w2,h11,hYl,hYt,hYj,hv];(try (simp (disch:=omega) only[Qc];(try simp[w1,w2,h3,w1,w2,h11,hYl,hYt,hYj,hv])));rfl):p:=h
theorem Z49{p:Prop}(h:p:=by simpa using h):p:=h
theorem Z4a{p:Prop}(h:p:=by (try simp[e36,e37,hk,hk1,d2,en]);rfl):p:=h
theorem Z4b{p:Prop}(h:p:=by first|assumption|exact hs _ (List.getElem_mem h2)|omega):p:=h
theorem Z4c{p:Prop}(h:p:=by simp[w1,w2,w3,w4];rfl):p:=h
theorem Z4d{p:Prop}(h:p:=by simp[-Qr,-Qa,hy,Q4i];rfl):p:=h
theorem Z4e{p:Prop}(h:p:=by apply Q9q<;>first|assumption|omega|(simp;omega)):p:=h
theorem Z4f{p:Prop}(h:p:=by apply Qaf<;>first|assumption|omega|(simp[*]<;>omega)|(simp<;>omega)):p:=h
theorem Z4g{p:Prop}(h:p:=by simp[h3];exact (congrArg (jkL _) (Qn2 h3)).trans (jkL_pure _ _ (Qwe (fun x=>by simp[V.pure,pureL]) (by simp[V.pure,pureL])))):p:=h
theorem Z4h{p:Prop}(h:p:=by first|assumption|omega|exact hP.1|exact hP.2.1|exact hP.2.2.1|exact hP.2.2.2.1|exact hP.2.2.2.2.1|exact hP.2.2.2.2.2.1|exact hP.2.2.2.2.2.2):p:=h
theorem Z4i{p:Prop}(h:p:=by simp[w0,w1,w2,h9,hp];rfl):p:=h
theorem Z4j{p:Prop}(h:p:=by simpa using h4):p:=h
theorem Z4k{p:Prop}(h:p:=by (try simp[e32,e34,e35,hk,w1,w2,w3,w4,w5]);rfl):p:=h
theorem Z4l{p:Prop}(h:p:=by simp[h2,h5,m1,m2,hYl,hYZ,h5x,hv];(try (simp (disch:=omega) only[Qc];(try simp[h2,h5,m1,m2,hYl,hYZ,h5x,hv])));rfl):p:=h
theorem Z4m{p:Prop}(h:p:=by simp[h3b,w1,w2,h7b,h11];rfl):p:=h
theorem Z4n{p:Prop}(h:p:=by simp[h3b,w0,w1,h7b,h11];rfl):p:=h
theorem Z4o{p:Prop}(h:p:=by apply Q77<;>first|assumption|omega|(simp[*]<;>omega)|simp_all):p:=h
theorem Z4p{p:Prop}(h:p:=by simp[hk,hi,hcl];rfl):p:=h
theorem Z4q{p:Prop}(h:p:=by simp[hnext,hYj,hv];try (simp (disch:=omega) only[Qc])):p:=h
theorem Z4r{p:Prop}(h:p:=by simp[ha];rfl):p:=h
theorem Z4s{p:Prop}(h:p:=by apply Qin<;>first|assumption|omega|(simp at*;omega)|simp_all):p:=h
theorem Z4t{p:Prop}(h:p:=by apply Q4m<;>first|assumption|omega):p:=h
theorem Z4u{p:Prop}(h:p:=by simp[w1,w2,h3,hYl,hYt,hYj,hv];(try (simp (disch:=omega) only[Qc];(try simp[w1,w2,h3,hYl,hYt,hYj,hv])));rfl):p:=h
theorem Z4v{p:Prop}(h:p:=by apply Q7r<;>first|assumption|omega|(simp at*;omega)|simp_all):p:=h
theorem Z4w{p:Prop}(h:p:=by apply Qis<;>first|assumption|omega|(simp;omega)|(simp;done)):p:=h
theorem Z4x{p:Prop}(h:p:=by apply Qiw<;>first|assumption|omega|(simp;omega)|(simp;done)):p:=h
theorem Z4y{p:Prop}(h:p:=by simp[mapL_repB,mapL_repN];try rfl):p:=h
theorem Z4z{p:Prop}(h:p:=by simp[h2,h5,h8];rfl):p:=h
theorem Z50{p:Prop}(h:p:=by apply Qc6<;>first|assumption|omega|(simp at*;omega)|simp_all):p:=h
theorem Z51{p:Prop}(h:p:=by simp[h1,h7,p1,h10,p2];rfl):p:=h
theorem Z52{p:Prop}(h:p:=by apply Qc9<;>first|assumption|omega|(simp at*;omega)|simp_all):p:=h
theorem Z53{p:Prop}(h:p:=by simp[Go.Ev.seen];rfl):p:=h
theorem Z54{p:Prop}(h:p:=by simp[ha,k,h12,hA,hAt];rfl):p:=h
theorem Z55{p:Prop}(h:p:=by apply Qca<;>first|assumption|omega|(simp at*;omega)|simp_all):p:=h
theorem Z56{p:Prop}(h:p:=by apply Q6x<;>first|assumption|omega|(simp at*;omega)|simp_all):p:=h
theorem Z57{p:Prop}(h:p:=by apply Qlr<;>first|assumption|omega|(simp;omega)|(simp;done)):p:=h
theorem Z58{p:Prop}(h:p:=by simp[h4,h4b,h4c];rfl):p:=h
theorem Z59{p:Prop}(h:p:=by apply Qpl<;>first|assumption|omega|(simp at*;omega)|simp_all):p:=h
theorem Z5a{p:Prop}(h:p:=by apply Qdl<;>first|assumption|omega|(simp;omega)|(simp;done)):p:=h
theorem Z5b{p:Prop}(h:p:=by simp;try (simp (disch:=omega) only[Qc])):p:=h
theorem Z5c{p:Prop}(h:p:=by apply Qh0<;>first|assumption|omega|(simp at*;omega)|simp_all):p:=h
theorem Z5d{p:Prop}(h:p:=by apply Qf1<;>first|assumption|omega|(simp;omega)|(simp;done)):p:=h
theorem Z5e{p:Prop}(h:p:=by simp[k];rfl):p:=h
theorem Z5f{p:Prop}(h:p:=by intro b;(try simp at b);(have hlt:i<t.length:=by omega);exact (jh hX (by simp[-Qr,-Qa,h1,h10,hlt];rfl))):p:=h
theorem Z5g{p:Prop}(h:p:=by apply Qrv<;>first|assumption|omega|(simp;omega)|(simp;done)):p:=h
theorem Z5h{p:Prop}(h:p:=by apply Q8k<;>first|assumption|omega|exact Q9u hs):p:=h
theorem Z5i{p:Prop}(h:p:=by apply Q9k<;>first|assumption|omega|(simp at*;omega)|simp_all):p:=h
theorem Z5j{p:Prop}(h:p:=by rw[Q8v.2.1];omega):p:=h
theorem Z5k{p:Prop}(h:p:=by simp[h2,Q4i];rfl):p:=h
theorem Z5l{p:Prop}(h:p:=by simp[h14,hB,h16,hat,hlt,hfi,d2,wa];rfl):p:=h
theorem Z5m{p:Prop}(h:p:=by apply Q4m<;>first|assumption|omega|exact hsz hp|(have:=hsz hp;simp only[Q1r] at this;omega)):p:=h
theorem Z5n{p:Prop}(h:p:=by apply Q59<;>first|assumption|omega|exact Q9u hs):p:=h
theorem Z5o{p:Prop}(h:p:=by apply Q49<;>first|assumption|omega|exact Q9u hs):p:=h
theorem Z5p{p:Prop}(h:p:=by simp[hc1,hc2];rfl):p:=h
theorem Z5q{p:Prop}(h:p:=by rw[List.length_take];omega):p:=h
theorem Z5r{p:Prop}(h:p:=by simp[h1,h4];rfl):p:=h
theorem Z5s{p:Prop}(h:p:=by simp[h2,h7];rfl):p:=h
theorem Z5t{p:Prop}(h:p:=by simp[h6,h8];try (simp (disch:=omega) only[Qc])):p:=h
theorem Z5u{p:Prop}(h:p:=by simp[h3b,w1,w2,h7b];rfl):p:=h
theorem Z5v{p:Prop}(h:p:=by simp[h3b,w0,w1,h7b];rfl):p:=h
theorem Z5w{p:Prop}(h:p:=by simp[-Qr,-Qa,h1];rfl):p:=h
theorem Z5x{p:Prop}(h:p:=by simp[-Qr,-Qa,h2];rfl):p:=h
theorem Z5y{p:Prop}(h:p:=by simp[];try rfl):p:=h
theorem Z5z{p:Prop}(h:p:=by first|(simp[Q4p,Qn,h2,h4];done)|(simp[Q4p,Qn,h2];done)):p:=h
theorem Z60{p:Prop}(h:p:=by first|(simp[Q4p,Qn,h3,h4];done)|(simp[Q4p,Qn,h3];done)):p:=h
theorem Z61{p:Prop}(h:p:=by apply Q8i<;>first|assumption|omega|(simp;omega)):p:=h
theorem Z62{p:Prop}(h:p:=by apply Q2z (l:=lo)<;>first|assumption|omega|(simp;omega)|(simp;done)):p:=h
theorem Z63{p:Prop}(h:p:=by simp[h1,h7,p1,h10,p2];(try (simp (disch:=omega) only[Qc];(try simp[h1,h7,p1,h10,p2])));rfl):p:=h
theorem Z64{p:Prop}(h:p:=by simp[h2,h6,hj,hjm,Q4i];rfl):p:=h
theorem Z65{p:Prop}(h:p:=by simp[h2,hq,w1,w2,h6];(try (simp (disch:=omega) only[Qc];(try simp[h2,hq,w1,w2,h6])));rfl):p:=h
theorem Z66{p:Prop}(h:p:=by simp[h1,h3,h6,h13,h21,h26,h36];rfl):p:=h
theorem Z67{p:Prop}(h:p:=by simp[en,h0];rfl):p:=h
theorem Z68{p:Prop}(h:p:=by apply Qf3<;>first|assumption|omega|exact Nat.le_trans (hps.2 _ (List.getElem_mem _)) ht):p:=h
theorem Z69{p:Prop}(h:p:=by simp[-Qr,-Qa,b1_4];rfl):p:=h
theorem Z6a{p:Prop}(h:p:=by simp[-Qr,-Qa];(try (simp (disch:=omega) only[Qc];(try simp[-Qr,-Qa])));rfl):p:=h
theorem Z6b{p:Prop}(h:p:=by first|assumption|omega|exact Nat.le_trans (hps.2 _ (List.getElem_mem _)) ht):p:=h
theorem Z6c{p:Prop}(h:p:=by simp[w0,w1,w2,h9,hp];try (simp (disch:=omega) only[Qc])):p:=h
theorem Z6d{p:Prop}(h:p:=by simp[hk,hi,h17,hcl];(try (simp (disch:=omega) only[Qc];(try simp[hk,hi,h17,hcl])));rfl):p:=h
theorem Z6e{p:Prop}(h:p:=by simp[w0,w1,w2,h7,hp];try (simp (disch:=omega) only[Qc])):p:=h
theorem Z6f{p:Prop}(h:p:=by rw[getD_replicate_false] at hl;cases hl):p:=h
theorem Z6g{p:Prop}(h:p:=by apply Q5j<;>first|assumption|omega|(simp;omega)):p:=h
theorem Z6h{p:Prop}(h:p:=by apply Q6x<;>first|assumption|omega|(simp;omega)):p:=h
theorem Z6i{p:Prop}(h:p:=by apply Qdl<;>first|assumption|omega|(simp;omega)):p:=h
theorem Z6j{p:Prop}(h:p:=by simp[ha,w1,w2,w3,w4,w1,w2,w3,w4,h15];rfl):p:=h
theorem Z6k{p:Prop}(h:p:=by simp[h2,h7,h11,h13,h15];rfl):p:=h
theorem Z6l{p:Prop}(h:p:=by simp[-Qr,-Qa,Go.Ev.seen];rfl):p:=h
theorem Z6m{p:Prop}(h:p:=by apply Q2z<;>first|assumption|omega|(simp;omega)|(simp;done)):p:=h
theorem Z6n{p:Prop}(h:p:=by simp[hw,hc2,hc3];rfl):p:=h
theorem Z6o{p:Prop}(h:p:=by simp[h6,p1,h9,p2];(try (simp (disch:=omega) only[Qc];(try simp[h6,p1,h9,p2])));rfl):p:=h
theorem Z6p{p:Prop}(h:p:=by apply Q3a<;>first|assumption|omega|(simp at*;omega)|simp_all):p:=h
theorem Z6q{p:Prop}(h:p:=by first|assumption|omega|(simp[*]<;>omega)|simp_all):p:=h
theorem Z6r{p:Prop}(h:p:=by rw[hu];simpa using h8):p:=h
theorem Z6s{p:Prop}(h:p:=by simp[h1,e1,hq,hj,hjl];rfl):p:=h
theorem Z6t{p:Prop}(h:p:=by simp[w0,w1,w2,h9,h12];rfl):p:=h
theorem Z6u{p:Prop}(h:p:=by simp[w0,w1,w2,h7,h11];rfl):p:=h
theorem Z6v{p:Prop}(h:p:=by simp[hy,Q4i];(try (simp (disch:=omega) only[Qc];(try simp[hy,Q4i])));rfl):p:=h
theorem Z6w{p:Prop}(h:p:=by simp[h6,p1,h9,p2];rfl):p:=h
theorem Z6x{p:Prop}(h:p:=by rw[he];omega):p:=h
theorem Z6y{p:Prop}(h:p:=by simpa using h1):p:=h
theorem Z6z{p:Prop}(h:p:=by simp[w1,w2,h6];(try (simp (disch:=omega) only[Qc];(try simp[w1,w2,h6])));rfl):p:=h
theorem Z70{p:Prop}(h:p:=by simp[h3,h7,h10,hy,Q4i];rfl):p:=h
theorem Z71{p:Prop}(h:p:=by simp[-Qr,-Qa,hk,hk1,d2,en];rfl):p:=h
theorem Z72{p:Prop}(h:p:=by simp[wq,hat,hlt,hfi];rfl):p:=h
theorem Z73{p:Prop}(h:p:=by rw[Q8v.1];omega):p:=h
theorem Z74{p:Prop}(h:p:=by apply Qh8<;>first|assumption|omega|(simp at*;omega)|simp_all):p:=h
theorem Z75{p:Prop}(h:p:=by simp[h4,h4b];(try (simp (disch:=omega) only[Qc];(try simp[h4,h4b])));rfl):p:=h
theorem Z76{p:Prop}(h:p:=by apply Q49<;>first|assumption|omega|(simp at*;omega)|simp_all):p:=h
theorem Z77{p:Prop}(h:p:=by apply (Q3a (l:=Q3k.drop 2))<;>first|decide|simp):p:=h
theorem Z78{p:Prop}(h:p:=by simp[Q4i];(try (simp (disch:=omega) only[Qc];(try simp[Q4i])));rfl):p:=h
theorem Z79{p:Prop}(h:p:=by simp[h2,h6];try (simp (disch:=omega) only[Qc])):p:=h
theorem Z7a{p:Prop}(h:p:=by apply Q59<;>first|assumption|omega|(simp at*;omega)|simp_all):p:=h
theorem Z7b{p:Prop}(h:p:=by apply Qad<;>first|assumption|omega|(simp at*;omega)|simp_all):p:=h
theorem Z7c{p:Prop}(h:p:=by apply Q49<;>first|assumption|omega|(simp;omega)|(simp;done)):p:=h
theorem Z7d{p:Prop}(h:p:=by apply Qjw<;>first|assumption|omega|(simp at*;omega)|simp_all):p:=h
theorem Z7e{p:Prop}(h:p:=by simp[h2,h5];(try (simp (disch:=omega) only[Qc];(try simp[h2,h5])));rfl):p:=h
theorem Z7f{p:Prop}(h:p:=by simp[h4];rfl):p:=h
theorem Z7g{p:Prop}(h:p:=by simp[h1,h7,w0,h18,hge,hle,h26];rfl):p:=h
theorem Z7h{p:Prop}(h:p:=by apply Qc7<;>first|assumption|omega|(simp at*;omega)|simp_all):p:=h
theorem Z7i{p:Prop}(h:p:=by simp[h1,hq,w1,w2,w3,w4,d1,d2];rfl):p:=h
theorem Z7j{p:Prop}(h:p:=by apply Qjx<;>first|assumption|omega|(simp at*;omega)|simp_all):p:=h
theorem Z7k{p:Prop}(h:p:=by simp[h14,hB,hat,hlt,hfi,d2,wa];rfl):p:=h
theorem Z7l{p:Prop}(h:p:=by rw[hr] at h0;cases h0):p:=h
theorem Z7m{p:Prop}(h:p:=by apply Q9b<;>first|assumption|omega|(simp at*;omega)|simp_all):p:=h
theorem Z7n{p:Prop}(h:p:=by simp[h1,h3,h6,h13];rfl):p:=h
theorem Z7o{p:Prop}(h:p:=by apply Qn7<;>first|assumption|omega|(simp at*;omega)|simp_all):p:=h
theorem Z7p{p:Prop}(h:p:=by simp[-Qr,-Qa,h2,hp,h5,h12,hcl2,h15];rfl):p:=h
theorem Z7q{p:Prop}(h:p:=by apply Qla<;>first|assumption|omega|(simp;omega)|(simp;done)):p:=h
theorem Z7r{p:Prop}(h:p:=by apply Qcc<;>first|assumption|omega|(simp;omega)|(simp;done)):p:=h
theorem Z7s{p:Prop}(h:p:=by first|(simp[hws,hxs];(try (simp (disch:=omega) only[Qc]));done)|fail):p:=h
theorem Z7t{p:Prop}(h:p:=by apply Q4m<;>first|assumption|omega|(simp at*;omega)|simp_all):p:=h
theorem Z7u{p:Prop}(h:p:=by intro b;(try simp at b);exact (jh hX (by simp[-Qr,-Qa,hx,hy,hxs];rfl))):p:=h
theorem Z7v{p:Prop}(h:p:=by apply Q5j<;>first|assumption|omega|(simp;omega)|(simp;done)):p:=h
theorem Z7w{p:Prop}(h:p:=by apply Qpa<;>first|assumption|omega|(simp at*;omega)|simp_all):p:=h
theorem Z7x{p:Prop}(h:p:=by apply Qh2<;>first|assumption|omega|(simp at*;omega)|simp_all):p:=h
theorem Z7y{p:Prop}(h:p:=by intro b;(try simp at b);exact (jh hX (by simp[-Qr,-Qa,h2,hp,h5];rfl))):p:=h
theorem Z7z{p:Prop}(h:p:=by apply Qhd<;>first|assumption|omega|(simp at*;omega)|simp_all):p:=h
theorem Z80{p:Prop}(h:p:=by apply Qs4<;>first|assumption|omega|(simp at*;omega)|simp_all):p:=h
theorem Z81{p:Prop}(h:p:=by rw[←e];exact hid):p:=h
theorem Z82{p:Prop}(h:p:=by simp[h3];try (simp (disch:=omega) only[Qc])):p:=h
theorem Z83{p:Prop}(h:p:=by simp[w1,w2,h3,w1,w2,h11,hYl,hYt,hYj,hv];rfl):p:=h
theorem Z84{p:Prop}(h:p:=by simp[w0,w1,w2];rfl):p:=h
theorem Z85{p:Prop}(h:p:=by simp[h4,h5,s1,s2];rfl):p:=h
theorem Z86{p:Prop}(h:p:=by simp[w0,w1,w2,h7];rfl):p:=h
theorem Z87{p:Prop}(h:p:=by simp[hk,hi,h4,h7,hcl];rfl):p:=h
theorem Z88{p:Prop}(h:p:=by intro b;(try simp at b);exact (jh hX (by simp[-Qr,-Qa,Q4i];rfl))):p:=h
theorem Z89{p:Prop}(h:p:=by show¬0≤Q1j n d [] 0;rw[Qwv];omega):p:=h
theorem Z8a{p:Prop}(h:p:=by simp[h1,h7];rfl):p:=h
theorem Z8b{p:Prop}(h:p:=by simp[hdIn];grind):p:=h
theorem Z8c{p:Prop}(h:p:=by simp[h3];(try (simp (disch:=omega) only[Qc];(try simp[h3])));rfl):p:=h
theorem Z8d{p:Prop}(h:p:=by simp[h2,hp,h5,h10,hq,h14,hq,h14b,h14];rfl):p:=h
theorem Z8e{p:Prop}(h:p:=by simp[h1,h7,w0,h18,hge,hle];rfl):p:=h
theorem Z8f{p:Prop}(h:p:=by simp[-Qr,-Qa,ha,w1,w2,w3,w4,w1,w2,w3,w4,h15,b18_5];rfl):p:=h
theorem Z8g{p:Prop}(h:p:=by simp[h3b,w1,w2,h7b,w2,h11];rfl):p:=h
theorem Z8h{p:Prop}(h:p:=by simp[h3b,w0,w1,h7b,w2,h11];rfl):p:=h
theorem Z8i{p:Prop}(h:p:=by rw[Q2f hk (Nat.le_of_lt he)];omega):p:=h
theorem Z8j{p:Prop}(h:p:=by simp[-Qr,-Qa,ha,k,h12,hA,hAt];rfl):p:=h
theorem Z8k{p:Prop}(h:p:=by intro b;(try simp at b);exact (jh hX (by simp[-Qr,-Qa,k];rfl))):p:=h
theorem Z8l{p:Prop}(h:p:=by simp[h1,h3,h6,h13,h21,h26,h30,h30q];rfl):p:=h
theorem Z8m{p:Prop}(h:p:=by simp[hnext,hv,m1,m2,m3];try (simp (disch:=omega) only[Qc])):p:=h
theorem Z8n{p:Prop}(h:p:=by simp[hk,hi,h17,hcl];rfl):p:=h
theorem Z8o{p:Prop}(h:p:=by simp[w1,w2,ha,hA,hAt,ho];rfl):p:=h
theorem Z8p{p:Prop}(h:p:=by apply Q7j<;>first|omega|assumption):p:=h
theorem Z8q{p:Prop}(h:p:=by simp[-Qr,-Qa,h2,h10,h13,h18];rfl):p:=h
theorem Z8r{p:Prop}(h:p:=by simp[h4,h4b];rfl):p:=h
theorem Z8s{p:Prop}(h:p:=by simp[q0,w1,w2,w3,w4,h5,hwi,n2];try rfl):p:=h
theorem Z8t{p:Prop}(h:p:=by simp[w0,w1,w2,h3,h3b];try (simp (disch:=omega) only[Qc])):p:=h
theorem Z8u{p:Prop}(h:p:=by simp[h1,h7,p1,h10,p2];try (simp (disch:=omega) only[Qc])):p:=h
theorem Z8v{p:Prop}(h:p:=by simpa using hx):p:=h
theorem Z8w{p:Prop}(h:p:=by (try simp[-Qr,-Qa]);rfl):p:=h
theorem Z8x{p:Prop}(h:p:=by simp[h1,h4,hp,h7];rfl):p:=h
theorem Z8y{p:Prop}(h:p:=by rw[hm _ hp];exact h):p:=h
theorem Z8z{p:Prop}(h:p:=by show j+1≤_;omega):p:=h
theorem Z90{p:Prop}(h:p:=by simp[h1,h7,w0,h18,h26];rfl):p:=h
theorem Z91{p:Prop}(h:p:=by simp[h1,h3,h6,h13,h21];rfl):p:=h
theorem Z92{p:Prop}(h:p:=by simp[h3b,w1,w2,h7b,w2];rfl):p:=h
theorem Z93{p:Prop}(h:p:=by simp[h3b,w0,w1,h7b,w2];rfl):p:=h
theorem Z94{p:Prop}(h:p:=by simp[-Qr,-Qa,h3,h7,b10_8,hk0,hk1,hy,Q4i];rfl):p:=h
theorem Z95{p:Prop}(h:p:=by simp[hcl];rfl):p:=h
theorem Z96{p:Prop}(h:p:=by simp[h6,p1,h9,p2];try (simp (disch:=omega) only[Qc])):p:=h
theorem Z97{p:Prop}(h:p:=by simp[-Qr,-Qa,e7,e6,ec,es,ew,hk,hk1,d2,en];rfl):p:=h
theorem Z98{p:Prop}(h:p:=by simp[-Qr,-Qa,h2,hp,h5,h12,hcl2,h15,b17_14];rfl):p:=h
theorem Z99{p:Prop}(h:p:=by simp[w0,w1,w2,h3,h3b];rfl):p:=h
theorem Z9a{p:Prop}(h:p:=by simp[h4,h6,seg];try (simp (disch:=omega) only[Qc])):p:=h
theorem Z9b{p:Prop}(h:p:=by simp[w1,w2,h3,hYl,hYt,hYj,hv];rfl):p:=h
theorem Z9c{p:Prop}(h:p:=by simp[-Qr,-Qa,h1,h4,h10];rfl):p:=h
theorem Z9d{p:Prop}(h:p:=by simpa using h3):p:=h
theorem Z9e{p:Prop}(h:p:=by rw[Qrp];exact R.fz hf' q4 (fun b hb _=>hf b hb) Q1e):p:=h
theorem Z9f{p:Prop}(h:p:=by simp[h2,hq,w1,w2,h6];rfl):p:=h
theorem Z9g{p:Prop}(h:p:=by first|exact h|exact h.elim):p:=h
theorem Z9h{p:Prop}(h:p:=by simp[h1,h10];rfl):p:=h
theorem Z9i{p:Prop}(h:p:=by first|rfl|simp[Q87]):p:=h
theorem Z9j{p:Prop}(h:p:=by simp[la2,ta2,la3,ta3,la4,ta4];rfl):p:=h
theorem Z9k{p:Prop}(h:p:=by simpa[V.free] using hf):p:=h
theorem Z9l{p:Prop}(h:p:=by simp[h2,h7,h11];rfl):p:=h
theorem Z9m{p:Prop}(h:p:=by first|assumption|omega|grind [sub]):p:=h
theorem Z9n{p:Prop}(h:p:=by simp[h2,h10,h13,h18];rfl):p:=h
theorem Z9o{p:Prop}(h:p:=by simp[h22,h24];try (simp (disch:=omega) only[Qc])):p:=h
theorem Z9p{p:Prop}(h:p:=by simp[w0,w1,w2,h9,h12,x1,x2];rfl):p:=h
theorem Z9q{p:Prop}(h:p:=by simp[w0,w1,w2,h7,h11,x1,x2];rfl):p:=h
theorem Z9r{p:Prop}(h:p:=by simp[h1,h10];try (simp (disch:=omega) only[Qc])):p:=h
theorem Z9s{p:Prop}(h:p:=by simp[h15,hb];try (simp (disch:=omega) only[Qc])):p:=h
theorem Z9t{p:Prop}(h:p:=by simp[h4,h4b];try (simp (disch:=omega) only[Qc])):p:=h
theorem Z9u{p:Prop}(h:p:=by simp[q0,w1,w2,w3,w4,hb,hwi,h8,e1,e2,e3,e4];rfl):p:=h
theorem Z9v{p:Prop}(h:p:=by rw[Nat.zero_add];exact Nat.le_refl _):p:=h
theorem Z9w{p:Prop}(h:p:=by rw[Bool.eq_false_iff];exact fun hc=>ho' (Q89.1 hc)):p:=h
theorem Z9x{p:Prop}(h:p:=by simp[h3,Q6w];rfl):p:=h
theorem Z9y{p:Prop}(h:p:=by simp[h1,h4];try (simp (disch:=omega) only[Qc])):p:=h
theorem Z9z{p:Prop}(h:p:=by simp[h1,h3,h6];rfl):p:=h
theorem Za0{p:Prop}(h:p:=by simp[h5,ho];rfl):p:=h
theorem Za1{p:Prop}(h:p:=by simp[e1,hq,h3];rfl):p:=h
theorem Za2{p:Prop}(h:p:=by simp[h2,h7,h11,h13];rfl):p:=h
theorem Za3{p:Prop}(h:p:=by simp[h3,h9];rfl):p:=h
theorem Za4{p:Prop}(h:p:=by simp[h14,hat,hlt,hfi,d2,wa];rfl):p:=h
theorem Za5{p:Prop}(h:p:=by simp[h1,h3,h6,h13,h21,h26];rfl):p:=h
theorem Za6{p:Prop}(h:p:=by simp[-List.map_set,Q165,Q144]):p:=h
theorem Za7{p:Prop}(h:p:=by simp[h2,h5,h8,h11];rfl):p:=h
theorem Za8{p:Prop}(h:p:=by simp[-Qr,-Qa,h2,hp,h5,b10_3,hk8,hi];rfl):p:=h
theorem Za9{p:Prop}(h:p:=by apply Q59<;>first|assumption|omega):p:=h
theorem Zaa{p:Prop}(h:p:=by simp[h3,hy,Q4i];rfl):p:=h
theorem Zab{p:Prop}(h:p:=by simp[ha,hA,hAt,h8];rfl):p:=h
theorem Zac{p:Prop}(h:p:=by apply Q49<;>first|assumption|omega):p:=h
theorem Zad{p:Prop}(h:p:=by simp[h2,h6,Q4i];rfl):p:=h
theorem Zae{p:Prop}(h:p:=by simp[-Qr,-Qa,h1,h4];rfl):p:=h
theorem Zaf{p:Prop}(h:p:=by rw[hx];rfl):p:=h
theorem Zag{p:Prop}(h:p:=by simpa using ht):p:=h
theorem Zah{p:Prop}(h:p:=by simp[hp];rfl):p:=h
theorem Zai{p:Prop}(h:p:=by apply (Qn4 (i:=i) (j:=j) hp)<;>skip):p:=h
theorem Zaj{p:Prop}(h:p:=by simp[-Qr,-Qa,h3,h7,h10,hy,Q4i];rfl):p:=h
theorem Zak{p:Prop}(h:p:=by simp[h2,h6,hk,hj];rfl):p:=h
theorem Zal{p:Prop}(h:p:=by simp[w1,w2,h3,w1,w2,h11];rfl):p:=h
theorem Zam{p:Prop}(h:p:=by apply Qf4<;>first|assumption|omega):p:=h
theorem Zan{p:Prop}(h:p:=by simp[-Qr,-Qa,b2_3];rfl):p:=h
theorem Zao{p:Prop}(h:p:=by simp[ha,w1,w2,w3,w4];try rfl):p:=h
theorem Zap{p:Prop}(h:p:=by (try simp[Q4i]);rfl):p:=h
theorem Zaq{p:Prop}(h:p:=by simp[hYp,hYl,hYu];rfl):p:=h
theorem Zar{p:Prop}(h:p:=by simp only[ldB,decide_eq_false hA,Bool.false_and]):p:=h
theorem Zas{p:Prop}(h:p:=by apply Qgz<;>first|assumption|omega):p:=h
theorem Zat{p:Prop}(h:p:=by apply Qrw<;>first|assumption|omega):p:=h
theorem Zau{p:Prop}(h:p:=by simp[h14,hB,h16,hat,hlt,hfi,d2,wa];try rfl):p:=h
theorem Zav{p:Prop}(h:p:=by simp[-Qr,-Qa,hlt];rfl):p:=h
theorem Zaw{p:Prop}(h:p:=by rw[hp];simp):p:=h
theorem Zax{p:Prop}(h:p:=by simp;try rfl):p:=h
theorem Zay{p:Prop}(h:p:=by simp[h2,hja];rfl):p:=h
theorem Zaz{p:Prop}(h:p:=by rw[hk,hx]):p:=h
theorem Zb0{p:Prop}(h:p:=by simpa[V.solid] using hp):p:=h
theorem Zb1{p:Prop}(h:p:=by simp[w1,w2,h3,w1,w2,h11,hYl,hYt,hYj];rfl):p:=h
theorem Zb2{p:Prop}(h:p:=by apply Qt7<;>first|assumption|omega):p:=h
theorem Zb3{p:Prop}(h:p:=by simp[-Qr,-Qa,h5];rfl):p:=h
theorem Zb4{p:Prop}(h:p:=by simp[-Qr,-Qa,hk,hi,h4,h7,hcl];rfl):p:=h
theorem Zb5{p:Prop}(h:p:=by simp[h1,h4,h14];rfl):p:=h
theorem Zb6{p:Prop}(h:p:=by simp[hx,hy,hxs];rfl):p:=h
theorem Zb7{p:Prop}(h:p:=by simp[e1,hq];rfl):p:=h
theorem Zb8{p:Prop}(h:p:=by simp[-Qr,-Qa,hS2,hP1,hP2,hfx];rfl):p:=h
theorem Zb9{p:Prop}(h:p:=by simp[-Qr,-Qa,h2,h7,h11,b13_3];rfl):p:=h
theorem Zba{p:Prop}(h:p:=by simp[ha,h7];rfl):p:=h
theorem Zbb{p:Prop}(h:p:=by simp[h4,h5];rfl):p:=h
theorem Zbc{p:Prop}(h:p:=by simp[h3b,w1,w2];rfl):p:=h
theorem Zbd{p:Prop}(h:p:=by simp[h1,h4,h10];rfl):p:=h
theorem Zbe{p:Prop}(h:p:=by simp[m1,m2,hYl];rfl):p:=h
theorem Zbf{p:Prop}(h:p:=by have:=Qki hc.1 hc.2;omega):p:=h
theorem Zbg{p:Prop}(h:p:=by simp[h3,h7,hy,Q4i];rfl):p:=h
theorem Zbh{p:Prop}(h:p:=by simpa using hl):p:=h
theorem Zbi{p:Prop}(h:p:=by rw[←hzero,←hsz];exact hz0):p:=h
theorem Zbj{p:Prop}(h:p:=by simpa using hn):p:=h
theorem Zbk{p:Prop}(h:p:=by rw[h] at hr;cases hr):p:=h
theorem Zbl{p:Prop}(h:p:=by simp[h4,s1,s2];rfl):p:=h
theorem Zbm{p:Prop}(h:p:=by simp[h1,h5,h8];rfl):p:=h
theorem Zbn{p:Prop}(h:p:=by simp[la3,ta3,la4,ta4];rfl):p:=h
theorem Zbo{p:Prop}(h:p:=by simp[lz1,lz2,tz1,tz2];rfl):p:=h
theorem Zbp{p:Prop}(h:p:=by first|assumption|omega|simp):p:=h
theorem Zbq{p:Prop}(h:p:=by simp[Qym]):p:=h
theorem Zbr{p:Prop}(h:p:=by (try simp[hy,Q4i]);rfl):p:=h
theorem Zbs{p:Prop}(h:p:=by have:=hi.le;omega):p:=h
theorem Zbt{p:Prop}(h:p:=by simp[h2,hp,h5,h10];rfl):p:=h
theorem Zbu{p:Prop}(h:p:=by simp[hk,hi,h4,hcl];rfl):p:=h
theorem Zbv{p:Prop}(h:p:=by rw[hlen];exact hB):p:=h
theorem Zbw{p:Prop}(h:p:=by rw[Qq4 h,h1];decide):p:=h
theorem Zbx{p:Prop}(h:p:=by simp[w0,w1,w2,h9];rfl):p:=h
theorem Zby{p:Prop}(h:p:=by simp[n1,n2,n3];try rfl):p:=h
theorem Zbz{p:Prop}(h:p:=by rw[←hbytes];exact hbig):p:=h
theorem Zc0{p:Prop}(h:p:=by simpa using hu):p:=h
theorem Zc1{p:Prop}(h:p:=by simp[h2,hp];rfl):p:=h
theorem Zc2{p:Prop}(h:p:=by simp[h1,h5];rfl):p:=h
theorem Zc3{p:Prop}(h:p:=by rw[Qa h2];exact h3):p:=h
theorem Zc4{p:Prop}(h:p:=by simp[k,k0];rfl):p:=h
theorem Zc5{p:Prop}(h:p:=by simpa[V.pure] using hp):p:=h
theorem Zc6{p:Prop}(h:p:=by rw[hm _ _ hq];exact h):p:=h
theorem Zc7{p:Prop}(h:p:=by simpa[V.solid] using h):p:=h
theorem Zc8{p:Prop}(h:p:=by simp[h4,h9,h9b];rfl):p:=h
theorem Zc9{p:Prop}(h:p:=by simpa using h13):p:=h
theorem Zca{p:Prop}(h:p:=by simp[hy]):p:=h
theorem Zcb{p:Prop}(h:p:=by intro b;(try simp at b);exact (jh hX Z1)):p:=h
theorem Zcc{p:Prop}(h:p:=by first|assumption|omega|exact hsz Z2g|(rw[Qa Z2g];exact hsz Z2g)|(have:=hsz h22;simp only[Q1r] at this;omega)|(have:=hsz h13;simp only[Q1r] at this;omega)|(have:=hsz h6;simp only[Q1r] at this;(try simp only[Qa h6]);omega)|(have:=hsz h26;simp only[Q1r] at this;(try simp only[Qa h26]);omega)|(have:=hsz h30q;simp only[Q1r] at this;omega)):p:=h
theorem Zcd{p:Prop}(h:p:=by apply Q4m<;>first|assumption|omega|exact hsz Z2g|(rw[Qa Z2g];exact hsz Z2g)|(have:=hsz h22;simp only[Q1r] at this;omega)|(have:=hsz h13;simp only[Q1r] at this;omega)|(have:=hsz h6;simp only[Q1r] at this;(try simp only[Qa h6]);omega)|(have:=hsz h26;simp only[Q1r] at this;(try simp only[Qa h26]);omega)|(have:=hsz h30q;simp only[Q1r] at this;omega)):p:=h
theorem Zce{p:Prop}(h:p:=by first|assumption|omega|exact hsz Z2g|(rw[Qa Z2g];exact hsz Z2g)|(have:=hsz hp;simp only[Q1r] at this;omega)|(have:=hsz hq;simp only[Q1r] at this;omega)):p:=h
theorem Zcf{p:Prop}(h:p:=by first|assumption|omega|(have:=Q3j (f:=Q73) (List.getElem_mem (l:=x.code) (n:=i) Zb);simp only[Q73] at*;omega)|(have:=Q3j (f:=Qf0) (List.getElem_mem (l:=x.hdls) (n:=i) Zb);simp only[Qf0] at*;omega)):p:=h
theorem Zcg{p:Prop}(h:p:=by apply Q9b<;>first|assumption|omega|exact hsz Z2g|(rw[Qa Z2g];exact hsz Z2g)|(have:=hsz h22;simp only[Q1r] at this;omega)|(have:=hsz h13;simp only[Q1r] at this;omega)|(have:=hsz h6;simp only[Q1r] at this;(try simp only[Qa h6]);omega)|(have:=hsz h26;simp only[Q1r] at this;(try simp only[Qa h26]);omega)|(have:=hsz h30q;simp only[Q1r] at this;omega)):p:=h
theorem Zch{p:Prop}(h:p:=by apply Q4m<;>first|assumption|omega|exact hsz Z2g|(rw[Qa Z2g];exact hsz Z2g)|(have:=hsz hp;simp only[Q1r] at this;omega)|(have:=hsz hq;simp only[Q1r] at this;omega)):p:=h
theorem Zci{p:Prop}(h:p:=by intro b;(try simp at b);exact (jh hX Zn)):p:=h
theorem Zcj{p:Prop}(h:p:=by intro b;(try simp at b);exact (jQ Z1)):p:=h
theorem Zck{p:Prop}(h:p:=by apply Qc5<;>first|assumption|omega|exact hsz Z2g|(rw[Qa Z2g];exact hsz Z2g)|(have:=hsz hp;simp only[Q1r] at this;omega)|(have:=hsz hq;simp only[Q1r] at this;omega)):p:=h
theorem Zcl{p:Prop}(h:p:=by intro b;(try simp at b);exact (jQ Zn)):p:=h
theorem Zcm{p:Prop}(h:p:=by intro b;(try simp at b);exact (jS 9 Zn (jM 9 179 [0,2,3,4,8,170,188] (p:=by intro b;(try simp at b);exact (jQ Zn)) (q:=by intro b;(try simp at b);exact (jQ Zn)) (k:=(jQ Zn))))):p:=h
theorem Zcn{p:Prop}(h:p:=by first|assumption|omega|(have:=Q3j (f:=Q73) (List.getElem_mem (l:=x.code) (n:=i) Zb);simp only[Q73] at*;omega)):p:=h
theorem Zco{p:Prop}(h:p:=by intro b;(try simp at b);exact (js hX 3 Z21 (Q8.call [] rfl Z3 rfl Z21 Z7 Zq Q1a Z3 Z3 Z21 (jh hX Z21)))):p:=h
theorem Zcp{p:Prop}(h:p:=by intro b;(try simp at b);exact (js hX 2 Z1 (Q8.call [] rfl Z3 rfl Z1 Z7 Z2m Q3c Z3 Z3 Z1 (jh hX Z1)))):p:=h
theorem Zcq{p:Prop}(h:p:=by intro b;(try simp at b);exact (js hX 2 Z1 (Q8.call [] rfl Z3 rfl Z1 Z7 Z2n Q43 Z3 Z3 Z1 (jh hX Z1)))):p:=h
theorem Zcr{p:Prop}(h:p:=by intro b;(try simp at b);exact (js hX 1 Z1 (Q8.call [] rfl Z3 rfl Z1 Z7 Z2p Q4n Z3 Z3 Z1 (jh hX Z1)))):p:=h
theorem Zcs{p:Prop}(h:p:=by first|assumption|omega|exact fun y hy=>Nat.le_trans (Q3j hy) Zb):p:=h
theorem Zct{p:Prop}(h:p:=by intro b;(try simp at b);exact (js hX 2 Z1 (Q8.call [] rfl Z3 rfl Z1 Z7 Z1s Q2h Z3 Z3 Z1 (jh hX Z1)))):p:=h
theorem Zcu{p:Prop}(h:p:=by first|exact Le.absorb 0 0 22 Z7|exact .refl):p:=h
theorem Zcv{p:Prop}(h:p:=by apply Qng<;>first|assumption|omega|exact fun y hy=>Nat.le_trans (Q3j hy) Zb):p:=h
theorem Zcw{p:Prop}(h:p:=by intro b;(try simp at b);exact (jh hX Z5w)):p:=h
theorem Zcx{p:Prop}(h:p:=by intro b;(try simp at b);exact (jh hX Z5x)):p:=h
theorem Zcy{p:Prop}(h:p:=by intro b;(try simp at b);exact (jS 5 (by simp[-Qr,-Qa,h3b,w1,w2,h7b];rfl) (jC (c:=Z1d) (a:=Q2i) (k:=(jQ Z1))))):p:=h
theorem Zcz{p:Prop}(h:p:=by intro b;(try simp at b);exact (jS 5 (by simp[-Qr,-Qa,h3b,w0,w1,h7b];rfl) (jC (c:=Z1d) (a:=Q2i) (k:=(jQ Z1))))):p:=h
theorem Zd0{p:Prop}(h:p:=by intro b;(try simp at b);exact (jh hX Z21)):p:=h
theorem Zd1{p:Prop}(h:p:=by intro b;(try simp at b);exact (js hX 2 Z1 (Q8.call [] rfl Z3 rfl Z1 Z7 Z50 Q8o Z3 Z3 Z1 (jh hX Z1)))):p:=h
theorem Zd2{p:Prop}(h:p:=by intro b;(try simp at b);exact (js hX 1 Z1 (Q8.call [] rfl Z3 rfl Z1 Z7 Z3u Q9e Z3 Z3 Z1 (jh hX Z1)))):p:=h
theorem Zd3{p:Prop}(h:p:=by intro b;(try simp at b);exact (js hX 2 Z1 (Q8.call [] rfl Z3 rfl Z1 Z7 Z80 Qsh Z3 Z3 Z1 (jh hX Z1)))):p:=h
theorem Zd4{p:Prop}(h:p:=by first|assumption|omega|exact Nat.le_trans (hsz _) Zb):p:=h
theorem Zd5{p:Prop}(h:p:=by intro b;(try simp at b);exact (jS 8 Z1 (jC (c:=Z43) (a:=Q2i) (k:=(jQ Z1))))):p:=h
theorem Zd6{p:Prop}(h:p:=by intro b;(try simp at b);exact (jh hX Z2t)):p:=h
theorem Zd7{p:Prop}(h:p:=by intro b;(try simp at b);exact (jh hX Z71)):p:=h
theorem Zd8{p:Prop}(h:p:=by first|exact Le.absorb 0 0 23 Z7|exact .refl):p:=h
theorem Zd9{p:Prop}(h:p:=by intro b;(try simp at b);exact (jQ Z4d)):p:=h
end Go

namespace Go.Ev
open Go
inductive V where
 |junk
 |bool (x:Bool)
 |int (k:IntKind) (n:Int)
 |str (l:List UInt8)
 |raw (v:Value)
 |agg (xs:List V)
 |tup (xs:List V)
 |lst (own:Bool) (k:Nat) (xs:List V)
 |fp (xs:List V)
 |fmap (es:List (List UInt8×Int))
 |ptr (id i j:Nat)
 |arr (id off n:Nat)
 |clo (f:Fn) (first captured:List V)
 |ifc (t:TypeId) (x:V)
 |bx (k:Nat) (x:V)
 deriving Inhabited
def V.cells:V→List V
 | .agg xs=>xs
 |x=>[x]
def Q1y(xs:List V):List V:=xs.flatMap V.cells
@[simp] theorem flat_nil:Q1y []=[]:=rfl
@[simp] theorem flat_cons (x:V) (xs:List V):Q1y (x::xs)=x.cells++Q1y xs:=rfl
@[simp] theorem flat_append (xs ys:List V):Q1y (xs++ys)=Q1y xs++Q1y ys:=by simp[Q1y]
def uni(k:Nat)(xs:List V):Prop:= ∀x∈xs,x.cells.length=k
theorem Q33{k:Nat}{xs:List V}(h:uni k xs):(Q1y xs).length=xs.length*k:=by
 induction xs with
 |nil=>simp
 |cons x xs ih=>
  have h1:=h x Z3
  have h2:=ih (fun y hy=>h y Zca)
  simp[h1,h2,Nat.add_mul]
  omega
inductive J where
 |one (x:V) (u:Value)
 |cells (b off:Nat) (xs:List V)
 |list (xs:List V) (us:List Value)
abbrev Cnt:=Nat→Nat
def Q1e:Nat→Option (Nat×Nat):=fun _=>none
inductive R (w:World) (fr:Nat→Prop):(Nat→Option (Nat×Nat))→J→Cnt→Prop
 |junk {m u}:R w fr m (.one .junk u) (fun _=>0)
 |bool {m} (x:Bool):R w fr m (.one (.bool x) (.bool x)) (fun _=>0)
 |int {m} (k n):R w fr m (.one (.int k n) (.int k n)) (fun _=>0)
 |str {m} (l):R w fr m (.one (.str l) (.string ⟨l.toArray⟩)) (fun _=>0)
 |raw {m} (u:Value) (h:u.oneCell'=true):R w fr m (.one (.raw u) u) (fun _=>0)
 |agg {m xs us c} (h:R w fr m (.list xs us) c):R w fr m (.one (.agg xs) (.agg us.toArray)) c
 |tup {m xs us c} (h:R w fr m (.list xs us) c):R w fr m (.one (.tup xs) (.tuple us.toArray)) c
 |nil {m o k}:R w fr m (.one (.lst o k []) (.slice none 0 0)) (fun _=>0)
 |nilz {m o k a}:R w fr m (.one (.lst o k []) (.slice (some a) 0 0)) (fun _=>0)
 |frz {m k xs b off cap} (hl:b<w.heap.size) (hb:fr b) (hk:uni k xs) (hn:xs.length≤cap) (h:R w fr Q1e (.cells b off (Q1y xs)) (fun _=>0)):
   R w fr m (.one (.lst false k xs) (.slice (some ⟨b,off,none⟩) xs.length cap)) (fun _=>0)
 |own {m k xs b cap cur e c c'} (hb:w.heap[b]? =some (.cells cur e (0,0))) (hs:cap*k≤cur.size) (hk:uni k xs) (hn:xs.length≤cap)
   (h:R w fr Q1e (.cells b 0 (Q1y xs)) c) (hc: ∀x,c' x=c x+if x=b then 1 else 0):
   R w fr m (.one (.lst true k xs) (.slice (some ⟨b,0,none⟩) xs.length cap)) c'
 |bx {m k x b cur e c c'} (hb:w.heap[b]? =some (.cells cur e (0,0))) (hs:1*k≤cur.size) (hk:uni k [x])
   (h:R w fr Q1e (.cells b 0 (Q1y [x])) c) (hc: ∀y,c' y=c y+if y=b then 1 else 0):R w fr m (.one (.bx k x) (.pointer (some ⟨b,0,none⟩))) c'
 |fp {m xs b off} (hl:b<w.heap.size) (hb:fr b) (h:R w fr Q1e (.cells b off xs) (fun _=>0)):R w fr m (.one (.fp xs) (.pointer (some ⟨b,off,none⟩))) (fun _=>0)
 |fmap {m es b ens clock} (hl:b<w.heap.size) (hb:fr b) (he:w.heap[b]? =some (.map ens clock))
   (h:ens.toList.map (fun e=>(e.key,e.val))=es.map (fun p=>(Value.string ⟨p.1.toArray⟩,Value.int .i64 p.2))):R w fr m (.one (.fmap es) (.map (some b))) (fun _=>0)
 |ptr {m id i j b k} (h:m id=some (b,k)):R w fr m (.one (.ptr id i j) (.pointer (some ⟨b,i*k+j,none⟩))) (fun _=>0)
 |arr {m id o n b k cap cur e} (h:m id=some (b,k)) (hb:w.shape? b=some (e,cur)) (hn:n≤cap) (hc:(o+cap)*k≤cur):
   R w fr m (.one (.arr id o n) (.slice (some ⟨b,o*k,none⟩) n cap)) (fun _=>0)
 |arrz {m id o b k cap cur e off} (h:m id=some (b,k)) (hb:w.shape? b=some (e,cur)) (ho:o≠0):
   R w fr m (.one (.arr id o 0) (.slice (some ⟨b,off,none⟩) 0 cap)) (fun _=>0)
 |arrn {m id o ad}:R w fr m (.one (.arr id o 0) (.slice ad 0 0)) (fun _=>0)
 |clo {m f xs us ys vs c d e} (h1:R w fr m (.list xs us) c) (h2:R w fr m (.list ys vs) d) (he: ∀x,e x=c x+d x):
   R w fr m (.one (.clo f xs ys) (.func f us.toArray vs.toArray)) e
 |ifc {m t x u c} (h:R w fr m (.one x u) c):R w fr m (.one (.ifc t x) (.iface t u)) c
 |cnil {m b off}:R w fr m (.cells b off []) (fun _=>0)
 |ccons {m b off x xs u c d e} (hc:w.cell? ⟨b,off,none⟩=some u) (h1c:u.oneCell'=true) (h1:R w fr m (.one x u) c)
   (h2:R w fr m (.cells b (off+1) xs) d) (he: ∀y,e y=c y+d y):R w fr m (.cells b off (x::xs)) e
 |lnil {m}:R w fr m (.list [] []) (fun _=>0)
 |lcons {m x xs u us c d e} (h1:R w fr m (.one x u) c) (h2:R w fr m (.list xs us) d) (he: ∀y,e y=c y+d y):
   R w fr m (.list (x::xs) (u::us)) e
end Go.Ev
namespace Go.Ev
open Go
def J.here(P:Nat→Prop):J→Prop
 | .cells b _ xs=>xs=[]∨P b
 |_=>True
theorem Qm1{w w':World}{b:Nat}(h:w'.heap[b]? =w.heap[b]?)(o:Nat):w'.cell? ⟨b,o,none⟩=w.cell? ⟨b,o,none⟩:=by
 simp[World.cell?,h]
theorem Q4w{w w':World}{b:Nat}(h:w'.heap[b]? =w.heap[b]?):w'.shape? b=w.shape? b:=by
 simp[World.shape?,h]
theorem Qeb{w:World}{b o:Nat}{u:Value}(h:w.cell? ⟨b,o,none⟩=some u):b<w.heap.size:=by
 unfold World.cell? at h
 rcases Nat.lt_or_ge b w.heap.size with h'|h'
 ·exact h'
 ·simp[Array.getElem?_eq_none h'] at h
theorem R.mono{w w':World}{fr fr':Nat→Prop}{m:Nat→Option (Nat×Nat)}{j:J}{c:Cnt}(h:R w fr m j c):
  ∀{m':Nat→Option (Nat×Nat)} (_:w.heap.size≤w'.heap.size) (_: ∀b,b<w.heap.size→fr b→fr' b∧w'.heap[b]? =w.heap[b]?) (_: ∀b,0<c b→w'.heap[b]? =w.heap[b]?)
   (_:j.here fun b=>w'.heap[b]? =w.heap[b]?) (_: ∀id x,m id=some x→m' id=some x∧w'.shape? x.1=w.shape? x.1),R w' fr' m' j c:=by
 induction h with
 |junk=>intros;exact .junk
 |bool=>intros;exact .bool _
 |int=>intros;exact .int _ _
 |str=>intros;exact .str _
 |raw u h=>intros;exact .raw u h
 |agg _ ih=>intro m' hz hf hc _ hm;exact .agg (ih hz hf hc trivial hm)
 |tup _ ih=>intro m' hz hf hc _ hm;exact .tup (ih hz hf hc trivial hm)
 |nil=>intros;exact .nil
 |nilz=>intros;exact .nilz
 |frz hl hb hk hn h ih=>
  intro m' hz hf hc _ hm
  exact .frz (Nat.lt_of_lt_of_le hl hz) (hf _ hl hb).1 hk hn (ih hz hf (fun b h=>absurd h Z3) (.inr (hf _ hl hb).2) (fun id x h=>by simp[Q1e] at h))
 | @own m k xs b cap cur e c c1 hb hs hk hn h hc ih=>
  intro m' hz hf hc' _ hm
  have hbb:=hc' b (by rw[hc,if_pos rfl];omega)
  exact .own (by rw[hbb];exact hb) hs hk hn (ih hz hf (fun x hx=>hc' x (by rw[hc];omega)) (.inr hbb) (fun id x h=>by simp[Q1e] at h)) hc
 | @bx m k x b cur e c c1 hb hs hk h hc ih=>
  intro m' hz hf hc' _ hm
  have hbb:=hc' b (by rw[hc,if_pos rfl];omega)
  exact .bx (by rw[hbb];exact hb) hs hk (ih hz hf (fun x hx=>hc' x (by rw[hc];omega)) (.inr hbb) (fun id x h=>by simp[Q1e] at h)) hc
 |fp hl hb h ih=>
  intro m' hz hf hc _ hm
  exact .fp (Nat.lt_of_lt_of_le hl hz) (hf _ hl hb).1 (ih hz hf (fun b h=>absurd h Z3) (.inr (hf _ hl hb).2) (fun id x h=>by simp[Q1e] at h))
 |fmap hl hb he h=>
  intro m' hz hf hc _ hm
  exact .fmap (Nat.lt_of_lt_of_le hl hz) (hf _ hl hb).1 (by rw[(hf _ hl hb).2];exact he) h
 |ptr h=>intro m' hz hf hc _ hm;exact .ptr (hm _ _ h).1
 |arrn=>intros;exact .arrn
 |arrz h hb ho=>intro m' hz hf hc' _ hm;exact .arrz (hm _ _ h).1 (by rw[(hm _ _ h).2];exact hb) ho
 |arr h hb hn hc=>intro m' hz hf hc' _ hm;exact .arr (hm _ _ h).1 (by rw[(hm _ _ h).2];exact hb) hn hc
 |clo h1 h2 he ih1 ih2=>
  intro m' hz hf hc _ hm
  exact .clo (ih1 hz hf (fun x hx=>hc x Z6x) trivial hm) (ih2 hz hf (fun x hx=>hc x Z6x) trivial hm) he
 |ifc h ih=>intro m' hz hf hc _ hm;exact .ifc (ih hz hf hc trivial hm)
 |cnil=>intros;exact .cnil
 |ccons hc h1c h1 h2 he ih1 ih2=>
  intro m' hz hf hc' hh hm
  have hb:=hh.resolve_left Z3
  exact .ccons (by rw[Qm1 hb];exact hc) h1c (ih1 hz hf (fun x hx=>hc' x Z6x) trivial hm)
   (ih2 hz hf (fun x hx=>hc' x Z6x) (.inr hb) hm) he
 |lnil=>intros;exact .lnil
 |lcons h1 h2 he ih1 ih2=>
  intro m' hz hf hc _ hm
  exact .lcons (ih1 hz hf (fun x hx=>hc x Z6x) trivial hm) (ih2 hz hf (fun x hx=>hc x Z6x) trivial hm) he
theorem R.count{w:World}{fr:Nat→Prop}{m:Nat→Option (Nat×Nat)}{j:J}{c:Cnt}(h:R w fr m j c): ∀b,0<c b→b<w.heap.size:=by
 induction h with
 |own hb hs hk hn h hc ih=>
  intro x hx
  rw[hc] at hx
  split at hx
  ·rename_i e;rw[e];exact (Array.getElem?_eq_some_iff.1 hb).1
  ·exact ih x Zb
 |bx hb hs hk h hc ih=>
  intro x hx
  rw[hc] at hx
  split at hx
  ·rename_i e;rw[e];exact (Array.getElem?_eq_some_iff.1 hb).1
  ·exact ih x Zb
 |clo h1 h2 he ih1 ih2=>intro b hb;rw[he] at hb;rcases Nat.lt_or_ge 0 _ with h|h;exact ih1 b h;exact ih2 b Zb
 |ccons hc h1c h1 h2 he ih1 ih2=>intro b hb;rw[he] at hb;rcases Nat.lt_or_ge 0 _ with h|h;exact ih1 b h;exact ih2 b Zb
 |lcons h1 h2 he ih1 ih2=>intro b hb;rw[he] at hb;rcases Nat.lt_or_ge 0 _ with h|h;exact ih1 b h;exact ih2 b Zb
 |agg _ ih=>exact ih
 |tup _ ih=>exact ih
 |ifc _ ih=>exact ih
 |_=>intro b hb;exact absurd hb Z3
end Go.Ev
namespace Go.Ev
open Go
abbrev Ob:=Option (Nat×List V)
abbrev Mp:=Nat→Option (Nat×Nat)
structure St where
 tm:List V
 ob:List Ob
structure Ctx where
 w0:World
 fr0:Nat→Prop
 own0:Nat→Prop
 m0:Mp
 n0:Nat
def frz(X:Ctx)(cn:Nat→Cnt)(b:Nat):Prop:=(X.fr0 b∨X.w0.heap.size≤b)∧ ∀id,cn id b=0
def Qgh(w:World)(fr:Nat→Prop)(m:Mp)(cnt:Cnt)(id:Nat):Ob→Prop
 |none=>True
 |some (k,xs)=>(xs=[]∧m id=none∧ ∀x,cnt x=0)∨ ∃b cur e c,m id=some (b,k)∧w.heap[b]? =some (.cells cur e (0,0))∧uni k xs∧xs.length*k≤cur.size∧
   R w fr m (.cells b 0 (Q1y xs)) c∧ ∀x,cnt x=c x+if x=b then 1 else 0
structure Inv (X:Ctx) (w:World) (ob:List Ob) (m:Mp) (cn:Nat→Cnt):Prop where
 le:X.w0.heap.size≤w.heap.size
 kept: ∀b,b<X.w0.heap.size→ ¬X.own0 b→w.heap[b]? =X.w0.heap[b]?
 os:w.os=X.w0.os
 tape:w.tape=X.w0.tape
 output:w.output=X.w0.output
 obj: ∀id o,ob[id]? =some o→Qgh w (frz X cn) m (cn id) id o
 dis: ∀b i j,0<cn i b→0<cn j b→i=j
 one: ∀i b,cn i b≤1
 new: ∀i b,0<cn i b→b<w.heap.size∧(X.w0.heap.size≤b∨X.own0 b)
 fresh: ∀id,ob.length≤id→m id=none
 pas: ∀id,id<X.n0→m id=X.m0 id
 mlt: ∀id x,m id=some x→x.1<w.heap.size
 n0:X.n0≤ob.length
 shp: ∀b,b<X.w0.heap.size→w.shape? b=X.w0.shape? b
abbrev z0:Cnt:=fun _=>0
def Sl(X:Ctx)(w:World)(m:Mp)(cn:Nat→Cnt)(tm:List V)(a:Act):Prop:=R w (frz X cn) m (.list tm a.tmps.toList) z0
def post(X:Ctx)(Q:Exit→St→Prop)(e:Exit)(a:Act)(w:World):Prop:=
 ∃st m cn,Q e st∧Inv X w st.ob m cn∧Sl X w m cn st.tm a∧a.defers=[]
def W(P:Program)(X:Ctx)(c:Code)(st:St)(Q:Exit→St→Prop):Prop:=
 ∀w m cn a,Inv X w st.ob m cn→Sl X w m cn st.tm a→a.defers=[]→c.wp P (post X Q) a w
def WL(P:Program)(X:Ctx)(ops:Array Oper)(l:List Oper)(st:St)(Q:Exit→St→Prop):Prop:=
 ∀w m cn a,Inv X w st.ob m cn→Sl X w m cn st.tm a→a.defers=[]→wpList P ops (post X Q) l a w
def Qg9(K:St→Prop)(Q:Exit→St→Prop):Exit→St→Prop
 | .normal,st=>K st
 |e,st=>Q e st
def Qsi(id:Nat)(Q:Exit→St→Prop):Exit→St→Prop
 | .exit id',st=>if id'=id then Q .normal st else Q (.exit id') st
 |e,st=>Q e st
section
variable {P:Program} {X:Ctx} {st:St} {Q:Exit→St→Prop}
theorem R.one0{w:World}{fr:Nat→Prop}{m:Mp}{xs:List V}{us:List Value}{c:Cnt}(h:R w fr m (.list xs us) c):
  ∀(t:Nat) (x:V),xs[t]? =some x→ ∃u d,us[t]? =some u∧R w fr m (.one x u) d∧ ∀y,d y≤c y:=by
 generalize hj:J.list xs us=j at h
 induction h generalizing xs us with
 |lnil=>cases hj;intro t x hx;simp at hx
 |lcons h1 h2 he ih1 ih2=>
  cases hj
  intro t x hx
  cases t with
  |zero=>simp at hx;subst hx;exact ⟨_,_,rfl,h1,fun y=>by rw[he];omega⟩
  |succ t=>
   obtain ⟨u,d,hu,hd,hle⟩:=ih2 rfl t x Z8v
   exact ⟨u,d,by simpa using hu,hd,fun y=>by rw[he];have:=hle y;omega⟩
 |_=>cases hj
theorem R.len{w:World}{fr:Nat→Prop}{m:Mp}{xs:List V}{us:List Value}{c:Cnt}(h:R w fr m (.list xs us) c):us.length=xs.length:=by
 generalize hj:J.list xs us=j at h
 induction h generalizing xs us with
 |lnil=>cases hj;rfl
 |lcons h1 h2 he ih1 ih2=>cases hj;simp[ih2 rfl]
 |_=>cases hj
theorem R.set0{w:World}{fr:Nat→Prop}{m:Mp}{xs:List V}{us:List Value}{c:Cnt}(h:R w fr m (.list xs us) c):
  c=z0→ ∀(t:Nat) (x:V) (u:Value),R w fr m (.one x u) z0→R w fr m (.list (xs.set t x) (us.set t u)) z0:=by
 generalize hj:J.list xs us=j at h
 induction h generalizing xs us with
 |lnil=>cases hj;intro _ t x u _;exact .lnil
 | @lcons m x1 xs1 u1 us1 c1 c2 c3 h1 h2 he ih1 ih2=>
  cases hj
  intro hc t x u hx
  subst hc
  have e1:c1=z0:=funext fun y=>by have:=he y;simp[z0] at this⊢;omega
  have e2:c2=z0:=funext fun y=>by have:=he y;simp[z0] at this⊢;omega
  subst e1;subst e2
  cases t with
  |zero=>exact .lcons hx h2 (fun y=>rfl)
  |succ t=>exact .lcons h1 (ih2 rfl rfl t x u hx) (fun y=>rfl)
 |_=>cases hj
theorem Sl.get{w:World}{m:Mp}{cn:Nat→Cnt}{tm:List V}{a:Act}(h:Sl X w m cn tm a){t:Nat}{x:V}(hx:tm[t]? =some x):
  ∃u,a.tmps[t]? =some u∧R w (frz X cn) m (.one x u) z0:=by
 obtain ⟨u,d,hu,hd,hle⟩:=R.one0 h t x hx
 have:d=z0:=funext fun y=>by have:=hle y;simp[z0] at this⊢;omega
 subst this
 exact ⟨u,by simpa using hu,hd⟩
theorem Sl.set{w:World}{m:Mp}{cn:Nat→Cnt}{tm:List V}{a:Act}(h:Sl X w m cn tm a)(d:Option Tmp){x:V}{u:Value}(hx:R w (frz X cn) m (.one x u) z0):
  Sl X w m cn (match d with|some t=>tm.set t x|none=>tm) (a.put d u):=by
 cases d with
 |none=>exact h
 |some t=>
  have:=R.set0 h rfl t x u hx
  simpa[Sl,Act.put] using this
theorem Qys{c:Code}{Q':Exit→St→Prop}(h:W P X c st Q)(hq: ∀e s,Q e s→Q' e s):W P X c st Q':=
 fun w m cn a hi hs hd=>Code.wp_mono (fun _ _ _ ⟨s,m',cn',hq',r⟩=>⟨s,m',cn',hq _ _ hq',r⟩) (h w m cn a hi hs hd)
theorem Q3(h:Q .normal st):W P X .skip st Q:=fun _ m cn _ hi hs hd=>wp_skip ⟨st,m,cn,h,hi,hs,hd⟩
theorem Q5(h:Q .ret st):W P X .ret st Q:=fun _ m cn _ hi hs hd=>wp_ret ⟨st,m,cn,h,hi,hs,hd⟩
theorem Ql{id:Nat}(h:Q (.exit id) st):W P X (.exit id) st Q:=fun _ m cn _ hi hs hd=>wp_exit ⟨st,m,cn,h,hi,hs,hd⟩
theorem Q4{x y:Code}(h:W P X x st (Qg9 (fun s=>W P X y s Q) Q)):W P X (.seq x y) st Q:=by
 intro w m cn a hi hs hd
 refine wp_seq (Code.wp_mono ?_ (h w m cn a hi hs hd))
 rintro e a' w' ⟨s,m',cn',hq,hi',hs',hd'⟩
 cases e with
 |normal=>exact hq w' m' cn' a' hi' hs' hd'
 |_=>exact ⟨s,m',cn',hq,hi',hs',hd'⟩
theorem Q7{id:Nat}{c:Code}(h:W P X c st (Qsi id Q)):W P X (.block id c) st Q:=by
 intro w m cn a hi hs hd
 refine wp_block (Code.wp_mono ?_ (h w m cn a hi hs hd))
 rintro e a' w' ⟨s,m',cn',hq,hi',hs',hd'⟩
 cases e with
 |exit id'=>
  simp only[Exit.inBlock]
  simp only[Qsi] at hq
  split<;>rename_i hid
  ·rw[if_pos hid] at hq;exact ⟨s,m',cn',hq,hi',hs',hd'⟩
  ·rw[if_neg hid] at hq;exact ⟨s,m',cn',hq,hi',hs',hd'⟩
 |_=>exact ⟨s,m',cn',hq,hi',hs',hd'⟩
def val(st:St):Operand→V
 | .tmp t=>st.tm.getD t .junk
 | .const (.bool x)=> .bool x
 | .const (.int k n)=> .int k n
 | .const (.string s)=> .str s.data.toList
 | .const v=>if v.oneCell' then .raw v else .junk
 | .global g=> .raw (.pointer (some ⟨g,0,none⟩))
 | .func f=> .clo (.func f) [] []
theorem Q14{w:World}{m:Mp}{cn:Nat→Cnt}{a:Act}(hs:Sl X w m cn st.tm a)(o:Operand):R w (frz X cn) m (.one (val st o) (a.eval o)) z0:=by
 cases o with
 |tmp t=>
  simp only[val,Act.eval]
  cases hx:st.tm[t]? with
  |none=>rw[List.getD_eq_getElem?_getD,hx];exact .junk
  |some x=>
   obtain ⟨u,hu,hR⟩:=hs.get hx
   rw[List.getD_eq_getElem?_getD,hx,Array.getD_eq_getD_getElem?,hu]
   exact hR
 |const v=>
  cases v<;>simp only[val,Act.eval]<;>first
   |exact .bool _
   |exact .int _ _
   |exact .str _
   |(split<;>first|exact .junk|(rename_i h;exact .raw _ h))
 |global g=>exact .raw _ rfl
 |func f=>exact .clo .lnil .lnil (fun _=>rfl)
theorem Q13p{c:Operand}{x y:Code}{t:Bool}(hc:val st c= .bool t)(h1:t=true→W P X x st Q)(h2:t=false→W P X y st Q):
  W P X (.cond c x y) st Q:=by
 intro w m cn a hi hs hd
 have hR:=Q14 hs c
 rw[hc] at hR
 have he:a.eval c= .bool t:=by
  generalize a.eval c=u at hR
  cases hR
  rfl
 exact wp_cond_split he (fun ht=>h1 ht w m cn a hi hs hd) (fun ht=>h2 ht w m cn a hi hs hd)
theorem Qsm{id:Nat}{ops:Array Oper}(h:WL P X ops ops.toList st Q):W P X (.region id ops false) st Q:=
 fun w m cn a hi hs hd=>wp_region_list (h w m cn a hi hs hd)
theorem Q8w{ops:Array Oper}(h:Q .normal st):WL P X ops [] st Q:=fun _ m cn _ hi hs hd=>⟨st,m,cn,h,hi,hs,hd⟩
end
end Go.Ev
namespace Go.Ev
open Go
def Qv2:Value→V
 | .bool x=> .bool x
 | .int k n=> .int k n
 | .string s=> .str s.data.toList
 |v=>if v.oneCell' then .raw v else .junk
def ofV:Value→V
 | .agg cs=> .agg (cs.toList.map Qv2)
 |v=>Qv2 v
inductive Kd where
 |bool
 |int (k:IntKind)
 |str
 |slice (e:Nat)
 |struct (fs:List (Nat×Nat))
 |ptr (e:Nat)
 |arr (n e:Nat)
 |map (k e:Nat)
 |iface
 |fn
 |other
def Qjm:TypeDesc→Kd
 | .bool=> .bool
 | .int k=> .int k
 | .string=> .str
 | .slice e=> .slice e
 | .struct fs=> .struct (fs.toList.map fun f=>(f.offset,f.type))
 | .pointer e=> .ptr e
 | .array n e=> .arr n e
 | .map k e=> .map k e
 | .interface _=> .iface
 | .func _ _ _=> .fn
 |_=> .other
structure TI where
 kd:Kd
 size:Nat
 bytes:Nat
 zero:V
 plain:Bool
def TI.isAgg(t:TI):Bool:=match t.kd with| .struct _=>true| .arr _ _=>true|_=>false
def Qv7(P:Program)(t:TypeId):TypeDesc→Bool
 | .struct fs => (fs.toList.zipIdx.all fun (f, i) => f.offset == i && f.name != "_" && (match P.underlying f.type with | some .bool => true | some (.int _) => true | some .string => true | _ => false)) &&
   !P.stoodInHeld t&& !P.eqGuardType P.depth t
 |_=>false
def mkTI(P:Program)(t:TypeId):Option TI:=
 match P.info? t,P.underlying t with
 |some i,some d=>
  match i.zero with
  |some z=>some ⟨Qjm d,i.size,i.bytes,ofV z,Qv7 P t d⟩
  |none=>none
 |_,_=>none
def TOK(P:Program)(T:Nat→Option TI):Prop:= ∀t ti,T t=some ti→mkTI P t=some ti
def V.cellOK:V→Bool
 | .junk| .agg _| .tup _=>false
 |_=>true
mutual
def V.free:V→Bool
 | .lst true _ _=>false
 | .bx _ _=>false
 | .agg xs=>freeL xs
 | .tup xs=>freeL xs
 | .clo _ xs ys=>freeL xs&&freeL ys
 | .ifc _ x=>x.free
 |_=>true
def freeL:List V→Bool
 |[]=>true
 |x::xs=>x.free&&freeL xs
end
mutual
def V.jk(p:Nat→Bool):V→V
 | .ptr id i j=>if p id then .junk else .ptr id i j
 | .arr id o n=>if p id then .junk else .arr id o n
 | .agg xs=> .agg (jkL p xs)
 | .tup xs=> .tup (jkL p xs)
 | .clo f xs ys=> .clo f (jkL p xs) (jkL p ys)
 | .ifc t x=> .ifc t (x.jk p)
 |x=>x
def jkL(p:Nat→Bool):List V→List V
 |[]=>[]
 |x::xs=>x.jk p::jkL p xs
end
theorem Qan(p:Nat→Bool)(xs:List V):jkL p xs=xs.map (V.jk p):=by
 induction xs with
 |nil=>rfl
 |cons x xs ih=>simp[jkL,ih]
def jkO(p:Nat→Bool):Ob→Ob
 |none=>none
 |some (k,xs)=>some (k,jkL p xs)
def St.jk(p:Nat→Bool)(st:St):St:=⟨jkL p st.tm,st.ob.map (jkO p)⟩
def Qzz(op:BinOp)(k:IntKind)(x y:Int):Option V:=
 match op with
 | .add=>some (.int k (k.wrap (x+y)))
 | .sub=>some (.int k (k.wrap (x-y)))
 | .mul=>some (.int k (k.wrap (x*y)))
 | .quo=>if y=0 then none else some (.int k (k.wrap (x.tdiv y)))
 | .rem=>if y=0 then none else some (.int k (x.tmod y))
 | .and=>some (.int k (k.wrap (BitVec.ofInt k.bits x&&&BitVec.ofInt k.bits y).toNat))
 | .or=>some (.int k (k.wrap (BitVec.ofInt k.bits x|||BitVec.ofInt k.bits y).toNat))
 | .xor=>some (.int k (k.wrap (BitVec.ofInt k.bits x^^^BitVec.ofInt k.bits y).toNat))
 | .andNot=>some (.int k (k.wrap (BitVec.ofInt k.bits x&&& ~~~BitVec.ofInt k.bits y).toNat))
 | .eql=>some (.bool (x==y))
 | .neq=>some (.bool (x !=y))
 | .lss=>some (.bool (decide (x<y)))
 | .leq=>some (.bool (decide (x≤y)))
 | .gtr=>some (.bool (decide (x>y)))
 | .geq=>some (.bool (decide (x≥y)))
 |_=>none
def shft(op:BinOp)(k:IntKind)(x y:Int):Option V:=
 if y<0 then none else
 match op with
 | .shl=>some (.int k (k.wrap (x*2^(min y.toNat k.bits))))
 | .shr=>some (.int k (x.fdiv (2^(min y.toNat k.bits))))
 |_=>none
def Qz0(op:BinOp)(x y:List UInt8):Option V:=
 match op with
 | .add=>if x.length+y.length<9223372036854775807 then some (.str (x++y)) else none
 | .eql=>some (.bool (x==y))
 | .neq=>some (.bool (!(x==y)))
 | .lss=>some (.bool (Op.bytesLess x y))
 | .leq=>some (.bool (Op.bytesLess x y||x==y))
 | .gtr=>some (.bool (!(Op.bytesLess x y||x==y)))
 | .geq=>some (.bool (!(Op.bytesLess x y)))
 |_=>none
end Go.Ev
namespace Go.Ev
open Go
section
variable {w:World} {fr:Nat→Prop} {m:Mp}
theorem R.split{b:Nat}{ys:List V}: ∀{xs:List V} {off:Nat} {c:Cnt},R w fr m (.cells b off (xs++ys)) c→
  ∃c1 c2,R w fr m (.cells b off xs) c1∧R w fr m (.cells b (off+xs.length) ys) c2∧ ∀z,c z=c1 z+c2 z:=by
 intro xs
 induction xs with
 |nil=>intro off c h;exact ⟨z0,c,.cnil,by simpa using h,fun z=>by simp[z0]⟩
 |cons x xs ih=>
  intro off c h
  cases h with
  |ccons hc h1c h1 h2 he=>
   obtain ⟨c1,c2,h3,h4,h5⟩:=ih h2
   refine ⟨fun z=>_+c1 z,c2,.ccons hc h1c h1 h3 (fun _=>rfl),?_,fun z=> ?_⟩
   ·rw[show off+(x::xs).length=off+1+xs.length from by simp;omega];exact h4
   ·show _=_+c1 z+c2 z
    rw[he,h5];omega
theorem R.join{b:Nat}{ys:List V}{c2:Cnt}: ∀{xs:List V} {off:Nat} {c1:Cnt},R w fr m (.cells b off xs) c1→R w fr m (.cells b (off+xs.length) ys) c2→
  R w fr m (.cells b off (xs++ys)) (fun z=>c1 z+c2 z):=by
 intro xs
 induction xs with
 |nil=>
  intro off c1 h1 h2
  cases h1
  simpa using h2
 |cons x xs ih=>
  intro off c1 h1 h2
  cases h1 with
  |ccons hc h1c h1 h3 he=>
   refine .ccons hc h1c h1 (ih h3 (by rw[show off+1+xs.length=off+(x::xs).length from by simp;omega];exact h2)) (fun y=> ?_)
   rw[he];omega
theorem R.cast{j:J}{c d:Cnt}(h:R w fr m j c)(he: ∀z,d z=c z):R w fr m j d:=by
 have:d=c:=funext he
 rw[this];exact h
theorem R.zero{j:J}{c:Cnt}(h:R w fr m j c)(he: ∀z,c z=0):R w fr m j z0:=h.cast fun z=>(he z).symm
theorem Qef{xs:List V}{i:Nat}(h:i<xs.length):Q1y xs=Q1y (xs.take i)++(xs.getD i .junk).cells++Q1y (xs.drop (i+1)):=by
 have e:Q1y xs=Q1y (xs.take i++xs.drop i):=by rw[List.take_append_drop]
 rw[e,List.drop_eq_getElem_cons h,flat_append,flat_cons,List.getD_eq_getElem?_getD,List.getElem?_eq_getElem h,List.append_assoc,Option.getD_some]
theorem Q60{k:Nat}{xs:List V}(h:uni k xs)(n:Nat):uni k (xs.take n):=fun x hx=>h x (List.mem_of_mem_take hx)
theorem Qg6{k:Nat}{xs:List V}(h:uni k xs)(n:Nat):uni k (xs.drop n):=fun x hx=>h x (List.mem_of_mem_drop hx)
theorem Qg7{k:Nat}{xs:List V}(h:uni k xs){i:Nat}(hi:i<xs.length):(xs.getD i .junk).cells.length=k:=by
 rw[List.getD_eq_getElem?_getD,List.getElem?_eq_getElem hi];exact h _ (List.getElem_mem hi)
theorem Q2f{k:Nat}{xs:List V}(h:uni k xs){i:Nat}(hi:i≤xs.length):(Q1y (xs.take i)).length=i*k:=by
 rw[Q33 (Q60 h i),List.length_take,Nat.min_eq_left hi]
theorem R.elem{b k:Nat}{xs:List V}{c:Cnt}(h:R w fr m (.cells b 0 (Q1y xs)) c)(hk:uni k xs){i:Nat}(hi:i<xs.length):
  ∃c1 c2 c3,R w fr m (.cells b 0 (Q1y (xs.take i))) c1∧R w fr m (.cells b (i*k) (xs.getD i .junk).cells) c2∧
   R w fr m (.cells b (i*k+k) (Q1y (xs.drop (i+1)))) c3∧ ∀z,c z=c1 z+c2 z+c3 z:=by
 rw[Qef hi,List.append_assoc] at h
 obtain ⟨c1,c2,h1,h2,h3⟩:=R.split h
 obtain ⟨c4,c5,h4,h5,h6⟩:=R.split h2
 rw[Q2f hk (Nat.le_of_lt hi),Nat.zero_add] at h4 h5
 rw[Qg7 hk hi] at h5
 exact ⟨c1,c4,c5,h1,h4,h5,fun z=>by rw[h3,h6];omega⟩
theorem R.elems{b k off:Nat}{xs:List V}{c:Cnt}(h:R w fr m (.cells b off (Q1y xs)) c)(hk:uni k xs){i:Nat}(hi:i<xs.length):
  ∃c2,R w fr m (.cells b (off+i*k) (xs.getD i .junk).cells) c2∧ ∀z,c2 z≤c z:=by
 rw[Qef hi,List.append_assoc] at h
 obtain ⟨c1,c2,h1,h2,h3⟩:=R.split h
 obtain ⟨c4,c5,h4,h5,h6⟩:=R.split h2
 rw[Q2f hk (Nat.le_of_lt hi)] at h4
 exact ⟨c4,h4,fun z=>by rw[h3,h6];omega⟩
theorem R.cell{b off:Nat}{xs:List V}{c:Cnt}(h:R w fr m (.cells b off xs) c){j:Nat}{x:V}(hx:xs[j]? =some x):
  ∃u d,w.cell? ⟨b,off+j,none⟩=some u∧u.oneCell'=true∧R w fr m (.one x u) d∧ ∀z,d z≤c z:=by
 induction xs generalizing off c j with
 |nil=>simp at hx
 |cons y ys ih=>
  cases h with
  |ccons hc h1c h1 h2 he=>
   cases j with
   |zero=>simp at hx;subst hx;exact ⟨_,_,hc,h1c,h1,fun z=>by rw[he];omega⟩
   |succ j=>
    obtain ⟨u,d,h3,h4,h5,h6⟩:=ih h2 Z8v
    exact ⟨u,d,by rw[show off+(j+1)=off+1+j from by omega];exact h3,h4,h5,fun z=>by rw[he];have:=h6 z;omega⟩
theorem R.reads{b:Nat}{xs:List V}: ∀{off:Nat} {c:Cnt},R w fr m (.cells b off xs) c→
  ∃us,us.length=xs.length∧R w fr m (.list xs us) c∧(∀j u,us[j]? =some u→w.cell? ⟨b,off+j,none⟩=some u)∧ ∀u∈us,u.oneCell'=true:=by
 induction xs with
 |nil=>intro off c h;cases h;exact ⟨[],rfl,.lnil,fun j u h=>by simp at h,fun u h=>by simp at h⟩
 |cons x xs ih=>
  intro off c h
  cases h with
  |ccons hc h1c h1 h2 he=>
   obtain ⟨us,h3,h4,h5,h6⟩:=ih h2
   refine ⟨_::us,by simp[h3],.lcons h1 h4 he,?_,?_⟩
   ·intro j u hu
    cases j with
    |zero=>simp at hu;subst hu;exact hc
    |succ j=>rw[show off+(j+1)=off+1+j from by omega];exact h5 j u Zc0
   ·intro u hu
    rcases List.mem_cons.1 hu with rfl|hu
    ·exact h1c
    ·exact h6 u hu
theorem R.holds{b:Nat}{xs:List V}: ∀{us:List Value} {off:Nat} {c:Cnt},R w fr m (.list xs us) c→(∀j u,us[j]? =some u→w.cell? ⟨b,off+j,none⟩=some u)→
  (∀u∈us,u.oneCell'=true)→R w fr m (.cells b off xs) c:=by
 induction xs with
 |nil=>intro us off c h _ _;cases h;exact .cnil
 |cons x xs ih=>
  intro us off c h h1 h2
  cases h with
  |lcons h3 h4 he=>
   exact .ccons (h1 0 _ rfl) (h2 _ Z3) h3 (ih h4 (fun j u hu=>by rw[show off+1+j=off+(j+1) from by omega];exact h1 (j+1) u Zc0) (fun u hu=>h2 u (by simp[hu]))) he
theorem Qc0(P:Program)(b off:Nat)(us:List Value): ∀(i:Nat) (acc:Array Value),(∀j u,us[j]? =some u→w.cell? ⟨b,off+i+j,none⟩=some u)→
  (loadCellsFrom ⟨b,off,none⟩ i us.length acc).run P w= .ok (acc++us.toArray) w:=by
 induction us with
 |nil=>intro i acc _;simp[loadCellsFrom]
 |cons u us ih=>
  intro i acc h
  have h0:=h 0 u rfl
  have ha:(⟨b,off,none⟩:Addr).add i=⟨b,off+i,none⟩:=by unfold Addr.add;split<;>simp_all
  simp only[List.length_cons,loadCellsFrom,Sem.run_bind,run_load,ha]
  rw[Nat.add_zero] at h0
  simp only[h0,Result.andThen_ok]
  rw[ih (i+1) _ (fun j u' hu=>by rw[show off+(i+1)+j=off+i+(j+1) from by omega];exact h (j+1) u' Zc0)]
  simp
theorem R.free0{j:J}{c:Cnt}(h:R w fr m j c):(match j with| .one x _=>x.free=true| .cells _ _ xs=>freeL xs=true| .list xs _=>freeL xs=true)→ ∀z,c z=0:=by
 induction h with
 |own=>intro hf;simp[V.free] at hf
 |bx=>intro hf;simp[V.free] at hf
 |agg _ ih=>intro hf;exact ih Z9k
 |tup _ ih=>intro hf;exact ih Z9k
 |clo _ _ he ih1 ih2=>
  intro hf z
  simp only[V.free,Bool.and_eq_true] at hf
  rw[he,ih1 hf.1 z,ih2 hf.2 z]
 |ifc _ ih=>intro hf;exact ih Z9k
 |ccons _ _ _ _ he ih1 ih2=>
  intro hf z
  simp only[freeL,Bool.and_eq_true] at hf
  rw[he,ih1 hf.1 z,ih2 hf.2 z]
 |lcons _ _ he ih1 ih2=>
  intro hf z
  simp only[freeL,Bool.and_eq_true] at hf
  rw[he,ih1 hf.1 z,ih2 hf.2 z]
 |_=>intro _ z;rfl
theorem R.cellOK{x:V}{u:Value}{c:Cnt}(h:R w fr m (.one x u) c)(hx:x.cellOK=true):u.oneCell'=true:=by
 cases h<;>first|rfl|assumption|simp[V.cellOK] at hx
end
end Go.Ev
namespace Go.Ev
open Go
section
variable {w:World} {fr:Nat→Prop} {m:Mp} {c:Cnt} {u:Value}
theorem R.inv_bool{x:Bool}(h:R w fr m (.one (.bool x) u) c):u= .bool x:=by cases h;rfl
theorem R.inv_int{k:IntKind}{n:Int}(h:R w fr m (.one (.int k n) u) c):u= .int k n:=by cases h;rfl
theorem R.inv_str{l:List UInt8}(h:R w fr m (.one (.str l) u) c):u= .string ⟨l.toArray⟩:=by cases h;rfl
theorem R.inv_agg{xs:List V}(h:R w fr m (.one (.agg xs) u) c): ∃us,u= .agg us.toArray∧R w fr m (.list xs us) c:=by cases h;exact ⟨_,rfl,by assumption⟩
theorem R.inv_tup{xs:List V}(h:R w fr m (.one (.tup xs) u) c): ∃us,u= .tuple us.toArray∧R w fr m (.list xs us) c:=by cases h;exact ⟨_,rfl,by assumption⟩
theorem R.inv_ptr{id i j:Nat}(h:R w fr m (.one (.ptr id i j) u) c): ∃b k,u= .pointer (some ⟨b,i*k+j,none⟩)∧m id=some (b,k):=by cases h;exact ⟨_,_,rfl,by assumption⟩
theorem R.inv_fp{xs:List V}(h:R w fr m (.one (.fp xs) u) c): ∃b off,u= .pointer (some ⟨b,off,none⟩)∧b<w.heap.size∧fr b∧R w fr Q1e (.cells b off xs) z0:=by
 cases h;exact ⟨_,_,rfl,by assumption,by assumption,by assumption⟩
theorem R.inv_raw{v:Value}(h:R w fr m (.one (.raw v) u) c):u=v:=by cases h;rfl
end
def OKo(P:Program)(X:Ctx)(st:St)(o:Oper)(x:V)(st':St):Prop:=
 ∀w m cn a,Inv X w st.ob m cn→Sl X w m cn st.tm a→ ∃nx u w' m' cn',(execOp a.eval o).run P w= .ok nx w'∧(nx= .value u∨nx= .skip∧u=undef)∧
  Inv X w' st'.ob m' cn'∧Sl X w' m' cn' st'.tm a∧R w' (frz X cn') m' (.one x u) z0
def Kp(w w':World):Prop:=w.heap.size≤w'.heap.size∧ ∀b,b<w.heap.size→w'.heap[b]? =w.heap[b]?
theorem Kp.refl(w:World):Kp w w:=⟨Nat.le_refl _,fun _ _=>rfl⟩
theorem Kp.trans{w w' w'':World}(h1:Kp w w')(h2:Kp w' w''):Kp w w'':=⟨Nat.le_trans h1.1 h2.1,fun b hb=>by rw[h2.2 b (Nat.lt_of_lt_of_le hb h1.1),h1.2 b hb]⟩
theorem Kp.cell{w w':World}(h:Kp w w'){a:Addr}{v:Value}(hv:w.cell? a=some v):w'.cell? a=some v:=by
 have hb:a.block<w.heap.size:=by
  unfold World.cell? at hv
  split at hv
  ·rename_i hh;exact (Array.getElem?_eq_some_iff.1 hh).1
  ·cases hv
 unfold World.cell? at hv⊢
 rw[h.2 _ hb]
 exact hv
def Kr(X:Ctx)(cn:Nat→Cnt)(L:List Nat)(w w':World):Prop:=w.heap.size≤w'.heap.size∧ ∀b,b<w.heap.size→(frz X cn b∨ ∃id∈L,0<cn id b)→w'.heap[b]? =w.heap[b]?
theorem Kr.refl{X:Ctx}{cn:Nat→Cnt}{L:List Nat}(w:World):Kr X cn L w w:=⟨Nat.le_refl _,fun _ _ _=>rfl⟩
theorem Kr.of_kp{X:Ctx}{cn:Nat→Cnt}{L:List Nat}{w w':World}(h:Kp w w'):Kr X cn L w w':=⟨h.1,fun b hb _=>h.2 b hb⟩
theorem Kr.cell{X:Ctx}{cn:Nat→Cnt}{L:List Nat}{w w':World}(h:Kr X cn L w w'){b o:Nat}{v:Value}(hb:frz X cn b∨ ∃id∈L,0<cn id b)(hv:w.cell? ⟨b,o,none⟩=some v):w'.cell? ⟨b,o,none⟩=some v:=by
 have hlt:=Qeb hv
 rw[Qm1 (h.2 b hlt hb)]
 exact hv
def OKp(P:Program)(X:Ctx)(L:List Nat)(st:St)(o:Oper)(x:V):Prop:=
 ∀w m cn a,Inv X w st.ob m cn→Sl X w m cn st.tm a→ ∃u,(∀w',Kr X cn L w w'→(execOp a.eval o).run P w'= .ok (.value u) w')∧R w (frz X cn) m (.one x u) z0
theorem OKp.okL{P:Program}{X:Ctx}{L:List Nat}{st:St}{o:Oper}{x:V}(h:OKp P X L st o x):OKo P X st o x st:=fun w m cn a hi hs=>
 let ⟨u,h1,h2⟩:=h w m cn a hi hs
 ⟨_,u,w,m,cn,h1 w (Kr.refl w),.inl rfl,hi,hs,h2⟩
theorem OKp.ok{P:Program}{X:Ctx}{st:St}{o:Oper}{x:V}(h:OKp P X [] st o x):OKo P X st o x st:=h.okL
section
variable {P:Program} {X:Ctx} {L:List Nat} {st:St} {o:Oper}
theorem Qq9{x:Operand}(ho:o.op= .move x∨o.op= .assign x):OKp P X L st o (val st x):=by
 intro w m cn a hi hs
 exact ⟨a.eval x,fun w _=>by rcases ho with ho|ho<;>simp[execOp,ho],Q14 hs x⟩
theorem Qz7{c x y:Operand}{v:Bool}(ho:o.op= .pick c x y)(hc:val st c= .bool v):OKp P X L st o (if v then val st x else val st y):=by
 intro w m cn a hi hs
 have h:=Q14 hs c
 rw[hc] at h
 have he:=R.inv_bool h
 cases v
 ·exact ⟨a.eval y,fun w _=>by simp[execOp,ho,he,asBool],Q14 hs y⟩
 ·exact ⟨a.eval x,fun w _=>by simp[execOp,ho,he,asBool],Q14 hs x⟩
theorem Qwm{op:BinOp}{t t':TypeId}{x y:Operand}{k:IntKind}{p q:Int}{r:V}(ho:o.op= .binOp op t x y t')(hx:val st x= .int k p)(hy:val st y= .int k q)
  (hr:Qzz op k p q=some r):OKp P X L st o r:=by
 intro w m cn a hi hs
 have h1:=Q14 hs x
 have h2:=Q14 hs y
 rw[hx] at h1
 rw[hy] at h2
 have e1:=R.inv_int h1
 have e2:=R.inv_int h2
 have he: ∀w,(execOp a.eval o).run P w=((do eqGuard op t x y (.int k p) (.int k q);binOp op t (.int k p) (.int k q):Sem Value).run P w).andThen fun v w=> .ok (.value v) w:=by
  intro w
  simp only[execOp,ho,e1,e2,Sem.run_bind]
  rfl
 simp only[he]
 have hb: ∀op',op=op'→(binOp op' t (.int k p) (.int k q))=(match op',Value.int k p,Value.int k q with
   | .shl,.int k a,.int yk b| .shr,.int k a,.int yk b=>Op.shift op' k a yk b
   |_,.int k a,.int _ b=>match op' with
    | .add| .sub| .mul=>Op.intArith op' k a b
    | .quo| .rem=>Op.intDiv op' k a b
    | .and| .or| .xor| .andNot=>Op.intBits op' k a b
    |_=>Op.intCmp op' a b
   | _, _, _ => stuck "") := by
  intro op' _
  cases op'<;>first|rfl|(simp only[binOp];rw[if_neg Z3])
 have hg: ∀w,(eqGuard op t x y (.int k p) (.int k q)).run P w= .ok () w:=by intro w;cases op<;>rfl
 simp only[Sem.run_bind,hg,Result.andThen_ok,hb op rfl]
 cases op<;>simp only[Qzz] at hr<;>first
  |(cases hr;done)
  |(cases hr;exact ⟨_,fun w _=>rfl,.int _ _⟩)
  |(cases hr;exact ⟨_,fun w _=>rfl,.bool _⟩)
  |skip
 all_goals
  split at hr
  ·cases hr
  ·rename_i hq
   cases hr
   refine ⟨_,fun w _=> ?_,.int _ _⟩
   simp[Op.intDiv,hq]
   try rfl
theorem Qq8{op:BinOp}{t t':TypeId}{x y:Operand}{k k':IntKind}{p q:Int}{r:V}(ho:o.op= .binOp op t x y t')(hx:val st x= .int k p)(hy:val st y= .int k' q)
  (hr:shft op k p q=some r):OKp P X L st o r:=by
 intro w m cn a hi hs
 have h1:=Q14 hs x
 have h2:=Q14 hs y
 rw[hx] at h1
 rw[hy] at h2
 have e1:=R.inv_int h1
 have e2:=R.inv_int h2
 unfold shft at hr
 split at hr
 ·cases hr
 rename_i hq
 have he: ∀w,(execOp a.eval o).run P w=((do eqGuard op t x y (.int k p) (.int k' q);binOp op t (.int k p) (.int k' q):Sem Value).run P w).andThen fun v w=> .ok (.value v) w:=by
  intro w
  simp only[execOp,ho,e1,e2,Sem.run_bind]
  rfl
 have hg: ∀w,(eqGuard op t x y (.int k p) (.int k' q)).run P w= .ok () w:=by intro w;cases op<;>rfl
 simp only[he,Sem.run_bind,hg,Result.andThen_ok]
 cases op<;>simp only at hr<;>first
  |(cases hr;done)
  |skip
 all_goals
  cases hr
  refine ⟨_,fun w _=> ?_,.int _ _⟩
  simp only[binOp,Op.shift,if_neg hq]
  rfl
theorem Q10c(l:List UInt8):(⟨l.toArray⟩:ByteArray).toList=l:=by rw[ByteArray.toList_eq]
theorem Q127{op:BinOp}{t t':TypeId}{x y:Operand}{p q:List UInt8}{r:V}(ho:o.op= .binOp op t x y t')(hx:val st x= .str p)(hy:val st y= .str q)
  (hr:Qz0 op p q=some r):OKp P X L st o r:=by
 intro w m cn a hi hs
 have h1:=Q14 hs x
 have h2:=Q14 hs y
 rw[hx] at h1
 rw[hy] at h2
 have e1:=R.inv_str h1
 have e2:=R.inv_str h2
 have he: ∀w,(execOp a.eval o).run P w=((do eqGuard op t x y (.string ⟨p.toArray⟩) (.string ⟨q.toArray⟩);binOp op t (.string ⟨p.toArray⟩) (.string ⟨q.toArray⟩):Sem Value).run P w).andThen fun v w=> .ok (.value v) w:=by
  intro w
  simp only[execOp,ho,e1,e2,Sem.run_bind]
  rfl
 have hg: ∀w,(eqGuard op t x y (.string ⟨p.toArray⟩) (.string ⟨q.toArray⟩)).run P w= .ok () w:=by intro w;cases op<;>rfl
 have hb:binOp op t (.string ⟨p.toArray⟩) (.string ⟨q.toArray⟩)=Op.stringOp op ⟨p.toArray⟩ ⟨q.toArray⟩:=by cases op<;>rfl
 simp only[he,Sem.run_bind,hg,Result.andThen_ok,hb]
 cases op<;>simp only[Qz0] at hr<;>first
  |(cases hr;done)
  |(cases hr;exact ⟨_,fun w _=>by simp only[Op.stringOp,Q10c];rfl,.bool _⟩)
  |skip
 split at hr
 ·rename_i hq
  cases hr
  refine ⟨.string ⟨(p++q).toArray⟩,fun w _=> ?_,.str _⟩
  have hlen: ¬(((⟨p.toArray⟩:ByteArray).size+(⟨q.toArray⟩:ByteArray).size:Nat):Int)>IntKind.i64.max:=by
   show¬((p.length+q.length:Nat):Int)>9223372036854775807
   omega
  simp only[Op.stringOp,if_neg hlen,Sem.run_pure,Result.andThen_ok]
  congr 3
 ·cases hr
theorem TI.of{T:Nat→Option TI}(hT:TOK P T){t:Nat}{ti:TI}(h:T t=some ti):
  ∃i d z,P.info? t=some i∧P.underlying t=some d∧i.zero=some z∧ti.kd=Qjm d∧ti.size=i.size∧ti.bytes=i.bytes∧ti.zero=ofV z∧ti.plain=Qv7 P t d:=by
 have h:=hT t ti h
 unfold mkTI at h
 split at h
 ·rename_i i d hi hd
  split at h
  ·rename_i z hz
   cases h
   exact ⟨i,d,z,hi,hd,hz,rfl,rfl,rfl,rfl,rfl⟩
  ·cases h
 ·cases h
theorem Qzg{d:TypeDesc}(h:Kd.bool=Qjm d):d= .bool:=by cases d<;>simp_all[Qjm]
theorem Qye{d:TypeDesc}{k:IntKind}(h:Kd.int k=Qjm d):d= .int k:=by cases d<;>simp_all[Qjm]
theorem Qci{d:TypeDesc}(h:Kd.str=Qjm d):d= .string:=by cases d<;>simp_all[Qjm]
theorem Q6g{d:TypeDesc}{e:Nat}(h:Kd.slice e=Qjm d):d= .slice e:=by cases d<;>simp_all[Qjm]
theorem Qic{d:TypeDesc}{fs:List (Nat×Nat)}(h:Kd.struct fs=Qjm d): ∃gs,d= .struct gs∧fs=gs.toList.map fun f=>(f.offset,f.type):=by
 cases d<;>simp_all[Qjm]
theorem Q44{t:TypeId}{i:TypeInfo}(h:P.info? t=some i)(w:World):(sizeOf t).run P w= .ok i.size w:=by
 simp[sizeOf,typeInfo,h]
theorem Q129{t:TypeId}{x:Operand}{v:Bool}(ho:o.op= .unOp .not t x)(hx:val st x= .bool v):OKp P X L st o (.bool (!v)):=by
 intro w m cn a hi hs
 have h1:=Q14 hs x
 rw[hx] at h1
 exact ⟨.bool (!v),fun w _=>by simp[execOp,ho,R.inv_bool h1,Op.unary],.bool _⟩
theorem Q12a{t:TypeId}{x:Operand}{k:IntKind}{n:Int}(ho:o.op= .unOp .neg t x)(hx:val st x= .int k n):OKp P X L st o (.int k (k.wrap (0-n))):=by
 intro w m cn a hi hs
 have h1:=Q14 hs x
 rw[hx] at h1
 exact ⟨.int k (k.wrap (0-n)),fun w _=>by simp only[execOp,ho,R.inv_int h1,Op.unary,Op.intArith];rfl,.int _ _⟩
theorem Q7v{x:Operand}(ho:o.op= .nilCheck x)(hx:(∃id i j,val st x= .ptr id i j)∨(∃xs,val st x= .fp xs)∨ ∃f xs ys,val st x= .clo (.func f) xs ys):
  OKp P X L st o (val st x):=by
 intro w m cn a hi hs
 have h1:=Q14 hs x
 refine ⟨a.eval x,fun w _=> ?_,h1⟩
 rcases hx with ⟨id,i,j,hx⟩|⟨xs,hx⟩|⟨f,xs,ys,hx⟩
 ·rw[hx] at h1
  obtain ⟨b,k,e,_⟩:=R.inv_ptr h1
  simp[execOp,ho,e]
 ·rw[hx] at h1
  obtain ⟨b,off,e,_⟩:=R.inv_fp h1
  simp[execOp,ho,e]
 ·rw[hx] at h1
  have: ∃us vs,a.eval x= .func (.func f) us vs:=by
   generalize a.eval x=u at h1
   cases h1
   exact ⟨_,_,rfl⟩
  obtain ⟨us,vs,e⟩:=this
  simp[execOp,ho,e]
theorem Qi8{op:BinOp}{t t':TypeId}{x y:Operand}{p q:Bool}{T:Nat→Option TI}{ti:TI}(hT:TOK P T)(ht:T t=some ti)(hk:ti.kd= .bool)
  (ho:o.op= .binOp op t x y t') (hop:op= .eql∨op= .neq) (hx:val st x= .bool p) (hy:val st y= .bool q):
  OKp P X L st o (.bool (if op= .eql then p==q else !(p==q))):=by
 intro w m cn a hi hs
 have h1:=Q14 hs x
 have h2:=Q14 hs y
 rw[hx] at h1
 rw[hy] at h2
 obtain ⟨i,d,z,_,hu,_,hd,_⟩:=TI.of hT ht
 rw[hk] at hd
 have:=Qzg hd
 subst this
 have hq: ∀w,(Op.equal t (.bool p) (.bool q)).run P w= .ok (p==q) w:=by
  intro w
  obtain ⟨dp,hm⟩: ∃dp,Op.maxDepth=dp+1:=⟨9999,rfl⟩
  unfold Op.equal
  rw[hm]
  clear hm
  simp only[Op.equalIn,Sem.run_bind,run_underlying hu,Result.andThen_ok]
  rfl
 rcases hop with rfl|rfl
 ·exact ⟨.bool (p==q),fun w _=>by simp[execOp,ho,R.inv_bool h1,R.inv_bool h2,eqGuard,binOp,hq],.bool _⟩
 ·exact ⟨.bool (!(p==q)),fun w _=>by simp[execOp,ho,R.inv_bool h1,R.inv_bool h2,eqGuard,binOp,hq],.bool _⟩
theorem Qz9{s t:TypeId}{x:Operand}{k k':IntKind}{n:Int}{T:Nat→Option TI}{ti si:TI}(hT:TOK P T)(ht:T t=some ti)(hk:ti.kd= .int k')
  (hsI:T s=some si) (ho:o.op= .convert s t x) (hx:val st x= .int k n):OKp P X L st o (.int k' (k'.wrap n)):=by
 intro w m cn a hi hs
 have h1:=Q14 hs x
 rw[hx] at h1
 obtain ⟨i,d,z,_,hu,_,hd,_⟩:=TI.of hT ht
 obtain ⟨i2,d2,z2,_,hu2,_,hd2,_⟩:=TI.of hT hsI
 rw[hk] at hd
 have:=Qye hd
 subst this
 refine ⟨.int k' (k'.wrap n),fun w _=> ?_,.int _ _⟩
 simp only[execOp,ho,R.inv_int h1,convert,Sem.run_bind,run_underlying hu,run_underlying hu2,Result.andThen_ok]
 rfl
theorem Qwj{s t:TypeId}{x:Operand}{l:List UInt8}{T:Nat→Option TI}{ti si:TI}(hT:TOK P T)(ht:T t=some ti)(hk:ti.kd= .str)
  (hsI:T s=some si) (hks:si.kd= .str) (ho:o.op= .convert s t x) (hx:val st x= .str l):OKp P X L st o (.str l):=by
 intro w m cn a hi hs
 have h1:=Q14 hs x
 rw[hx] at h1
 obtain ⟨i,d,z,_,hu,_,hd,_⟩:=TI.of hT ht
 obtain ⟨i2,d2,z2,_,hu2,_,hd2,_⟩:=TI.of hT hsI
 rw[hk] at hd
 rw[hks] at hd2
 have:=Qci hd
 have:=Qci hd2
 subst d d2
 refine ⟨.string ⟨l.toArray⟩,fun w _=> ?_,.str _⟩
 simp only[execOp,ho,R.inv_str h1,convert,Sem.run_bind,run_underlying hu,run_underlying hu2,Result.andThen_ok]
 rfl
theorem Qqx{x:Operand}{j:Nat}{xs:List V}{v:V}(ho:o.op= .extract x j)(hx:val st x= .tup xs)(hj:xs[j]? =some v):OKp P X L st o v:=by
 intro w m cn a hi hs
 have h1:=Q14 hs x
 rw[hx] at h1
 obtain ⟨us,e,hl⟩:=R.inv_tup h1
 obtain ⟨u,d,hu,hd,hle⟩:=R.one0 hl j v hj
 refine ⟨u,fun w _=> ?_,hd.zero fun z=>by have:=hle z;simp[z0] at this;omega⟩
 simp[execOp,ho,e,Instr.extract,hu]
theorem Qtp{t:TypeId}{x y:Operand}{l:List UInt8}{k:IntKind}{n:Int}{T:Nat→Option TI}{ti:TI}(hT:TOK P T)(ht:T t=some ti)(hk:ti.kd= .str)
  (ho:o.op= .index t x y) (hx:val st x= .str l) (hy:val st y= .int k n) (h0:0≤n) (hn:n.toNat<l.length):OKp P X L st o (.int .u8 (l.getD n.toNat 0).toNat):=by
 intro w m cn a hi hs
 have h1:=Q14 hs x
 have h2:=Q14 hs y
 rw[hx] at h1
 rw[hy] at h2
 obtain ⟨i,d,z,_,hu,_,hd,_⟩:=TI.of hT ht
 rw[hk] at hd
 have:=Qci hd
 subst this
 refine ⟨.int .u8 (l.getD n.toNat 0).toNat,fun w _=> ?_,.int _ _⟩
 have hg:(⟨l.toArray⟩:ByteArray)[n.toNat]? =some (l.getD n.toNat 0):=by
  rw[List.getD_eq_getElem?_getD,List.getElem?_eq_getElem hn]
  show (if h:n.toNat<(⟨l.toArray⟩:ByteArray).size then some ((⟨l.toArray⟩:ByteArray)[n.toNat]'h) else none)=_
  have hz:n.toNat<(⟨l.toArray⟩:ByteArray).size:=by show n.toNat<l.toArray.size;simpa using hn
  rw[dif_pos hz]
  rfl
 simp[execOp,ho,R.inv_str h1,R.inv_int h2,Instr.index,asIntOf,run_underlying hu,h0,hg]
end
end Go.Ev
namespace Go.Ev
open Go
section
variable {w:World} {fr:Nat→Prop} {m:Mp} {c:Cnt} {u:Value}
theorem R.inv_lst{o:Bool}{k:Nat}{xs:List V}(h:R w fr m (.one (.lst o k xs) u) z0):
  (xs=[]∧ ∃ad,u= .slice ad 0 0)∨ ∃b off cap,u= .slice (some ⟨b,off,none⟩) xs.length cap∧xs.length≤cap∧b<w.heap.size∧fr b∧uni k xs∧R w fr Q1e (.cells b off (Q1y xs)) z0:=by
 generalize hz:z0=c at h
 cases h with
 |nil=>exact .inl ⟨rfl,_,rfl⟩
 |nilz=>exact .inl ⟨rfl,_,rfl⟩
 |frz hl hb hk hn h=>exact .inr ⟨_,_,_,rfl,hn,hl,hb,hk,h⟩
 |own hb hs hk hn h hc=>
  rename_i b _ _ _ _
  subst hz
  have:=hc b
  simp[z0] at this
theorem R.inv_arr{id o n:Nat}(h:R w fr m (.one (.arr id o n) u) c):
  (n=0∧ ∃ad,u= .slice ad 0 0)∨ ∃b k off cap cur e,u= .slice (some ⟨b,off,none⟩) n cap∧n≤cap∧m id=some (b,k)∧w.shape? b=some (e,cur)∧
   ((n=0∧o≠0)∨(off=o*k∧(o+cap)*k≤cur)):=by
 cases h with
 |arrn=>exact .inl ⟨rfl,_,rfl⟩
 |arrz h hb ho=>exact .inr ⟨_,_,_,_,_,_,rfl,Nat.zero_le _,h,hb,.inl ⟨rfl,ho⟩⟩
 |arr h hb hn hc=>exact .inr ⟨_,_,_,_,_,_,rfl,hn,h,hb,.inr ⟨rfl,hc⟩⟩
end
theorem Inv.object{X:Ctx}{w:World}{ob:List Ob}{m:Mp}{cn:Nat→Cnt}(hi:Inv X w ob m cn){id k:Nat}{xs:List V}(h:ob[id]? =some (some (k,xs)))
  {b k':Nat} (hm:m id=some (b,k')):k'=k∧ ∃cur e c,w.heap[b]? =some (.cells cur e (0,0))∧uni k xs∧xs.length*k≤cur.size∧
   R w (frz X cn) m (.cells b 0 (Q1y xs)) c∧ ∀x,cn id x=c x+if x=b then 1 else 0:=by
 rcases hi.obj id _ h with ⟨_,hn,_⟩|⟨b2,cur,e,c,h1,h2,h3,h4,h5,h6⟩
 ·rw[hn] at hm;cases hm
 ·rw[h1] at hm
  cases hm
  exact ⟨rfl,cur,e,c,h2,h3,h4,h5,h6⟩
section
variable {P:Program} {X:Ctx} {L:List Nat} {st:St} {o:Oper} {T:Nat→Option TI}
theorem Q9y(b off n:Nat):(⟨b,off,none⟩:Addr).add n=⟨b,off+n,none⟩:=by unfold Addr.add;split<;>simp_all
theorem Qoo(hT:TOK P T){s f off ft:Nat}{ti fi:TI}{fs:List (Nat×Nat)}(ht:T s=some ti)(hk:ti.kd= .struct fs)(hf:fs[f]? =some (off,ft))(hft:T ft=some fi)
  (hs:fi.size≠0) (b o:Nat) (w:World):(Instr.fieldAt s (.pointer (some ⟨b,o,none⟩)) f).run P w= .ok (.pointer (some ⟨b,o+off,none⟩)) w:=by
 obtain ⟨i,d,z,_,hu,_,hd,_⟩:=TI.of hT ht
 obtain ⟨i2,d2,z2,hi2,_,_,_,hsz,_⟩:=TI.of hT hft
 rw[hk] at hd
 obtain ⟨gs,rfl,rfl⟩:=Qic hd
 rw[List.getElem?_map] at hf
 cases hg:gs[f]? with
 |none=>rw[←Array.getElem?_toList] at hg;rw[hg] at hf;cases hf
 |some g=>
  have hg':=hg
  rw[←Array.getElem?_toList] at hg
  rw[hg] at hf
  simp only[Option.map_some,Option.some.injEq,Prod.mk.injEq] at hf
  obtain ⟨rfl,rfl⟩:=hf
  simp[Instr.fieldAt,run_underlying hu,hg',Instr.sureAddr,fieldPlace,Q44 hi2,←hsz,hs,Q9y]
theorem Qku(hT:TOK P T){s f off ft:Nat}{x:Operand}{ti fi:TI}{fs:List (Nat×Nat)}(ho:o.op= .fieldAddr s x f)(ht:T s=some ti)(hk:ti.kd= .struct fs)
  (hf:fs[f]? =some (off,ft)) (hft:T ft=some fi) (hs:fi.size≠0) {id i j:Nat} (hx:val st x= .ptr id i j):OKp P X L st o (.ptr id i (j+off)):=by
 intro w m cn a hi hsl
 have h1:=Q14 hsl x
 rw[hx] at h1
 obtain ⟨b,k,e,hm⟩:=R.inv_ptr h1
 refine ⟨.pointer (some ⟨b,i*k+j+off,none⟩),fun w _=> ?_,?_⟩
 ·simp[execOp,ho,e,Qoo hT ht hk hf hft hs]
 ·rw[Nat.add_assoc];exact .ptr hm
theorem Qjb(hT:TOK P T){s f off ft:Nat}{x:Operand}{ti fi:TI}{fs:List (Nat×Nat)}(ho:o.op= .fieldAddr s x f)(ht:T s=some ti)(hk:ti.kd= .struct fs)
  (hf:fs[f]? =some (off,ft)) (hft:T ft=some fi) (hs:fi.size≠0) {xs:List V} (hx:val st x= .fp xs) (hl:off≤xs.length):OKp P X L st o (.fp (xs.drop off)):=by
 intro w m cn a hi hsl
 have h1:=Q14 hsl x
 rw[hx] at h1
 obtain ⟨b,o',e,hb,hfr,hc⟩:=R.inv_fp h1
 refine ⟨.pointer (some ⟨b,o'+off,none⟩),fun w _=> ?_,?_⟩
 ·simp[execOp,ho,e,Qoo hT ht hk hf hft hs]
 ·rw[←List.take_append_drop off xs] at hc
  obtain ⟨c1,c2,_,h2,h3⟩:=R.split hc
  rw[List.length_take,Nat.min_eq_left hl] at h2
  exact .fp hb hfr (h2.zero fun z=>by have:=h3 z;simp[z0] at this;omega)
theorem Qon(hT:TOK P T){t e:Nat}{ti ei:TI}(ht:T t=some ti)(hk:ti.kd= .slice e)(he:T e=some ei)(b off len cap:Nat)(k:IntKind)(n:Int)(h0:0≤n)(hn:n.toNat<len)(w:World):
  (Instr.indexAt t (.slice (some ⟨b,off,none⟩) len cap) (.int k n)).run P w= .ok (.pointer (some ⟨b,off+n.toNat*ei.size,none⟩)) w:=by
 obtain ⟨i,d,z,_,hu,_,hd,_⟩:=TI.of hT ht
 obtain ⟨i2,d2,z2,hi2,_,_,_,hsz,_⟩:=TI.of hT he
 rw[hk] at hd
 have:=Q6g hd
 subst this
 have hlt:0≤n∧n<(len:Int):=⟨h0,by omega⟩
 simp[Instr.indexAt,asIntOf,run_underlying hu,hlt,Q44 hi2,hsz,Q9y]
theorem Qkt(hT:TOK P T){t e:Nat}{x y:Operand}{ti ei:TI}(ho:o.op= .indexAddr t x y)(ht:T t=some ti)(hk:ti.kd= .slice e)(he:T e=some ei)
  {ow:Bool} {xs:List V} (hx:val st x= .lst ow ei.size xs) {ki:IntKind} {n:Int} (hy:val st y= .int ki n) (h0:0≤n) (hn:n.toNat<xs.length):
  OKp P X L st o (.fp (xs.getD n.toNat .junk).cells):=by
 intro w m cn a hi hsl
 have h1:=Q14 hsl x
 have h2:=Q14 hsl y
 rw[hx] at h1
 rw[hy] at h2
 rcases R.inv_lst h1 with ⟨rfl,_⟩|⟨b,off,cap,e1,hcap,hb,hfr,hu,hc⟩
 ·simp at hn
 ·obtain ⟨c2,h3,h4⟩:=R.elems hc hu hn
  exact ⟨.pointer (some ⟨b,off+n.toNat*ei.size,none⟩),fun w _=>by simp[execOp,ho,e1,R.inv_int h2,Qon hT ht hk he b off _ cap ki n h0 hn],.fp hb hfr (h3.zero fun z=>by have:=h4 z;simp[z0] at this;omega)⟩
theorem Qja(hT:TOK P T){t e:Nat}{x y:Operand}{ti ei:TI}(ho:o.op= .indexAddr t x y)(ht:T t=some ti)(hk:ti.kd= .slice e)(he:T e=some ei)
  {id off n:Nat} (hx:val st x= .arr id off n) {xs:List V} (hid:st.ob[id]? =some (some (ei.size,xs))) {ki:IntKind} {p:Int} (hy:val st y= .int ki p) (h0:0≤p) (hn:p.toNat<n):
  OKp P X L st o (.ptr id (off+p.toNat) 0):=by
 intro w m cn a hi hsl
 have h1:=Q14 hsl x
 have h2:=Q14 hsl y
 rw[hx] at h1
 rw[hy] at h2
 rcases R.inv_arr h1 with ⟨rfl,_⟩|⟨b,k,o',cap,cur,e',e1,hcap,hm,hsh,hor⟩
 ·omega
 ·obtain ⟨rfl,_⟩:=hi.object hid hm
  rcases hor with ⟨rfl,_⟩|⟨rfl,_⟩
  ·omega
  ·refine ⟨.pointer (some ⟨b,(off+p.toNat)*ei.size+0,none⟩),fun w _=> ?_,.ptr hm⟩
   simp[execOp,ho,e1,R.inv_int h2,Qon hT ht hk he b _ _ cap ki p h0 hn,Nat.add_mul]
end
end Go.Ev
namespace Go.Ev
open Go
def upd{α:Type}(f:Nat→α)(i:Nat)(x:α):Nat→α:=fun j=>if j=i then x else f j
theorem Q1h{α:Type}(f:Nat→α)(i:Nat)(x:α):upd f i x i=x:=by simp[upd]
theorem Qu{α:Type}(f:Nat→α){i j:Nat}(x:α)(h:j≠i):upd f i x j=f j:=by simp[upd,h]
theorem Q51(w:World)(o:Obj):(w.alloc o).heap.size=w.heap.size+1:=by show (w.heap.push o).size=_;simp
structure Ext (X:Ctx) (w:World) (m:Mp) (cn:Nat→Cnt) (w':World) (m':Mp) (cn':Nat→Cnt):Prop where
 sz:w.heap.size≤w'.heap.size
 fr: ∀b,b<w.heap.size→frz X cn b→frz X cn' b∧w'.heap[b]? =w.heap[b]?
 mp: ∀id x,m id=some x→m' id=some x∧w'.shape? x.1=w.shape? x.1
theorem Ext.R{X:Ctx}{w:World}{m:Mp}{cn:Nat→Cnt}{w':World}{m':Mp}{cn':Nat→Cnt}(h:Ext X w m cn w' m' cn'){x:V}{u:Value}
  (hr:Ev.R w (frz X cn) m (.one x u) z0):Ev.R w' (frz X cn') m' (.one x u) z0:=
 hr.mono h.sz h.fr (fun b hb=>absurd hb Z2z) trivial h.mp
theorem Ext.Rl{X:Ctx}{w:World}{m:Mp}{cn:Nat→Cnt}{w':World}{m':Mp}{cn':Nat→Cnt}(h:Ext X w m cn w' m' cn'){xs:List V}{us:List Value}
  (hr:Ev.R w (frz X cn) m (.list xs us) z0):Ev.R w' (frz X cn') m' (.list xs us) z0:=
 hr.mono h.sz h.fr (fun b hb=>absurd hb Z2z) trivial h.mp
theorem Ext.Sl{X:Ctx}{w:World}{m:Mp}{cn:Nat→Cnt}{w':World}{m':Mp}{cn':Nat→Cnt}(h:Ext X w m cn w' m' cn'){tm:List V}{a:Act}
  (hr:Ev.Sl X w m cn tm a):Ev.Sl X w' m' cn' tm a:=h.Rl hr
section
variable {X:Ctx} {w:World} {ob:List Ob} {m:Mp} {cn:Nat→Cnt}
theorem Inv.lt_of_map(hi:Inv X w ob m cn){id:Nat}{x:Nat×Nat}(h:m id=some x):id<ob.length:=by
 rcases Nat.lt_or_ge id ob.length with h'|h'
 ·exact h'
 ·rw[hi.fresh id h'] at h;cases h
theorem Ext.grow(hi:Inv X w ob m cn)(o:Obj)(k:Nat):
  Ext X w m cn (w.alloc o) (upd m ob.length (some (w.heap.size,k))) (upd cn ob.length (fun x=>if x=w.heap.size then 1 else 0)):=by
 refine ⟨by rw[Q51];omega,fun b hb hf=>⟨⟨hf.1,fun id=> ?_⟩,heap_alloc_old w _ hb⟩,fun id x h=> ?_⟩
 ·by_cases hid:id=ob.length
  ·subst hid;rw[Q1h];simp;omega
  ·rw[Qu _ _ hid];exact hf.2 id
 ·have:=hi.lt_of_map h
  rw[Qu _ _ Zb]
  exact ⟨h,Q4w (heap_alloc_old w _ (hi.mlt id x h))⟩
theorem Qgh.ext{w':World}{m':Mp}{cn':Nat→Cnt}{id:Nat}{o:Ob}(he:Ext X w m cn w' m' cn')(h:Qgh w (frz X cn) m (cn id) id o)(hid:cn' id=cn id)(hm:m' id=m id)
  (hh: ∀b,0<cn id b→w'.heap[b]? =w.heap[b]?):Qgh w' (frz X cn') m' (cn' id) id o:=by
 cases o with
 |none=>trivial
 |some p=>
  obtain ⟨k,xs⟩:=p
  rcases h with ⟨h1,h2,h3⟩|⟨b,cur,e,c,h1,h2,h3,h4,h5,h6⟩
  ·exact .inl ⟨h1,by rw[hm];exact h2,by rw[hid];exact h3⟩
  ·have hb:w'.heap[b]? =w.heap[b]? :=hh b (by rw[h6];simp)
   exact .inr ⟨b,cur,e,c,by rw[hm];exact h1,by rw[hb];exact h2,h3,h4,
    h5.mono he.sz he.fr (fun x hx=>hh x (by rw[h6];omega)) (.inr hb) he.mp,by rw[hid];exact h6⟩
theorem Inv.grow(hi:Inv X w ob m cn){cells:Array Value}{e:TypeId}{k:Nat}{xs:List V}(hk:uni k xs)(hl:xs.length*k≤cells.size)
  (hc: ∀us,us=cells.toList.take (Q1y xs).length→R w (frz X cn) m (.list (Q1y xs) us) z0∧ ∀u∈us,u.oneCell'=true):
  Inv X (w.alloc (.cells cells e)) (ob++[some (k,xs)]) (upd m ob.length (some (w.heap.size,k))) (upd cn ob.length (fun x=>if x=w.heap.size then 1 else 0)):=by
 have he:=Ext.grow hi (.cells cells e) k
 have hnew:=heap_alloc_new w (.cells cells e)
 refine ⟨by rw[Q51];have:=hi.le;omega,fun b hb ho=>by rw[heap_alloc_old w _ Zbs];exact hi.kept b hb ho,hi.os,hi.tape,hi.output,
  fun id o ho=> ?_,fun b i j h1 h2=> ?_,fun i b=> ?_,fun i b h=> ?_,fun id h=> ?_,fun id h=> ?_,fun id x h=> ?_,by simp;have:=hi.n0;omega,
  fun b hb=>by rw[Q4w (heap_alloc_old w _ Zbs)];exact hi.shp b hb⟩
 ·by_cases hid:id<ob.length
  ·rw[List.getElem?_append_left hid] at ho
   refine (hi.obj id o ho).ext he (Qu _ _ Zb) (Qu _ _ Zb) (fun b hb=>heap_alloc_old w _ (hi.new id b hb).1)
  ·have:id=ob.length:=by
    have:=(List.getElem?_eq_some_iff.1 ho).1
    simp at this;omega
   subst this
   simp at ho
   subst ho
   obtain ⟨h1,h2⟩:=hc _ rfl
   have hfl:(Q1y xs).length≤cells.size:=by rw[Q33 hk];exact hl
   refine .inr ⟨w.heap.size,cells,e,z0,Q1h _ _ _,hnew,hk,hl,R.holds (he.Rl h1) ?_ h2,fun x=>by rw[Q1h];simp[z0]⟩
   intro j u hu
   rw[List.getElem?_take] at hu
   split at hu
   ·simp only[World.cell?,hnew,Nat.zero_add]
    simpa using hu
   ·cases hu
 ·have hn: ∀i b,0<cn i b→b≠w.heap.size:=fun i b h e=>by have:=(hi.new i b h).1;omega
  by_cases hi':i=ob.length<;>by_cases hj':j=ob.length
  ·omega
  ·subst hi'
   rw[Q1h] at h1
   rw[Qu _ _ hj'] at h2
   have:=hn j b h2
   simp[this] at h1
  ·subst hj'
   rw[Q1h] at h2
   rw[Qu _ _ hi'] at h1
   have:=hn i b h1
   simp[this] at h2
  ·rw[Qu _ _ hi'] at h1
   rw[Qu _ _ hj'] at h2
   exact hi.dis b i j h1 h2
 ·by_cases hi':i=ob.length
  ·subst hi';rw[Q1h];split<;>omega
  ·rw[Qu _ _ hi'];exact hi.one i b
 ·by_cases hi':i=ob.length
  ·subst hi'
   rw[Q1h] at h
   have hb:b=w.heap.size:=by
    by_cases hb:b=w.heap.size
    ·exact hb
    ·simp[hb] at h
   rw[Q51]
   exact ⟨by omega,.inl (by rw[hb];exact hi.le)⟩
  ·rw[Qu _ _ hi'] at h
   have:=hi.new i b h
   rw[Q51]
   exact ⟨by omega,this.2⟩
 ·simp at h
  rw[Qu _ _ Zb]
  exact hi.fresh id Zb
 ·have hp:=hi.pas id h
  rw[Qu _ _ (by have:=hi.n0;omega)];exact hp
 ·by_cases hid:id=ob.length
  ·subst hid
   rw[Q1h] at h
   cases h
   rw[Q51];simp
  ·rw[Qu _ _ hid] at h
   rw[Q51]
   have:=hi.mlt id x h
   omega
end
end Go.Ev
namespace Go.Ev
open Go
section
variable {w:World} {fr:Nat→Prop} {m:Mp}
theorem Q12g(v:Value):R w fr m (.one (Qv2 v) v) z0:=by
 cases v<;>simp only[Qv2]<;>first
  |exact .bool _
  |exact .int _ _
  |exact .str _
  |(split<;>first|exact .junk|(rename_i h;exact .raw _ h))
theorem Qzb: ∀(vs:List Value),R w fr m (.list (vs.map Qv2) vs) z0
 |[]=> .lnil
 |v::vs=> .lcons (Q12g v) (Qzb vs) (fun _=>rfl)
theorem Q12e(v:Value):R w fr m (.one (ofV v) v) z0:=by
 unfold ofV
 split
 ·rename_i cs
  have:=R.agg (Qzb (w:=w) (fr:=fr) (m:=m) cs.toList)
  simpa using this
 ·exact Q12g v
def Q2q(xs:List V):Bool:=xs.all V.cellOK
theorem R.oneCells{xs:List V}{us:List Value}{c:Cnt}(h:R w fr m (.list xs us) c)(hx:Q2q xs=true): ∀u∈us,u.oneCell'=true:=by
 induction xs generalizing us c with
 |nil=>cases h;intro u hu;simp at hu
 |cons x xs ih=>
  cases h with
  |lcons h1 h2 he=>
   simp only[Q2q,List.all_cons,Bool.and_eq_true] at hx
   intro u hu
   rcases List.mem_cons.1 hu with rfl|hu
   ·exact h1.cellOK hx.1
   ·exact ih h2 hx.2 u hu
theorem R.toCells{x:V}{u:Value}(h:R w fr m (.one x u) z0)(hx:Q2q x.cells=true):R w fr m (.list x.cells u.cells.toList) z0∧ ∀v∈u.cells.toList,v.oneCell'=true:=by
 by_cases hagg: ∃xs,x= .agg xs
 ·obtain ⟨xs,rfl⟩:=hagg
  obtain ⟨us,rfl,hl⟩:=R.inv_agg h
  exact ⟨by simpa[V.cells,Value.cells] using hl,by simpa[Value.cells] using hl.oneCells (by simpa[V.cells] using hx)⟩
 ·have hc:x.cells=[x]:=by cases x<;>first|rfl|exact absurd ⟨_,rfl⟩ hagg
  rw[hc] at hx⊢
  simp only[Q2q,List.all_cons,List.all_nil,Bool.and_true] at hx
  have h1:=h.cellOK hx
  have hu:u.cells= #[u]:=by cases u<;>first|rfl|simp[Value.oneCell'] at h1
  rw[hu]
  exact ⟨.lcons h .lnil (fun _=>rfl),fun v hv=>by simp at hv;rw[hv];exact h1⟩
end
section
variable {P:Program} {X:Ctx} {st:St} {o:Oper} {T:Nat→Option TI}
theorem Q15n{x:V}{v:Value}(hx:Q2q x.cells=true)(hv: ∀w m cn a,Inv X w st.ob m cn→Sl X w m cn st.tm a→
   ∃u e,R w (frz X cn) m (.one x u) z0∧(execOp a.eval o).run P w= .ok (.value (.pointer (some ⟨w.heap.size,0,none⟩))) (w.alloc (.cells u.cells e))):
  OKo P X st o (.ptr st.ob.length 0 0) ⟨st.tm,st.ob++[some (x.cells.length,[x])]⟩:=by
 intro w m cn a hi hs
 obtain ⟨u,e,hR,hrun⟩:=hv w m cn a hi hs
 obtain ⟨h1,h2⟩:=hR.toCells hx
 have hlen:=h1.len
 have hf:Q1y [x]=x.cells:=by simp
 have hinv:=hi.grow (cells:=u.cells) (e:=e) (k:=x.cells.length) (xs:=[x]) (by intro y hy;simp at hy;rw[hy]) (by simp at hlen⊢;omega)
  (by
   intro us hus
   rw[hf,List.take_of_length_le Zb] at hus
   subst hus
   rw[hf]
   exact ⟨h1,h2⟩)
 have he:=Ext.grow hi (.cells u.cells e) x.cells.length
 refine ⟨_,_,_,_,_,hrun,.inl rfl,hinv,he.Sl hs,?_⟩
 have:=R.ptr (w:=w.alloc (.cells u.cells e)) (fr:=frz X (upd cn st.ob.length fun x=>if x=w.heap.size then 1 else 0)) (i:=0) (j:=0) (Q1h m st.ob.length (some (w.heap.size,x.cells.length)))
 simpa using this
theorem Q12b(hT:TOK P T){t:Nat}{ti:TI}(ho:o.op= .alloc t)(ht:T t=some ti)(hc:Q2q ti.zero.cells=true):
  OKo P X st o (.ptr st.ob.length 0 0) ⟨st.tm,st.ob++[some (ti.zero.cells.length,[ti.zero])]⟩:=by
 obtain ⟨i,d,z,hi',hu,hz,_,_,_,hzero,_⟩:=TI.of hT ht
 refine Q15n (v:=z) hc fun w m cn a hi hs=>⟨z,t,by rw[hzero];exact Q12e z,?_⟩
 simp[execOp,ho,Instr.alloc,zeroValue,typeInfo,hi',hz,newVar,newRow,World.alloc_eq]
theorem Q16b{t:Nat}{y:Operand}(ho:o.op= .box t y)(hc:Q2q (val st y).cells=true):
  OKo P X st o (.ptr st.ob.length 0 0) ⟨st.tm,st.ob++[some ((val st y).cells.length,[val st y])]⟩:=by
 refine Q15n (v:= .nilIface) hc fun w m cn a hi hs=>⟨a.eval y,t,Q14 hs y,?_⟩
 simp[execOp,ho,Instr.box,newVar,newRow,World.alloc_eq]
end
end Go.Ev
namespace Go.Ev
open Go
section
variable {w:World} {fr:Nat→Prop} {m:Mp}
theorem R.lsplit{ys:List V}: ∀{xs:List V} {us:List Value} {c:Cnt},R w fr m (.list (xs++ys) us) c→
  ∃c1 c2,R w fr m (.list xs (us.take xs.length)) c1∧R w fr m (.list ys (us.drop xs.length)) c2∧ ∀z,c z=c1 z+c2 z:=by
 intro xs
 induction xs with
 |nil=>intro us c h;exact ⟨z0,c,by simpa using .lnil,by simpa using h,fun z=>by simp[z0]⟩
 |cons x xs ih=>
  intro us c h
  cases h with
  |lcons h1 h2 he=>
   obtain ⟨c1,c2,h3,h4,h5⟩:=ih h2
   exact ⟨fun z=>_+c1 z,c2,by simpa using .lcons h1 h3 (fun _=>rfl),by simpa using h4,fun z=>by show _=_+c1 z+c2 z;rw[he,h5];omega⟩
theorem R.ljoin{ys:List V}{vs:List Value}{c2:Cnt}: ∀{xs:List V} {us:List Value} {c1:Cnt},R w fr m (.list xs us) c1→R w fr m (.list ys vs) c2→
  R w fr m (.list (xs++ys) (us++vs)) (fun z=>c1 z+c2 z):=by
 intro xs
 induction xs with
 |nil=>intro us c1 h1 h2;cases h1;simpa using h2
 |cons x xs ih=>
  intro us c1 h1 h2
  cases h1 with
  |lcons h1 h3 he=>exact .lcons h1 (ih h3 h2) (fun y=>by rw[he];omega)
end
def Qe6(e:V)(j:Nat)(vc:List V):V:=
 match e with
 | .agg ys=> .agg (ys.take j++vc++ys.drop (j+vc.length))
 |x=>match vc with|[y]=>y|_=>x
theorem Qe5{e:V}{j:Nat}{vc:List V}(h:j+vc.length≤e.cells.length)(hv:Q2q vc=true)(h0:0<vc.length):
  (Qe6 e j vc).cells=e.cells.take j++vc++e.cells.drop (j+vc.length):=by
 by_cases hagg: ∃xs,e= .agg xs
 ·obtain ⟨xs,rfl⟩:=hagg
  rfl
 ·have hc:e.cells=[e]:=by cases e<;>first|rfl|exact absurd ⟨_,rfl⟩ hagg
  rw[hc] at h⊢
  simp at h
  have hj:j=0:=by omega
  obtain ⟨y,rfl⟩: ∃y,vc=[y]:=List.length_eq_one_iff.1 Zb
  subst hj
  have hs:Qe6 e 0 [y]=y:=by cases e<;>first|rfl|exact absurd ⟨_,rfl⟩ hagg
  have hy:y.cells=[y]:=by
   simp[Q2q] at hv
   cases y<;>first|rfl|simp[V.cellOK] at hv
  rw[hs,hy];simp
theorem Ql8{k:Nat}{xs:List V}(hk:uni k xs){i:Nat}(hi:i<xs.length){e:V}{vc:List V}{j:Nat}(he:e.cells=(xs.getD i .junk).cells.take j++vc++(xs.getD i .junk).cells.drop (j+vc.length))
  (hj:j+vc.length≤k):Q1y (xs.set i e)=(Q1y xs).take (i*k+j)++vc++(Q1y xs).drop (i*k+j+vc.length):=by
 have hlt:i<(xs.set i e).length:=by simpa using hi
 rw[Qef hlt,Qef hi]
 have hA:=Q2f hk (Nat.le_of_lt hi)
 have hE:=Qg7 hk hi
 have h1:(xs.set i e).getD i .junk=e:=by simp[List.getD_eq_getElem?_getD,hi]
 have h2:(xs.set i e).take i=xs.take i:=by rw[List.take_set,List.set_eq_of_length_le Z3l]
 have h3:(xs.set i e).drop (i+1)=xs.drop (i+1):=by rw[List.drop_set,if_pos Zb]
 rw[h1,h2,h3,he]
 generalize Q1y (xs.take i)=A at*
 generalize Q1y (xs.drop (i+1))=D at*
 generalize (xs.getD i .junk).cells=E at*
 simp only[List.append_assoc]
 rw[List.take_append,List.drop_append,List.take_append,List.drop_append,hA,hE]
 rw[List.take_of_length_le (by omega:A.length≤i*k+j),List.drop_eq_nil_of_le (by omega:A.length≤i*k+j+vc.length)]
 have e1:i*k+j-i*k=j:=by omega
 have e2:i*k+j+vc.length-i*k=j+vc.length:=by omega
 rw[e1,e2,show j-k=0 from by omega,show j+vc.length-k=0 from by omega]
 simp
end Go.Ev
namespace Go.Ev
open Go
theorem Q11x{α:Type}(l:List α)(p q:Nat):l=l.take p++((l.drop p).take q++l.drop (p+q)):=by
 rw[←List.drop_drop,List.take_append_drop,List.take_append_drop]
theorem Qbr(w:World)(g:Nat)(cs:Array Value):(w.setRow g cs).heap.size=w.heap.size:=by simp[World.setRow]
theorem Qe4{w:World}{g:Nat}{cs old:Array Value}{t:TypeId}{f:Nat×Nat}(hg:w.heap[g]? =some (.cells old t f))(hs:cs.size=old.size)(b:Nat):
  (w.setRow g cs).shape? b=w.shape? b:=by
 by_cases hb:b=g
 ·subst hb
  simp[World.shape?,setRow_heap w b old cs t f hg,hg,hs]
 ·exact Q4w (setRow_other w g b cs hb)
section
variable {X:Ctx} {w:World} {ob:List Ob} {m:Mp} {cn:Nat→Cnt}
theorem Inv.write(hi:Inv X w ob m cn){id k b:Nat}{xs xs':List V}(hid:ob[id]? =some (some (k,xs)))(hm:m id=some (b,k)){cur cs':Array Value}{e:TypeId}
  (hcur:w.heap[b]? =some (.cells cur e (0,0))) (hsz:cs'.size=cur.size) (hk:uni k xs') (hl:xs'.length*k≤cs'.size) {c c':Cnt} (hc: ∀x,cn id x=c x+if x=b then 1 else 0)
  (hle: ∀x,c' x≤c x) {us:List Value} (hus: ∀(j:Nat) (u:Value),us[j]? =some u→cs'[j]? =some u) (hR:R w (frz X cn) m (.list (Q1y xs') us) c') (h1: ∀u∈us,u.oneCell'=true):
  Inv X (w.setRow b cs') (ob.set id (some (k,xs'))) m (upd cn id (fun x=>c' x+if x=b then 1 else 0))∧
   Ext X w m cn (w.setRow b cs') m (upd cn id (fun x=>c' x+if x=b then 1 else 0)):=by
 have hcb:c b=0:=by have:=hi.one id b;rw[hc] at this;simp at this;omega
 have hother: ∀x,x≠b→(w.setRow b cs').heap[x]? =w.heap[x]? :=fun x hx=>setRow_other w b x cs' hx
 have hidb:cn id b=1:=by rw[hc,hcb];simp
 have hle2: ∀i x,upd cn id (fun x=>c' x+if x=b then 1 else 0) i x≤cn i x:=by
  intro i x
  by_cases h:i=id
  ·subst h;rw[Q1h,hc];have:=hle x;omega
  ·rw[Qu _ _ h];omega
 have hext:Ext X w m cn (w.setRow b cs') m (upd cn id (fun x=>c' x+if x=b then 1 else 0)):=by
  refine ⟨by rw[Qbr];omega,fun x hx hf=>⟨⟨hf.1,fun i=> ?_⟩,hother x fun e=> ?_⟩,fun i x hx=>⟨hx,Qe4 hcur hsz _⟩⟩
  ·have:=hle2 i x;have:=hf.2 i;omega
  ·have:=hf.2 id;rw[e,hidb] at this;omega
 refine ⟨⟨by rw[Qbr];exact hi.le,fun x hx ho=> ?_,hi.os,hi.tape,hi.output,fun i o ho=> ?_,fun x i j h1 h2=>hi.dis x i j (by have:=hle2 i x;omega) (by have:=hle2 j x;omega),
  fun i x=>by have:=hle2 i x;have:=hi.one i x;omega,fun i x h=>by rw[Qbr];exact hi.new i x (by have:=hle2 i x;omega),fun i h=>hi.fresh i Z49,hi.pas,
  fun i x h=>by rw[Qbr];exact hi.mlt i x h,by simpa using hi.n0,fun x hx=>by rw[Qe4 hcur hsz];exact hi.shp x hx⟩,hext⟩
 ·rw[hother x fun e=> ?_]
  ·exact hi.kept x hx ho
  ·have:=hi.new id b Zb
   rw[e] at hx ho
   rcases this.2 with h|h
   ·omega
   ·exact ho h
 ·by_cases h:i=id
  ·subst h
   rw[List.getElem?_set_self (List.getElem?_eq_some_iff.1 hid).1] at ho
   cases ho
   have hR':R (w.setRow b cs') (frz X (upd cn i (fun x=>c' x+if x=b then 1 else 0))) m (.list (Q1y xs') us) c':=
    hR.mono hext.sz hext.fr (fun x hx=>hother x (by rintro rfl;have:=hle x;omega)) trivial hext.mp
   refine .inr ⟨b,cs',e,c',hm,setRow_heap w b cur cs' e (0,0) hcur,hk,hl,R.holds hR' (fun j u hu=> ?_) h1,fun x=>by rw[Q1h]⟩
   simp only[World.cell?,setRow_heap w b cur cs' e (0,0) hcur,Nat.zero_add]
   simpa using hus j u hu
  ·rw[List.getElem?_set_ne (Ne.symm h)] at ho
   exact (hi.obj i o ho).ext hext (Qu _ _ h) rfl (fun x hx=>hother x (by rintro rfl;exact h (hi.dis x i id hx Zb)))
end
section
variable {P:Program} {X:Ctx} {L:List Nat} {st:St} {o:Oper} {T:Nat→Option TI}
theorem Qid(hT:TOK P T){t:Nat}{ti:TI}(ht:T t=some ti)(w:World):(isAgg t).run P w= .ok ti.isAgg w:=by
 obtain ⟨i,d,z,hi,hu,hz,hd,_⟩:=TI.of hT ht
 have key: ∀d,ti.kd=Qjm d→ti.isAgg=(match d with| .struct _| .array _ _=>true|_=>false):=by
  intro d hd
  unfold TI.isAgg
  rw[hd]
  cases d<;>rfl
 rw[key d hd]
 clear key hd
 cases d<;>simp[isAgg,run_underlying hu]
def rd(ti:TI)(cells:List V):Option V:=
 if ti.isAgg then (if (cells.take ti.size).length=ti.size then some (.agg (cells.take ti.size)) else none)
 else cells[0]?
theorem Qgb(hT:TOK P T){t:Nat}{ti:TI}(ht:T t=some ti){w:World}{fr:Nat→Prop}{m:Mp}{b off:Nat}{cells:List V}{c:Cnt}(h:R w fr m (.cells b off cells) c)
  {x:V} (hx:rd ti cells=some x) {G:World→Prop} (hG: ∀w',G w'→ ∀o v,w.cell? ⟨b,o,none⟩=some v→w'.cell? ⟨b,o,none⟩=some v): ∃u d,(∀w',G w'→(loadVar t ⟨b,off,none⟩).run P w'= .ok u w')∧R w fr m (.one x u) d∧ ∀z,d z≤c z:=by
 obtain ⟨i,d,z,hi,hu,hz,hd,hsz,_⟩:=TI.of hT ht
 unfold rd at hx
 by_cases hagg:ti.isAgg=true
 ·rw[if_pos hagg] at hx
  split at hx
  ·rename_i hlen
   cases hx
   have hcells:=h
   rw[←List.take_append_drop ti.size cells] at h
   obtain ⟨c1,c2,h1,h2,h3⟩:=R.split h
   obtain ⟨us,h4,h5,h6,h7⟩:=R.reads h1
   refine ⟨.agg us.toArray,c1,fun w' hw'=> ?_,.agg h5,fun z=>by rw[h3];omega⟩
   have hul:us.length=i.size:=by rw[h4,hlen,hsz]
   have:=Qc0 P b off us 0 #[] (w:=w') (fun j u hu=>hG w' hw' _ _ (by simpa using h6 j u hu))
   rw[hul] at this
   simp only[loadVar,Sem.run_bind,Qid hT ht,Result.andThen_ok,hagg,if_true,Q44 hi,loadCells,this,Sem.run_pure]
   simp
  ·cases hx
 ·rw[if_neg hagg] at hx
  obtain ⟨u,d,h1,h2,h3,h4⟩:=R.cell h hx
  refine ⟨u,d,fun w' hw'=> ?_,h3,h4⟩
  have hf:ti.isAgg=false:=by simpa using hagg
  rw[Nat.add_zero] at h1
  simp[loadVar,Qid hT ht,hf,run_load,hG w' hw' _ _ h1]
theorem Qwh(hT:TOK P T){t:Nat}{p:Operand}{ti:TI}(ho:o.op= .load t p)(ht:T t=some ti){cells:List V}(hp:val st p= .fp cells){x:V}(hx:rd ti cells=some x):OKp P X L st o x:=by
 intro w m cn a hi hs
 have h1:=Q14 hs p
 rw[hp] at h1
 obtain ⟨b,off,e,hb,hfr,hc⟩:=R.inv_fp h1
 obtain ⟨u,d,h2,h3,h4⟩:=Qgb hT ht hc hx (G:=Kr X cn L w) (fun w' hw' o v hv=>hw'.cell (.inl hfr) hv)
 refine ⟨u,fun w' hw'=>by simp[execOp,ho,e,Instr.loadAt,Instr.sureAddr,h2 w' hw'],?_⟩
 have hd:d=z0:=funext fun z=>by have:=h4 z;simp[z0] at this⊢;omega
 subst hd
 exact h3.mono (Nat.le_refl _) (fun b _ hf=>⟨hf,rfl⟩) (fun _ h=>absurd h Z2z) trivial (fun id x h=>by simp[Q1e] at h)
theorem Qz8(hT:TOK P T){t:Nat}{p:Operand}{ti:TI}(ho:o.op= .load t p)(ht:T t=some ti){id i j k:Nat}(hp:val st p= .ptr id i j){xs:List V}
  (hid:st.ob[id]? =some (some (k,xs))) (hi':i<xs.length) {x:V} (hj:j≤(xs.getD i .junk).cells.length) (hx:rd ti ((xs.getD i .junk).cells.drop j)=some x) (hf:x.free=true) (hL:id∈L):OKp P X L st o x:=by
 intro w m cn a hi hs
 have h1:=Q14 hs p
 rw[hp] at h1
 obtain ⟨b,k',e,hm⟩:=R.inv_ptr h1
 obtain ⟨rfl,cur,e',c,hb,hk,hl,hR,hc⟩:=hi.object hid hm
 obtain ⟨c1,c2,c3,_,h2,_,_⟩:=R.elem hR hk hi'
 rw[←List.take_append_drop j (xs.getD i .junk).cells] at h2
 obtain ⟨c4,c5,_,h3,_⟩:=R.split h2
 rw[List.length_take,Nat.min_eq_left hj] at h3
 obtain ⟨u,d,h4,h5,h6⟩:=Qgb hT ht h3 hx (G:=Kr X cn L w) (fun w' hw' o v hv=>hw'.cell (.inr ⟨id,hL,by rw[hc];simp⟩) hv)
 exact ⟨u,fun w' hw'=>by simp[execOp,ho,e,Instr.loadAt,Instr.sureAddr,h4 w' hw'],h5.zero (R.free0 h5 hf)⟩
theorem Q128(hT:TOK P T){t:Nat}{p y:Operand}{ti:TI}(ho:o.op= .store t p y)(ht:T t=some ti){id i j k:Nat}(hp:val st p= .ptr id i j){xs:List V}
  (hid:st.ob[id]? =some (some (k,xs))) (hi':i<xs.length) (hlen:(val st y).cells.length=ti.size) (h0:0<ti.size) (hok:Q2q (val st y).cells=true)
  (hj:j+ti.size≤(xs.getD i .junk).cells.length):
  OKo P X st o (.tup []) ⟨st.tm,st.ob.set id (some (k,xs.set i (Qe6 (xs.getD i .junk) j (val st y).cells)))⟩:=by
 intro w m cn a hi hs
 obtain ⟨inf,d,z,hinf,hu,hz,hd,hsz,_⟩:=TI.of hT ht
 have h1:=Q14 hs p
 rw[hp] at h1
 obtain ⟨b,k',e,hm⟩:=R.inv_ptr h1
 obtain ⟨rfl,cur,e',c,hb,hk,hl,hR,hc⟩:=hi.object hid hm
 obtain ⟨hv1,hv2⟩:=(Q14 hs y).toCells hok
 have hvl:=hv1.len
 generalize hVC:(val st y).cells=vc at*
 generalize hUC:(a.eval y).cells.toList=vs at*
 have hE:=Qg7 hk hi'
 have hcells:=Qe5 (e:=xs.getD i .junk) (j:=j) (vc:=vc) Zb hok Zb
 have hflat:=Ql8 hk hi' hcells Zb
 have hk2:uni k' (xs.set i (Qe6 (xs.getD i .junk) j vc)):=by
  intro x hx
  rcases List.mem_or_eq_of_mem_set hx with h|h
  ·exact hk x h
  ·rw[h,hcells,List.length_append,List.length_append,List.length_take,List.length_drop];omega
 obtain ⟨us,hul,hus,hrd,hone⟩:=R.reads hR
 have hfl:=Q33 hk
 have hoff:i*k'+j+vc.length≤xs.length*k':=by
  have:(i+1)*k'≤xs.length*k':=Nat.mul_le_mul_right k' hi'
  rw[Nat.add_mul] at this
  omega
 have hcs: ∀(q:Nat) (u:Value),us[q]? =some u→cur[q]? =some u:=by
  intro q u hq
  have:=hrd q u hq
  simpa[World.cell?,hb] using this
 have hsplit:=Q11x (Q1y xs) (i*k'+j) vc.length
 rw[hsplit] at hus
 obtain ⟨d1,d2,hA,hBC,hd12⟩:=R.lsplit hus
 obtain ⟨d3,d4,hB,hC,hd34⟩:=R.lsplit hBC
 have hAl:((Q1y xs).take (i*k'+j)).length=i*k'+j:=by rw[List.length_take];omega
 have hBl:(((Q1y xs).drop (i*k'+j)).take vc.length).length=vc.length:=by rw[List.length_take,List.length_drop];omega
 rw[hAl] at hA hBC hB hC
 rw[hBl,List.drop_drop] at hC
 have hnew:=R.ljoin (R.ljoin hA hv1) hC
 rw[←hflat] at hnew
 have hrun:=run_storeCells_at P b (i*k'+j) e' vs 0 cur w hb Zb hv2
 rw[Nat.add_zero] at hrun
 have hinv:=hi.write (cs':=(cur.toList.take (i*k'+j)++vs++cur.toList.drop (i*k'+j+vs.length)).toArray) hid hm hb Z3l hk2 Z3l hc
  (c':=fun z=>(fun z=>d1 z+z0 z) z+d4 z) (fun z=>by simp[z0];have:=hd12 z;have:=hd34 z;omega) (us:=us.take (i*k'+j)++vs++us.drop (i*k'+j+vc.length)) ?_ hnew ?_
 ·refine ⟨.skip,undef,_,_,_,?_,.inr ⟨rfl,rfl⟩,hinv.1,hinv.2.Sl hs,.tup .lnil⟩
  have hsize: ¬(a.eval y).cells.size≠inf.size:=by
   have:(a.eval y).cells.toList.length=inf.size:=by rw[hUC];omega
   simpa using this
  simp only[execOp,ho,e,Instr.storeAt,Instr.sureAddr,storeVar,Sem.run_bind,Sem.run_pure,Result.andThen_ok,Q44 hinf,if_neg hsize,hUC,hrun]
 ·intro q u hq
  rw[List.getElem?_toArray]
  rw[List.append_assoc] at hq⊢
  have hus':us.length=xs.length*k':=by rw[hul,hfl]
  rcases Nat.lt_or_ge q (i*k'+j) with h|h
  ·rw[List.getElem?_append_left Z5q,List.getElem?_take_of_lt h] at hq
   rw[List.getElem?_append_left (by rw[List.length_take];simp;omega),List.getElem?_take_of_lt h]
   simpa using hcs q u hq
  ·rw[List.getElem?_append_right Z5q] at hq
   rw[List.getElem?_append_right Z5q]
   rw[List.length_take,Nat.min_eq_left Zb] at hq
   rw[List.length_take,Nat.min_eq_left Z3l]
   rcases Nat.lt_or_ge (q-(i*k'+j)) vs.length with h'|h'
   ·rw[List.getElem?_append_left h'] at hq⊢
    exact hq
   ·rw[List.getElem?_append_right h'] at hq⊢
    rw[List.getElem?_drop] at hq⊢
    have:=hcs _ u hq
    rw[←Array.getElem?_toList] at this
    rw[show i*k'+j+vs.length+(q-(i*k'+j)-vs.length)=i*k'+j+vc.length+(q-(i*k'+j)-vs.length) from by omega]
    exact this
 ·intro u hu
  simp only[List.mem_append] at hu
  rcases hu with (hu|hu)|hu
  ·exact hone u (List.mem_of_mem_take hu)
  ·exact hv2 u hu
  ·exact hone u (List.mem_of_mem_drop hu)
end
end Go.Ev
namespace Go.Ev
open Go
def Q2l(d:Option Tmp)(x:V)(tm:List V):List V:=match d with|some t=>tm.set t x|none=>tm
def gd(ops:Array Oper)(st:St):Option (Nat×Bool)→Option Bool
 |none=>some true
 |some (j,want)=>
  match (ops[j]?).bind (·.dst) with
  |none=>some false
  |some d=>
   match st.tm[d]? with
   |some (.bool v)=>some (v==want)
   |some (.tup [])=>some false
   |_=>none
section
variable {P:Program} {X:Ctx} {st:St} {Q:Exit→St→Prop} {ops:Array Oper} {rest:List Oper} {o:Oper}
theorem Q62{w:World}{m:Mp}{cn:Nat→Cnt}{a:Act}(hs:Sl X w m cn st.tm a){g:Bool}(h:gd ops st o.guard=some g):Region.wanted o (yielded ops a.tmps)=g:=by
 unfold gd at h
 unfold Region.wanted
 split at h
 ·rename_i hg;rw[hg];cases h;rfl
 ·rename_i j want hg
  rw[hg]
  simp only[yielded]
  split at h
  ·rename_i hd
   cases h
   rw[hd]
   rfl
  ·rename_i d hd
   rw[hd]
   simp only[Option.bind_some]
   split at h
   ·rename_i v hv
    cases h
    obtain ⟨u,hu,hR⟩:=hs.get hv
    rw[hu,R.inv_bool hR]
    cases v<;>cases want<;>rfl
   ·rename_i hv
    cases h
    obtain ⟨u,hu,hR⟩:=hs.get hv
    obtain ⟨us,e,hl⟩:=R.inv_tup hR
    have:us=[]:=List.eq_nil_of_length_eq_zero (by rw[hl.len];rfl)
    rw[hu,e]
    rfl
   ·cases h
theorem Q102{x:V}{st':St}(h:OKo P X st o x st')(hg:gd ops st o.guard=some true)(hk:WL P X ops rest ⟨Q2l o.dst x st'.tm,st'.ob⟩ Q):WL P X ops (o::rest) st Q:=by
 intro w m cn a hi hs hd
 obtain ⟨nx,u,w',m',cn',hrun,hnx,hi',hs',hR⟩:=h w m cn a hi hs
 refine wpList_step fun K hK=> ?_
 rw[Q62 hs hg,if_pos rfl]
 have hs2:Sl X w' m' cn' (Q2l o.dst x st'.tm) (a.put o.dst u):=by
  have:=hs'.set o.dst hR
  cases ho:o.dst<;>simpa[Q2l,ho] using this
 have hd2:(a.put o.dst u).defers=[]:=by cases ho:o.dst<;>simpa[Act.put] using hd
 unfold Oper.wp
 rw[hrun]
 rcases hnx with rfl|⟨rfl,rfl⟩
 ·exact hK _ _ (hk w' m' cn' _ hi' hs2 hd2)
 ·exact hK _ _ (hk w' m' cn' _ hi' hs2 hd2)
theorem Q101(hg:gd ops st o.guard=some false)(hk:WL P X ops rest ⟨Q2l o.dst (.tup []) st.tm,st.ob⟩ Q):WL P X ops (o::rest) st Q:=by
 intro w m cn a hi hs hd
 refine wpList_step fun K hK=> ?_
 rw[Q62 hs hg,if_neg Z3]
 have hs2:Sl X w m cn (Q2l o.dst (.tup []) st.tm) (a.put o.dst undef):=by
  have:=hs.set o.dst (x:= .tup []) (u:=undef) (.tup .lnil)
  cases ho:o.dst<;>simpa[Q2l,ho] using this
 have hd2:(a.put o.dst undef).defers=[]:=by cases ho:o.dst<;>simpa[Act.put] using hd
 exact hK _ _ (hk w m cn _ hi hs2 hd2)
def Ct(P:Program)(f:FuncId)(args:List V)(ob:List Ob)(r:V)(ob':List Ob):Prop:=
 ∀(w:World) (fr:Nat→Prop) (m:Mp) (cn:Nat→Cnt) (us:List Value),(∀b,fr b→b<w.heap.size∧ ∀id,cn id b=0)→
  Inv ⟨w,fr,fun b=> ∃id,0<cn id b,m,ob.length⟩ w ob m cn→R w (frz ⟨w,fr,fun b=> ∃id,0<cn id b,m,ob.length⟩ cn) m (.list args us) z0→
  Calls P f us.toArray w fun e w'=> ∃u m' cn' d,e= .returned u∧Inv ⟨w,fr,fun b=> ∃id,0<cn id b,m,ob.length⟩ w' ob' m' cn'∧
   R w' (frz ⟨w,fr,fun b=> ∃id,0<cn id b,m,ob.length⟩ cn') m' (.one r u) d∧ob'.length=ob.length∧
   ∃n,ob.length≤n∧ ∀z,d z≤cn' n z
end
end Go.Ev
namespace Go.Ev
open Go
mutual
def V.pure:V→Bool
 | .ptr _ _ _=>false
 | .arr _ _ _=>false
 | .agg xs=>pureL xs
 | .tup xs=>pureL xs
 | .clo _ xs ys=>pureL xs&&pureL ys
 | .ifc _ x=>x.pure
 |_=>true
def pureL:List V→Bool
 |[]=>true
 |x::xs=>x.pure&&pureL xs
end
theorem Qcy(xs:List V):pureL xs=xs.all V.pure:=by
 induction xs with
 |nil=>rfl
 |cons x xs ih=>simp[pureL,ih]
theorem Qe8(xs ys:List V):pureL (xs++ys)=(pureL xs&&pureL ys):=by simp[Qcy]
theorem Qqu{xs:List V}(h:pureL xs=true):pureL (Q1y xs)=true:=by
 induction xs with
 |nil=>rfl
 |cons x xs ih=>
  simp only[pureL,Bool.and_eq_true] at h
  rw[flat_cons,Qe8,ih h.2,Bool.and_true]
  cases x<;>simp_all[V.cells,pureL,V.pure]
section
variable {w:World} {fr:Nat→Prop} {m:Mp}
theorem R.pureM{j:J}{c:Cnt}(h:R w fr m j c)(m':Mp):(match j with| .one x _=>x.pure=true| .cells _ _ xs=>pureL xs=true| .list xs _=>pureL xs=true)→R w fr m' j c:=by
 induction h with
 |junk=>intro _;exact .junk
 |bool=>intro _;exact .bool _
 |int=>intro _;exact .int _ _
 |str=>intro _;exact .str _
 |raw u h=>intro _;exact .raw u h
 |agg _ ih=>intro hp;exact .agg (ih Zc5)
 |tup _ ih=>intro hp;exact .tup (ih Zc5)
 |nil=>intro _;exact .nil
 |nilz=>intro _;exact .nilz
 |frz hl hb hk hn h _=>intro _;exact .frz hl hb hk hn h
 |own hb hs hk hn h hc _=>intro _;exact .own hb hs hk hn h hc
 |bx hb hs hk h hc _=>intro _;exact .bx hb hs hk h hc
 |fp hl hb h _=>intro _;exact .fp hl hb h
 |fmap hl hb he h=>intro _;exact .fmap hl hb he h
 |ptr h=>intro hp;simp[V.pure] at hp
 |arr h=>intro hp;simp[V.pure] at hp
 |arrz h=>intro hp;simp[V.pure] at hp
 |arrn=>intro hp;simp[V.pure] at hp
 |clo h1 h2 he ih1 ih2=>
  intro hp
  simp only[V.pure,Bool.and_eq_true] at hp
  exact .clo (ih1 hp.1) (ih2 hp.2) he
 |ifc h ih=>intro hp;exact .ifc (ih Zc5)
 |cnil=>intro _;exact .cnil
 |ccons hc h1c h1 h2 he ih1 ih2=>
  intro hp
  simp only[pureL,Bool.and_eq_true] at hp
  exact .ccons hc h1c (ih1 hp.1) (ih2 hp.2) he
 |lnil=>intro _;exact .lnil
 |lcons h1 h2 he ih1 ih2=>
  intro hp
  simp only[pureL,Bool.and_eq_true] at hp
  exact .lcons (ih1 hp.1) (ih2 hp.2) he
end
section
variable {P:Program} {X:Ctx} {st:St}
def resV(T:Nat→Option TI)(st:St):ResultVar→Option V
 | .tmp t=>st.tm[t]?
 | .cell a t=>
  match st.tm[a]?,T t with
  |some (.ptr id i j),some ti=>
   match st.ob[id]? with
   |some (some (_,xs))=>if i<xs.length∧j≤(xs.getD i .junk).cells.length then (match rd ti ((xs.getD i .junk).cells.drop j) with|some x=>if x.free then some x else none|none=>none) else none
   |_=>none
  |_,_=>none
def rv(tmps:Array Value):ResultVar→Sem Value
 | .tmp t=>pure (tmps.getD t undef)
 | .cell p t=>do loadVar t (←asAddr (tmps.getD p undef))
theorem Qxx(fn:Func)(tmps:Array Value):results fn tmps=(do let vs←fn.results.mapM (rv tmps);pure (if h:vs.size=1 then vs[0] else .tuple vs)):=by
 unfold results
 have:(fun (x:ResultVar)=>match x with| .tmp t=>(pure (tmps.getD t undef):Sem Value)| .cell p t=>do loadVar t (←asAddr (tmps.getD p undef)))=rv tmps:=by
  funext r
  cases r<;>rfl
 rw[←this]
 rfl
def Qxy(T:Nat→Option TI)(st:St):List ResultVar→Option (List V)
 |[]=>some []
 |r::rs=>match resV T st r,Qxy T st rs with
  |some x,some xs=>some (x::xs)
  |_,_=>none
def Qv0:List V→V
 |[x]=>x
 |xs=> .tup xs
theorem Q146{T:Nat→Option TI}(hT:TOK P T){w:World}{m:Mp}{cn:Nat→Cnt}{a:Act}(hi:Inv X w st.ob m cn)(hs:Sl X w m cn st.tm a){r:ResultVar}{x:V}(h:resV T st r=some x):
  ∃u,(rv a.tmps r).run P w= .ok u w∧R w (frz X cn) m (.one x u) z0:=by
 cases r with
 |tmp t=>
  obtain ⟨u,hu,hR⟩:=hs.get h
  exact ⟨u,by simp[rv,hu],hR⟩
 |cell p t=>
  simp only[resV] at h
  split at h
  ·rename_i id i j ti hp ht
   split at h
   ·rename_i k xs hid
    split at h
    ·rename_i hc
     split at h
     ·rename_i y hy
      split at h
      ·rename_i hf
       cases h
       obtain ⟨u,hu,hR⟩:=hs.get hp
       obtain ⟨b,k',e,hm⟩:=R.inv_ptr hR
       obtain ⟨rfl,cur,e',c,hb,hk,hl,hR,hcc⟩:=hi.object hid hm
       obtain ⟨c1,c2,c3,_,h2,_,_⟩:=R.elem hR hk hc.1
       rw[←List.take_append_drop j (xs.getD i .junk).cells] at h2
       obtain ⟨c4,c5,_,h3,_⟩:=R.split h2
       rw[List.length_take,Nat.min_eq_left hc.2] at h3
       obtain ⟨v,d,h4,h5,h6⟩:=Qgb hT ht h3 hy (G:=fun w'=>w'=w) (fun w' hw' o v hv=>by rw[hw'];exact hv)
       exact ⟨v,by simp[rv,hu,e,asAddr,h4 w rfl],h5.zero (R.free0 h5 hf)⟩
      ·cases h
     ·cases h
    ·cases h
   ·cases h
  ·cases h
theorem Q148{T:Nat→Option TI}(hT:TOK P T){w:World}{m:Mp}{cn:Nat→Cnt}{a:Act}(hi:Inv X w st.ob m cn)(hs:Sl X w m cn st.tm a):
  ∀(rs:List ResultVar) (xs:List V),Qxy T st rs=some xs→
  ∃us,(rs.mapM (rv a.tmps)).run P w= .ok us w∧R w (frz X cn) m (.list xs us) z0:=by
 intro rs
 induction rs with
 |nil=>intro xs h;cases h;exact ⟨[],by simp,.lnil⟩
 |cons r rs ih=>
  intro xs h
  simp only[Qxy] at h
  split at h
  ·rename_i x ys hx hy
   cases h
   obtain ⟨u,h1,h2⟩:=Q146 hT hi hs hx
   obtain ⟨us,h3,h4⟩:=ih _ hy
   exact ⟨u::us,by simp only[List.mapM_cons,Sem.run_bind,h1,Result.andThen_ok,h3,Sem.run_pure],.lcons h2 h4 (fun _=>rfl)⟩
  ·cases h
theorem Qji{T:Nat→Option TI}(hT:TOK P T){w:World}{m:Mp}{cn:Nat→Cnt}{a:Act}(hi:Inv X w st.ob m cn)(hs:Sl X w m cn st.tm a){fn:Func}{xs:List V}
  (h:Qxy T st fn.results.toList=some xs): ∃u,(results fn a.tmps).run P w= .ok u w∧R w (frz X cn) m (.one (Qv0 xs) u) z0:=by
 obtain ⟨us,h1,h2⟩:=Q148 hT hi hs _ _ h
 have hlen:=h2.len
 refine ⟨if h:us.toArray.size=1 then us.toArray[0] else .tuple us.toArray,?_,?_⟩
 ·simp only[Qxx,Array.mapM_eq_mapM_toList,Sem.run_bind,Sem.run_map,h1,Result.andThen_ok,Sem.run_pure]
 ·cases h2 with
  |lnil=>exact .tup .lnil
  |lcons h3 h4 he=>
   cases h4 with
   |lnil=>
    simp[Qv0]
    exact h3.zero fun z=>by have:=he z;simp[z0] at this;omega
   |lcons h5 h6 he2=>simp[Qv0];exact .tup (.lcons h3 (.lcons h5 h6 he2) he)
end
end Go.Ev
namespace Go.Ev
open Go
mutual
def Q88(n0:Nat)(ob:List Ob):V→Option (V×List Ob)
 | .arr id o n=>if id<n0 then some (.arr id o n,ob) else if o=0 then (match ob[id]? with
   |some (some (k,xs))=>if n≤xs.length∧pureL xs=true then some (.lst true k (xs.take n),ob.set id none) else none
   |_=>none) else none
 | .ptr id i j=>if id<n0 then some (.ptr id i j,ob) else if i=0∧j=0 then (match ob[id]? with
   |some (some (k,[x]))=>if pureL [x]=true then some (.bx k x,ob.set id none) else none
   |_=>none) else none
 | .agg xs=>match takeL n0 ob xs with|some (ys,ob')=>some (.agg ys,ob')|none=>none
 | .tup xs=>match takeL n0 ob xs with|some (ys,ob')=>some (.tup ys,ob')|none=>none
 | .clo f xs ys=>if pureL xs&&pureL ys then some (.clo f xs ys,ob) else none
 | .ifc t x=>if x.pure then some (.ifc t x,ob) else none
 |x=>some (x,ob)
def takeL(n0:Nat)(ob:List Ob):List V→Option (List V×List Ob)
 |[]=>some ([],ob)
 |x::xs=>match Q88 n0 ob x with
  |some (y,ob1)=>match takeL n0 ob1 xs with
   |some (ys,ob2)=>some (y::ys,ob2)
   |none=>none
  |none=>none
end
section
variable {X:Ctx} {w:World} {ob:List Ob} {m:Mp} {cn:Nat→Cnt}
def give(cn:Nat→Cnt)(id N:Nat):Nat→Cnt:=upd (upd cn N (fun x=>cn N x+cn id x)) id (fun _=>0)
theorem Qqe(cn:Nat→Cnt){id N:Nat}(h:id≠N):give cn id N id=(fun _=>0)∧give cn id N N=(fun x=>cn N x+cn id x):=
 ⟨Q1h _ _ _,by unfold give;rw[Qu _ _ (Ne.symm h),Q1h]⟩
theorem Q99(cn:Nat→Cnt){id N i:Nat}(h1:i≠id)(h2:i≠N):give cn id N i=cn i:=by unfold give;rw[Qu _ _ h1,Qu _ _ h2]
theorem Qrm{id N:Nat}(h:id≠N)(b:Nat):frz X (give cn id N) b↔frz X cn b:=by
 obtain ⟨h1,h2⟩:=Qqe cn h
 constructor
 ·rintro ⟨a,hb⟩
  refine ⟨a,fun i=> ?_⟩
  by_cases hid:i=id
  ·subst hid;have:=hb N;rw[h2] at this;simp at this;omega
  ·by_cases hN:i=N
   ·subst hN;have:=hb i;rw[h2] at this;simp at this;omega
   ·have:=hb i;rw[Q99 cn hid hN] at this;exact this
 ·rintro ⟨a,hb⟩
  refine ⟨a,fun i=> ?_⟩
  by_cases hid:i=id
  ·subst hid;rw[h1]
  ·by_cases hN:i=N
   ·subst hN;rw[h2];simp[hb i,hb id]
   ·rw[Q99 cn hid hN];exact hb i
theorem Ext.give{id N:Nat}(h:id≠N):Ext X w m cn w m (give cn id N):=
 ⟨Nat.le_refl _,fun b _ hf=>⟨(Qrm h b).2 hf,rfl⟩,fun _ _ hx=>⟨hx,rfl⟩⟩
theorem Inv.give(hi:Inv X w ob m cn){id N:Nat}(hN:ob.length≤N)(hid:id<ob.length):Inv X w (ob.set id none) m (give cn id N):=by
 have hne:id≠N:=by omega
 obtain ⟨h1,h2⟩:=Qqe cn hne
 have hsum: ∀i b,0<Ev.give cn id N i b→(i≠id∧(0<cn i b∨(i=N∧0<cn id b))):=by
  intro i b h
  by_cases e1:i=id
  ·subst e1;rw[h1] at h;simp at h
  ·refine ⟨e1,?_⟩
   by_cases e2:i=N
   ·subst e2
    rw[h2] at h
    rcases Nat.eq_zero_or_pos (cn i b) with h'|h'
    ·exact .inr ⟨rfl,by have h:0<cn i b+cn id b:=h;omega⟩
    ·exact .inl h'
   ·rw[Q99 cn e1 e2] at h;exact .inl h
 refine ⟨hi.le,hi.kept,hi.os,hi.tape,hi.output,fun i o ho=> ?_,fun b i j hb1 hb2=> ?_,fun i b=> ?_,fun i b h=> ?_,fun i h=>hi.fresh i Z49,hi.pas,hi.mlt,by simpa using hi.n0,hi.shp⟩
 ·by_cases e:i=id
  ·subst e
   rw[List.getElem?_set_self hid] at ho
   cases ho
   trivial
  ·rw[List.getElem?_set_ne (Ne.symm e)] at ho
   have hlt:=(List.getElem?_eq_some_iff.1 ho).1
   exact (hi.obj i o ho).ext (Ext.give hne) (Q99 cn e Zb) rfl (fun _ _=>rfl)
 ·obtain ⟨ni,h3⟩:=hsum i b hb1
  obtain ⟨nj,h4⟩:=hsum j b hb2
  rcases h3 with h3|⟨rfl,h3⟩<;>rcases h4 with h4|⟨rfl,h4⟩
  ·exact hi.dis b i j h3 h4
  ·exact absurd (hi.dis b i id h3 h4) ni
  ·exact absurd (hi.dis b j id h4 h3) nj
  ·rfl
 ·by_cases e1:i=id
  ·subst e1;rw[h1];simp
  ·by_cases e2:i=N
   ·subst e2
    rw[h2]
    have a1:=hi.one i b
    have a2:=hi.one id b
    show cn i b+cn id b≤1
    rcases Nat.eq_zero_or_pos (cn i b) with h|h
    ·omega
    ·rcases Nat.eq_zero_or_pos (cn id b) with h'|h'
     ·omega
     ·exact absurd (hi.dis b i id h h') e1
   ·rw[Q99 cn e1 e2];exact hi.one i b
 ·obtain ⟨_,h|⟨_,h⟩⟩:=hsum i b h
  ·exact hi.new i b h
  ·exact hi.new id b h
theorem Q5g{xs:List V}(n:Nat):Q1y xs=Q1y (xs.take n)++Q1y (xs.drop n):=by rw[←flat_append,List.take_append_drop]
theorem Qw9(hi:Inv X w ob m cn){id k n N:Nat}{xs:List V}{u:Value}(hid:ob[id]? =some (some (k,xs)))(hn:n≤xs.length)(hp:pureL xs=true)(hN:ob.length≤N)
  (hR:R w (frz X cn) m (.one (.arr id 0 n) u) z0):
  ∃d,R w (frz X (give cn id N)) m (.one (.lst true k (xs.take n)) u) d∧ ∀z,cn N z+d z≤give cn id N N z:=by
 have hlt:=(List.getElem?_eq_some_iff.1 hid).1
 have hne:id≠N:=by omega
 obtain ⟨h1,h2⟩:=Qqe cn hne
 rcases R.inv_arr hR with ⟨rfl,ad,rfl⟩|⟨b,k',off,cap,cur,e,rfl,hcap,hm,hsh,hor⟩
 ·exact ⟨z0,by cases ad<;>first|(simpa using R.nil)|(simpa using R.nilz),fun z=>by rw[h2];simp[z0]⟩
 ·obtain ⟨rfl,cells,e2,c,hb,hk,hl,hcells,hcn⟩:=hi.object hid hm
  rcases hor with ⟨_,h⟩|⟨rfl,hc⟩
  ·exact absurd rfl h
  ·rw[Q5g n] at hcells
   obtain ⟨c1,c2,h3,_,h5⟩:=R.split hcells
   have hsz:cells.size=cur:=by
    simp only[World.shape?,hb,Option.some.injEq,Prod.mk.injEq] at hsh
    exact hsh.2
   have h6:=h3.pureM Q1e (Qqu (by
    have:=hp
    rw[Qcy,List.all_eq_true] at this
    rw[Qcy,List.all_eq_true]
    exact fun x hx=>this x (List.mem_of_mem_take hx)))
   have h7:R w (frz X (give cn id N)) Q1e (.cells b 0 (Q1y (xs.take n))) c1:=
    h6.mono (Nat.le_refl _) (fun x _ hf=>⟨(Qrm hne x).2 hf,rfl⟩) (fun _ _=>rfl) (.inr rfl) (fun id x h=>by simp[Q1e] at h)
   have hlen:(xs.take n).length=n:=by rw[List.length_take];omega
   have hlen2:(xs.take n).length≤cap:=by omega
   have:=R.own (m:=m) hb (by rw[hsz];simpa using hc) (Q60 hk n) hlen2 h7 (fun x=>rfl)
   rw[hlen] at this
   rw[Nat.zero_mul]
   refine ⟨_,this,fun z=> ?_⟩
   rw[h2]
   show _≤cn N z+cn id z
   rw[hcn,h5]
   omega
theorem Q11t(hi:Inv X w ob m cn){id k N:Nat}{x:V}{u:Value}(hid:ob[id]? =some (some (k,[x])))(hp:pureL [x]=true)(hN:ob.length≤N)
  (hR:R w (frz X cn) m (.one (.ptr id 0 0) u) z0):
  ∃d,R w (frz X (give cn id N)) m (.one (.bx k x) u) d∧ ∀z,cn N z+d z≤give cn id N N z:=by
 have hlt:=(List.getElem?_eq_some_iff.1 hid).1
 have hne:id≠N:=by omega
 obtain ⟨h1,h2⟩:=Qqe cn hne
 generalize hz:z0=c0 at hR
 cases hR with
 |ptr hm=>
  obtain ⟨rfl,cells,e2,c,hb,hk,hl,hcells,hcn⟩:=hi.object hid hm
  have h6:=hcells.pureM Q1e (Qqu hp)
  have h7:R w (frz X (give cn id N)) Q1e (.cells _ 0 (Q1y [x])) c:=
   h6.mono (Nat.le_refl _) (fun x _ hf=>⟨(Qrm hne x).2 hf,rfl⟩) (fun _ _=>rfl) (.inr rfl) (fun id x h=>by simp[Q1e] at h)
  have:=R.bx (m:=m) hb Zbh hk h7 (fun x=>rfl)
  refine ⟨_,by simpa using this,fun z=> ?_⟩
  rw[h2]
  show _≤cn N z+cn id z
  rw[hcn]
  omega
end
section
variable {X:Ctx} {w:World} {m:Mp}
mutual
theorem Qcs(n0:Nat): ∀(v:V) {ob:List Ob} {r:V} {ob2:List Ob},Q88 n0 ob v=some (r,ob2)→ ∀{cn:Nat→Cnt} {u:Value} {N:Nat},Inv X w ob m cn→ob.length≤N→
  R w (frz X cn) m (.one v u) z0→
  ∃cn2 d,Inv X w ob2 m cn2∧Ext X w m cn w m cn2∧R w (frz X cn2) m (.one r u) d∧(∀z,cn N z+d z≤cn2 N z)∧ob2.length=ob.length:=by
 intro v ob r ob2 h cn u N hi hN hR
 have idle:(r,ob2)=(v,ob)→ ∃cn2 d,Inv X w ob2 m cn2∧Ext X w m cn w m cn2∧R w (frz X cn2) m (.one r u) d∧(∀z,cn N z+d z≤cn2 N z)∧ob2.length=ob.length:=by
  intro e
  cases e
  exact ⟨cn,z0,hi,⟨Nat.le_refl _,fun _ _ hf=>⟨hf,rfl⟩,fun _ _ h=>⟨h,rfl⟩⟩,hR,fun z=>by simp[z0],rfl⟩
 cases v with
 |arr id o n=>
  simp only[Q88] at h
  split at h
  ·cases h;exact idle rfl
  ·split at h
   ·rename_i ho
    subst ho
    split at h
    ·rename_i k xs hid
     split at h
     ·rename_i hc
      cases h
      have hlt:=(List.getElem?_eq_some_iff.1 hid).1
      obtain ⟨d,h1,h2⟩:=Qw9 hi hid hc.1 hc.2 hN hR
      exact ⟨give cn id N,d,hi.give hN hlt,Ext.give Zb,h1,h2,by simp⟩
     ·cases h
    ·cases h
   ·cases h
 |ptr id i j=>
  simp only[Q88] at h
  split at h
  ·cases h;exact idle rfl
  ·split at h
   ·rename_i ho
    obtain ⟨rfl,rfl⟩:=ho
    split at h
    ·rename_i k x hid
     split at h
     ·rename_i hc
      cases h
      have hlt:=(List.getElem?_eq_some_iff.1 hid).1
      obtain ⟨d,h1,h2⟩:=Q11t hi hid hc hN hR
      exact ⟨give cn id N,d,hi.give hN hlt,Ext.give Zb,h1,h2,by simp⟩
     ·cases h
    ·cases h
   ·cases h
 |agg xs=>
  simp only[Q88] at h
  split at h
  ·rename_i ys ob' hl
   cases h
   obtain ⟨us,rfl,hR2⟩:=R.inv_agg hR
   obtain ⟨cn2,d,h1,h2,h3,h4,h5⟩:=takeL_ok n0 xs hl hi hN hR2
   exact ⟨cn2,d,h1,h2,.agg h3,h4,h5⟩
  ·cases h
 |tup xs=>
  simp only[Q88] at h
  split at h
  ·rename_i ys ob' hl
   cases h
   obtain ⟨us,rfl,hR2⟩:=R.inv_tup hR
   obtain ⟨cn2,d,h1,h2,h3,h4,h5⟩:=takeL_ok n0 xs hl hi hN hR2
   exact ⟨cn2,d,h1,h2,.tup h3,h4,h5⟩
  ·cases h
 |clo f xs ys=>
  simp only[Q88] at h
  split at h
  ·cases h;exact idle rfl
  ·cases h
 |ifc t x=>
  simp only[Q88] at h
  split at h
  ·cases h;exact idle rfl
  ·cases h
 |_=>simp only[Q88] at h;cases h;exact idle rfl
theorem takeL_ok(n0:Nat): ∀(xs:List V) {ob:List Ob} {rs:List V} {ob2:List Ob},takeL n0 ob xs=some (rs,ob2)→ ∀{cn:Nat→Cnt} {us:List Value} {N:Nat},Inv X w ob m cn→ob.length≤N→
  R w (frz X cn) m (.list xs us) z0→
  ∃cn2 d,Inv X w ob2 m cn2∧Ext X w m cn w m cn2∧R w (frz X cn2) m (.list rs us) d∧(∀z,cn N z+d z≤cn2 N z)∧ob2.length=ob.length:=by
 intro xs ob rs ob2 h cn us N hi hN hR
 cases xs with
 |nil=>
  simp only[takeL] at h
  cases h
  cases hR
  exact ⟨cn,z0,hi,⟨Nat.le_refl _,fun _ _ hf=>⟨hf,rfl⟩,fun _ _ h=>⟨h,rfl⟩⟩,.lnil,fun z=>by simp[z0],rfl⟩
 |cons x xs=>
  simp only[takeL] at h
  split at h
  ·rename_i y ob1 h1
   split at h
   ·rename_i ys ob2' h2
    cases h
    generalize hz:z0=c at hR
    cases hR with
    | @lcons _ _ _ u us c1 c2 _ hx hxs he=>
     subst hz
     have hx:=hx.zero fun z=>by have:=he z;simp[z0] at this;omega
     have hxs:=hxs.zero fun z=>by have:=he z;simp[z0] at this;omega
     obtain ⟨cn1,d1,a1,a2,a3,a4,a5⟩:=Qcs n0 x h1 hi hN hx
     obtain ⟨cn2,d2,b1,b2,b3,b4,b5⟩:=takeL_ok n0 xs h2 (N:=N) a1 Zb (a2.Rl hxs)
     refine ⟨cn2,fun z=>d1 z+d2 z,b1,⟨Nat.le_refl _,fun b hb hf=>⟨(b2.fr b hb (a2.fr b hb hf).1).1,rfl⟩,fun id x h=>⟨h,rfl⟩⟩,.lcons ?_ b3 (fun _=>rfl),fun z=> ?_,by omega⟩
     ·exact a3.mono (Nat.le_refl _) b2.fr (fun _ _=>rfl) trivial b2.mp
     ·have:=a4 z;have:=b4 z;show _+(d1 z+d2 z)≤_;omega
   ·cases h
  ·cases h
end
end
end Go.Ev
namespace Go.Ev
open Go
mutual
def V.lim(n:Nat):V→Bool
 | .ptr id _ _=>decide (id<n)
 | .arr id _ _=>decide (id<n)
 | .agg xs=>limL n xs
 | .tup xs=>limL n xs
 | .clo _ xs ys=>limL n xs&&limL n ys
 | .ifc _ x=>x.lim n
 |_=>true
def limL(n:Nat):List V→Bool
 |[]=>true
 |x::xs=>x.lim n&&limL n xs
end
theorem Qd7(n:Nat)(xs:List V):limL n xs=xs.all (V.lim n):=by
 induction xs with
 |nil=>rfl
 |cons x xs ih=>simp[limL,ih]
theorem Qov(n:Nat)(xs ys:List V):limL n (xs++ys)=(limL n xs&&limL n ys):=by simp[Qd7]
theorem Qtw{n:Nat}{xs:List V}(h:limL n xs=true):limL n (Q1y xs)=true:=by
 induction xs with
 |nil=>rfl
 |cons x xs ih=>
  simp only[limL,Bool.and_eq_true] at h
  rw[flat_cons,Qov,ih h.2,Bool.and_true]
  cases x<;>simp_all[V.cells,limL,V.lim]
def Qy9(n:Nat):Ob→Bool
 |none=>true
 |some (_,xs)=>limL n xs
section
variable {w:World} {fr:Nat→Prop} {m:Mp}
theorem R.limM{n:Nat}{m':Mp}(hm: ∀id,id<n→m' id=m id){j:J}{c:Cnt}(h:R w fr m j c):
  (match j with| .one x _=>x.lim n=true| .cells _ _ xs=>limL n xs=true| .list xs _=>limL n xs=true)→R w fr m' j c:=by
 induction h with
 |junk=>intro _;exact .junk
 |bool=>intro _;exact .bool _
 |int=>intro _;exact .int _ _
 |str=>intro _;exact .str _
 |raw u h=>intro _;exact .raw u h
 |agg _ ih=>intro hp;exact .agg (ih hm (by simpa[V.lim] using hp))
 |tup _ ih=>intro hp;exact .tup (ih hm (by simpa[V.lim] using hp))
 |nil=>intro _;exact .nil
 |nilz=>intro _;exact .nilz
 |frz hl hb hk hn h _=>intro _;exact .frz hl hb hk hn h
 |own hb hs hk hn h hc _=>intro _;exact .own hb hs hk hn h hc
 |bx hb hs hk h hc _=>intro _;exact .bx hb hs hk h hc
 |fp hl hb h _=>intro _;exact .fp hl hb h
 |fmap hl hb he h=>intro _;exact .fmap hl hb he h
 |ptr h=>intro hp;simp only[V.lim,decide_eq_true_eq] at hp;exact .ptr Z8y
 |arr h h1 h2 h3=>intro hp;simp only[V.lim,decide_eq_true_eq] at hp;exact .arr Z8y h1 h2 h3
 |arrz h h1 h2=>intro hp;simp only[V.lim,decide_eq_true_eq] at hp;exact .arrz Z8y h1 h2
 |arrn=>intro _;exact .arrn
 |clo h1 h2 he ih1 ih2=>
  intro hp
  simp only[V.lim,Bool.and_eq_true] at hp
  exact .clo (ih1 hm hp.1) (ih2 hm hp.2) he
 |ifc h ih=>intro hp;exact .ifc (ih hm (by simpa[V.lim] using hp))
 |cnil=>intro _;exact .cnil
 |ccons hc h1c h1 h2 he ih1 ih2=>
  intro hp
  simp only[limL,Bool.and_eq_true] at hp
  exact .ccons hc h1c (ih1 hm hp.1) (ih2 hm hp.2) he
 |lnil=>intro _;exact .lnil
 |lcons h1 h2 he ih1 ih2=>
  intro hp
  simp only[limL,Bool.and_eq_true] at hp
  exact .lcons (ih1 hm hp.1) (ih2 hm hp.2) he
end
section
variable {X:Ctx} {w:World} {ob:List Ob} {m:Mp} {cn:Nat→Cnt}
theorem Inv.trim(hi:Inv X w ob m cn){n:Nat}(hn0:X.n0≤n)(hn:n≤ob.length)(hl: ∀o∈ob.take n,Qy9 n o=true):
  Inv X w (ob.take n) (fun id=>if id<n then m id else none) cn:=by
 refine ⟨hi.le,hi.kept,hi.os,hi.tape,hi.output,fun i o ho=> ?_,hi.dis,hi.one,hi.new,fun i h=> ?_,fun i h=> ?_,fun i x h=> ?_,by simp;omega,hi.shp⟩
 ·have hlt:i<n:=by have:=(List.getElem?_eq_some_iff.1 ho).1;simp at this;omega
  have ho':ob[i]? =some o:=by rw[List.getElem?_take_of_lt hlt] at ho;exact ho
  have hlo:=hl o (List.mem_of_getElem? ho)
  cases o with
  |none=>trivial
  |some p=>
   obtain ⟨k,xs⟩:=p
   rcases hi.obj i _ ho' with ⟨h1,h2,h3⟩|⟨b,cur,e,c,h1,h2,h3,h4,h5,h6⟩
   ·exact .inl ⟨h1,by simp only[hlt,if_true];exact h2,h3⟩
   ·exact .inr ⟨b,cur,e,c,by simp only[hlt,if_true];exact h1,h2,h3,h4,R.limM (n:=n) (fun id hid=>by simp[hid]) h5 (Qtw hlo),h6⟩
 ·simp at h
  exact if_neg Zb
 ·rw[if_pos Zb];exact hi.pas i h
 ·split at h
  ·exact hi.mlt i x h
  ·cases h
end
def Wk(x y:V):Prop:= ∀(w:World) (fr:Nat→Prop) (m:Mp) (u:Value) (d:Cnt),R w fr m (.one x u) d→R w fr m (.one y u) d
theorem Wk.refl(x:V):Wk x x:=fun _ _ _ _ _ h=>h
def Qj6(T:Nat→Option TI)(fn:Func)(n0:Nat)(r:V)(ob':List Ob)(e:Exit)(st:St):Prop:=
 (e= .ret∨e= .normal)∧ ∃xs r2 ob2,Qxy T st fn.results.toList=some xs∧Q88 n0 st.ob (Qv0 xs)=some (r2,ob2)∧Wk r2 r∧n0≤ob2.length∧ob2.take n0=ob'∧(ob'.all (Qy9 n0))=true∧r2.lim n0=true
theorem Qge{w:World}{fr:Nat→Prop}{m:Mp}(n:Nat):R w fr m (.list (List.replicate n (.tup [])) (List.replicate n undef)) z0:=by
 induction n with
 |zero=>exact .lnil
 |succ n ih=>exact .lcons (.tup .lnil) ih (fun _=>rfl)
theorem Q15i{P:Program}{T:Nat→Option TI}(hT:TOK P T){f:FuncId}{fn:Func}{c:Code}(hf:P.funcs[f]? =some fn)(hb:fn.body=some c){args:List V}{ob ob':List Ob}{r:V}
  (h: ∀X:Ctx,X.n0=ob.length→W P X c ⟨args++List.replicate (fn.ntmps-args.length) (.tup []),ob⟩ (Qj6 T fn ob.length r ob')):Ct P f args ob r ob':=by
 intro w fr m cn us hfr hi hR
 have hlen:=hR.len
 refine calls_of_wp hf hb ?_
 refine Code.wp_mono ?_ (h _ rfl w m cn ⟨us.toArray++Array.replicate (fn.ntmps-us.toArray.size) undef,[]⟩ hi ?_ rfl)
 ·rintro e a' w' ⟨st,m',cn',⟨he,xs,r2,ob2,h1,h2,h3,h4,h5,h6,h7⟩,hi',hs',hd'⟩
  obtain ⟨u,hu,hRu⟩:=Qji hT hi' hs' h1
  obtain ⟨cn2,d,a1,a2,a3,a4,a5⟩:=Qcs ob.length (Qv0 xs) h2 (N:=st.ob.length) hi' (Nat.le_refl _) hRu
  have htrim:=a1.trim (n:=ob.length) (Nat.le_refl _) h4 (fun o ho=>by rw[h5] at ho;exact List.all_eq_true.1 h6 o ho)
  rw[h5] at htrim
  have hfin:(fun (e:Ending) (w':World)=> ∃u m' cn' d,e= .returned u∧Inv ⟨w,fr,fun b=> ∃id,0<cn id b,m,ob.length⟩ w' ob' m' cn'∧
    R w' (frz ⟨w,fr,fun b=> ∃id,0<cn id b,m,ob.length⟩ cn') m' (.one r u) d∧ob'.length=ob.length∧ ∃n,ob.length≤n∧ ∀z,d z≤cn' n z) (.returned u) w':=
   ⟨u,_,cn2,d,rfl,htrim,h3 _ _ _ _ _ (R.limM (n:=ob.length) (fun id hid=>by simp[hid]) a3 h7),by rw[←h5,List.length_take];omega,st.ob.length,by omega,fun z=>by have:=a4 z;omega⟩
  rcases he with rfl|rfl
  ·exact ⟨hd',u,hu,hfin⟩
  ·exact ⟨hd',u,hu,hfin⟩
 ·have:=R.ljoin hR (Qge (w:=w) (fr:=frz ⟨w,fr,fun b=> ∃id,0<cn id b,m,ob.length⟩ cn) (m:=m) (fn.ntmps-args.length))
  have h2:=this.zero fun z=>by simp[z0]
  simp only[Sl]
  rw[show (us.toArray++Array.replicate (fn.ntmps-us.toArray.size) undef).toList=us++List.replicate (fn.ntmps-args.length) undef from by simp[hlen]]
  exact h2
end Go.Ev
namespace Go.Ev
open Go
mutual
def V.mapId(g:Nat→Option Nat):V→V
 | .ptr id i j=>match g id with|some q=> .ptr q i j|none=> .junk
 | .arr id o n=>match g id with|some q=> .arr q o n|none=> .junk
 | .agg xs=> .agg (mapL g xs)
 | .tup xs=> .tup (mapL g xs)
 | .clo f xs ys=> .clo f (mapL g xs) (mapL g ys)
 | .ifc t x=> .ifc t (x.mapId g)
 |x=>x
def mapL(g:Nat→Option Nat):List V→List V
 |[]=>[]
 |x::xs=>x.mapId g::mapL g xs
end
theorem Q9p(g:Nat→Option Nat)(xs:List V):mapL g xs=xs.map (V.mapId g):=by
 induction xs with
 |nil=>rfl
 |cons x xs ih=>simp[mapL,ih]
theorem Qot(g:Nat→Option Nat)(xs ys:List V):mapL g (xs++ys)=mapL g xs++mapL g ys:=by simp[Q9p]
theorem Qou(g:Nat→Option Nat)(x:V):(x.mapId g).cells=mapL g x.cells:=by
 cases x with
 |ptr id i j=>simp only[V.mapId,V.cells,mapL];cases g id<;>rfl
 |arr id o n=>simp only[V.mapId,V.cells,mapL];cases g id<;>rfl
 |_=>rfl
theorem Qmx(g:Nat→Option Nat)(xs:List V):Q1y (mapL g xs)=mapL g (Q1y xs):=by
 induction xs with
 |nil=>rfl
 |cons x xs ih=>rw[mapL,flat_cons,flat_cons,ih,Qot,Qou]
theorem Qql{k:Nat}{xs:List V}(h:uni k xs)(g:Nat→Option Nat):uni k (mapL g xs):=by
 intro x hx
 rw[Q9p] at hx
 obtain ⟨y,hy,rfl⟩:=List.mem_map.1 hx
 rw[Qou,Q9p,List.length_map]
 exact h y hy
def Qjn(g:Nat→Option Nat):Ob→Ob
 |none=>none
 |some (k,xs)=>some (k,mapL g xs)
def J.mapId(g:Nat→Option Nat):J→J
 | .one x u=> .one (x.mapId g) u
 | .cells b o xs=> .cells b o (mapL g xs)
 | .list xs us=> .list (mapL g xs) us
section
variable {w:World} {fr:Nat→Prop} {m:Mp}
theorem R.mapId{g:Nat→Option Nat}{m':Mp}(hm: ∀id q,g id=some q→m' q=m id){j:J}{c:Cnt}(h:R w fr m j c):R w fr m' (j.mapId g) c:=by
 induction h with
 |junk=>exact .junk
 |bool=>exact .bool _
 |int=>exact .int _ _
 |str=>exact .str _
 |raw u h=>exact .raw u h
 |agg _ ih=>exact .agg (ih hm)
 |tup _ ih=>exact .tup (ih hm)
 |nil=>exact .nil
 |nilz=>exact .nilz
 |frz hl hb hk hn h _=>exact .frz hl hb hk hn h
 |own hb hs hk hn h hc _=>exact .own hb hs hk hn h hc
 |bx hb hs hk h hc _=>exact .bx hb hs hk h hc
 |fp hl hb h _=>exact .fp hl hb h
 |fmap hl hb he h=>exact .fmap hl hb he h
 | @ptr m id i j b k h=>
  show R w fr m' (.one (V.mapId g (.ptr id i j)) _) _
  simp only[V.mapId]
  split
  ·rename_i q hq;exact .ptr Zc6
  ·exact .junk
 | @arr m id o n b k cap cur e h h1 h2 h3=>
  show R w fr m' (.one (V.mapId g (.arr id o n)) _) _
  simp only[V.mapId]
  split
  ·rename_i q hq;exact .arr Zc6 h1 h2 h3
  ·exact .junk
 | @arrz m id o b k cap cur e off h h1 h2=>
  show R w fr m' (.one (V.mapId g (.arr id o 0)) _) _
  simp only[V.mapId]
  split
  ·rename_i q hq;exact .arrz Zc6 h1 h2
  ·exact .junk
 | @arrn m id o=>
  show R w fr m' (.one (V.mapId g (.arr id o 0)) _) _
  simp only[V.mapId]
  split
  ·exact .arrn
  ·exact .junk
 |clo h1 h2 he ih1 ih2=>exact .clo (ih1 hm) (ih2 hm) he
 |ifc h ih=>exact .ifc (ih hm)
 |cnil=>exact .cnil
 |ccons hc h1c h1 h2 he ih1 ih2=>exact .ccons hc h1c (ih1 hm) (ih2 hm) he
 |lnil=>exact .lnil
 |lcons h1 h2 he ih1 ih2=>exact .lcons (ih1 hm) (ih2 hm) he
end
mutual
def Q32(ob:List Ob):V→V×List Ob
 | .lst true k xs=>(.arr ob.length 0 xs.length,ob++[some (k,xs)])
 | .bx k x=>(.ptr ob.length 0 0,ob++[some (k,[x])])
 | .agg xs=>let (ys,ob'):=nameL ob xs;(.agg ys,ob')
 | .tup xs=>let (ys,ob'):=nameL ob xs;(.tup ys,ob')
 | .clo f xs ys=>(if freeL xs&&freeL ys then .clo f xs ys else .junk,ob)
 | .ifc t x=>(if x.free then .ifc t x else .junk,ob)
 |x=>(x,ob)
def nameL(ob:List Ob):List V→List V×List Ob
 |[]=>([],ob)
 |x::xs=>let (y,ob1):=Q32 ob x;let (ys,ob2):=nameL ob1 xs;(y::ys,ob2)
end
section
variable {X:Ctx} {w:World} {ob:List Ob} {m:Mp} {cn:Nat→Cnt}
theorem Inv.name(hi:Inv X w ob m cn){N k b:Nat}{xs:List V}{cur:Array Value}{e:TypeId}{c d:Cnt}(hN:ob.length<N)(hb:w.heap[b]? =some (.cells cur e (0,0)))(hk:uni k xs)
  (hl:xs.length*k≤cur.size) (hR:R w (frz X cn) Q1e (.cells b 0 (Q1y xs)) c) (hc: ∀x,d x=c x+if x=b then 1 else 0) (hd: ∀x,d x≤cn N x):
  Inv X w (ob++[some (k,xs)]) (upd m ob.length (some (b,k))) (upd (upd cn N (fun x=>cn N x-d x)) ob.length d)∧
   Ext X w m cn w (upd m ob.length (some (b,k))) (upd (upd cn N (fun x=>cn N x-d x)) ob.length d):=by
 have hNe:ob.length≠N:=by omega
 have e1:(upd (upd cn N (fun x=>cn N x-d x)) ob.length d) ob.length=d:=Q1h _ _ _
 have e2:(upd (upd cn N (fun x=>cn N x-d x)) ob.length d) N=fun x=>cn N x-d x:=by rw[Qu _ _ (Ne.symm hNe),Q1h]
 have e3: ∀i,i≠ob.length→i≠N→(upd (upd cn N (fun x=>cn N x-d x)) ob.length d) i=cn i:=fun i h1 h2=>by rw[Qu _ _ h1,Qu _ _ h2]
 generalize hcn:upd (upd cn N (fun x=>cn N x-d x)) ob.length d=cn' at*
 have hpos: ∀i x,0<cn' i x→(i=ob.length∧0<d x∧0<cn N x)∨(i≠ob.length∧0<cn i x∧(i=N→d x=0)):=by
  intro i x h
  by_cases h1:i=ob.length
  ·subst h1;rw[e1] at h;exact .inl ⟨rfl,h,by have:=hd x;omega⟩
  ·by_cases h2:i=N
   ·subst h2
    rw[e2] at h
    have h:0<cn i x-d x:=h
    have:=hi.one i x
    exact .inr ⟨h1,by omega,fun _=>by omega⟩
   ·rw[e3 i h1 h2] at h;exact .inr ⟨h1,h,fun h3=>absurd h3 h2⟩
 have hext:Ext X w m cn w (upd m ob.length (some (b,k))) cn':=by
  refine ⟨Nat.le_refl _,fun x hx hf=>⟨⟨hf.1,fun i=> ?_⟩,rfl⟩,fun id x h=>⟨?_,rfl⟩⟩
  ·rcases Nat.eq_zero_or_pos (cn' i x) with h|h
   ·exact h
   ·rcases hpos i x h with ⟨_,_,h3⟩|⟨_,h3,_⟩
    ·have:=hf.2 N;omega
    ·have:=hf.2 i;omega
  ·have:=hi.lt_of_map h
   rw[Qu _ _ Zb];exact h
 have hdb:0<d b:=by rw[hc];simp
 refine ⟨⟨hi.le,hi.kept,hi.os,hi.tape,hi.output,fun i o ho=> ?_,fun x i j h1 h2=> ?_,fun i x=> ?_,fun i x h=> ?_,fun i h=> ?_,fun i h=> ?_,fun i x h=> ?_,by simp;have:=hi.n0;omega,hi.shp⟩,hext⟩
 ·by_cases hid:i<ob.length
  ·rw[List.getElem?_append_left hid] at ho
   exact (hi.obj i o ho).ext hext (e3 i Zb Zb) (Qu _ _ Zb) (fun _ _=>rfl)
  ·have:i=ob.length:=by
    have:=(List.getElem?_eq_some_iff.1 ho).1
    simp at this;omega
   subst this
   simp at ho
   subst ho
   refine .inr ⟨b,cur,e,c,Q1h _ _ _,hb,hk,hl,?_,fun x=>by rw[e1];exact hc x⟩
   exact hR.mono (Nat.le_refl _) hext.fr (fun _ _=>rfl) (.inr rfl) (fun id x h=>by simp[Q1e] at h)
 ·rcases hpos i x h1 with ⟨rfl,a1,a2⟩|⟨a0,a1,a2⟩<;>rcases hpos j x h2 with ⟨rfl,b1,b2⟩|⟨b0,b1,b2⟩
  ·rfl
  ·have:=hi.dis x N j a2 b1;have:=b2 this.symm;omega
  ·have:=hi.dis x N i b2 a1;have:=a2 this.symm;omega
  ·exact hi.dis x i j a1 b1
 ·by_cases h1:i=ob.length
  ·subst h1;rw[e1];have:=hd x;have:=hi.one N x;omega
  ·by_cases h2:i=N
   ·subst h2;rw[e2];have:=hi.one i x;show cn i x-d x≤1;omega
   ·rw[e3 i h1 h2];exact hi.one i x
 ·rcases hpos i x h with ⟨_,_,h3⟩|⟨_,h3,_⟩
  ·exact hi.new N x h3
  ·exact hi.new i x h3
 ·simp at h
  rw[Qu _ _ Zb]
  exact hi.fresh i Zb
 ·rw[Qu _ _ (by have:=hi.n0;omega)];exact hi.pas i h
 ·by_cases hid:i=ob.length
  ·subst hid
   rw[Q1h] at h
   cases h
   exact (Array.getElem?_eq_some_iff.1 hb).1
  ·rw[Qu _ _ hid] at h;exact hi.mlt i x h
theorem Inv.nameNil(hi:Inv X w ob m cn)(k:Nat):Inv X w (ob++[some (k,[])]) m (upd cn ob.length (fun _=>0))∧Ext X w m cn w m (upd cn ob.length (fun _=>0)):=by
 have hle: ∀i x,upd cn ob.length (fun _=>0) i x≤cn i x:=by
  intro i x
  by_cases h:i=ob.length
  ·subst h;rw[Q1h];exact Nat.zero_le _
  ·rw[Qu _ _ h];exact Nat.le_refl _
 have hext:Ext X w m cn w m (upd cn ob.length (fun _=>0)):=
  ⟨Nat.le_refl _,fun x _ hf=>⟨⟨hf.1,fun i=>by have:=hle i x;have:=hf.2 i;omega⟩,rfl⟩,fun _ _ h=>⟨h,rfl⟩⟩
 refine ⟨⟨hi.le,hi.kept,hi.os,hi.tape,hi.output,fun i o ho=> ?_,fun x i j h1 h2=>hi.dis x i j (Nat.lt_of_lt_of_le h1 (hle i x)) (Nat.lt_of_lt_of_le h2 (hle j x)),fun i x=>Nat.le_trans (hle i x) (hi.one i x),
  fun i x h=>hi.new i x (Nat.lt_of_lt_of_le h (hle i x)),fun i h=>hi.fresh i (by simp at h;omega),hi.pas,hi.mlt,by simp;have:=hi.n0;omega,hi.shp⟩,hext⟩
 by_cases hid:i<ob.length
 ·rw[List.getElem?_append_left hid] at ho
  exact (hi.obj i o ho).ext hext (Qu _ _ Zb) rfl (fun _ _=>rfl)
 ·have:i=ob.length:=by
   have:=(List.getElem?_eq_some_iff.1 ho).1
   simp at this;omega
  subst this
  simp at ho
  subst ho
  exact .inl ⟨rfl,hi.fresh _ (Nat.le_refl _),fun x=>by rw[Q1h]⟩
mutual
theorem Qia: ∀(ob:List Ob) (v:V),ob.length≤(Q32 ob v).2.length
 |ob,.lst true k xs=>by simp[Q32]
 |ob,.lst false k xs=>Nat.le_refl _
 |ob,.bx k x=>by simp[Q32]
 |ob,.agg xs=>nameL_len ob xs
 |ob,.tup xs=>nameL_len ob xs
 |ob,.clo _ _ _=>Nat.le_refl _
 |ob,.ifc _ _=>Nat.le_refl _
 |ob,.junk=>Nat.le_refl _
 |ob,.bool _=>Nat.le_refl _
 |ob,.int _ _=>Nat.le_refl _
 |ob,.str _=>Nat.le_refl _
 |ob,.raw _=>Nat.le_refl _
 |ob,.fp _=>Nat.le_refl _
 |ob,.fmap _=>Nat.le_refl _
 |ob,.ptr _ _ _=>Nat.le_refl _
 |ob,.arr _ _ _=>Nat.le_refl _
theorem nameL_len: ∀(ob:List Ob) (xs:List V),ob.length≤(nameL ob xs).2.length
 |ob,[]=>Nat.le_refl _
 |ob,x::xs=>Nat.le_trans (Qia ob x) (nameL_len (Q32 ob x).2 xs)
end
theorem Ext.trans{w1 w2 w3:World}{m1 m2 m3:Mp}{c1 c2 c3:Nat→Cnt}(h1:Ext X w1 m1 c1 w2 m2 c2)(h2:Ext X w2 m2 c2 w3 m3 c3):Ext X w1 m1 c1 w3 m3 c3:=
 ⟨Nat.le_trans h1.sz h2.sz,fun b hb hf=>⟨(h2.fr b (Nat.lt_of_lt_of_le hb h1.sz) (h1.fr b hb hf).1).1,(h2.fr b (Nat.lt_of_lt_of_le hb h1.sz) (h1.fr b hb hf).1).2.trans (h1.fr b hb hf).2⟩,
  fun id x h=>⟨(h2.mp id x (h1.mp id x h).1).1,(h2.mp id x (h1.mp id x h).1).2.trans (h1.mp id x h).2⟩⟩
theorem Ext.refl:Ext X w m cn w m cn:=⟨Nat.le_refl _,fun _ _ hf=>⟨hf,rfl⟩,fun _ _ h=>⟨h,rfl⟩⟩
mutual
theorem Ql0: ∀(v:V) {ob:List Ob} {m:Mp} {cn:Nat→Cnt} {u:Value} {d:Cnt} {N:Nat},Inv X w ob m cn→(Q32 ob v).2.length≤N→R w (frz X cn) m (.one v u) d→(∀z,d z≤cn N z)→
  ∃m2 cn2,Inv X w (Q32 ob v).2 m2 cn2∧Ext X w m cn w m2 cn2∧R w (frz X cn2) m2 (.one (Q32 ob v).1 u) z0∧(∀z,cn N z≤cn2 N z+d z)∧ob.length≤(Q32 ob v).2.length:=by
 intro v ob m cn u d N hi hN hR hd
 have idle:Q32 ob v=(v,ob)→(∀z,d z=0)→ ∃m2 cn2,Inv X w (Q32 ob v).2 m2 cn2∧Ext X w m cn w m2 cn2∧R w (frz X cn2) m2 (.one (Q32 ob v).1 u) z0∧(∀z,cn N z≤cn2 N z+d z)∧ob.length≤(Q32 ob v).2.length:=by
  intro e h0
  rw[e]
  exact ⟨m,cn,hi,.refl,hR.zero h0,fun z=>Nat.le_add_right _ _,Nat.le_refl _⟩
 cases v with
 |lst o k xs=>
  cases o with
  |false=>exact idle rfl (hR.free0 rfl)
  |true=>
   simp only[Q32] at hN⊢
   cases hR with
   |nil|nilz=>
    simp at hN
    have:=hi.nameNil k
    exact ⟨m,_,this.1,this.2,.arrn,fun z=>by rw[Qu _ _ Zb];exact Nat.le_add_right _ _,by simp⟩
   | @own _ _ _ b cap cur e c _ hb hs hk hn h hc=>
    simp at hN
    have:=hi.name (N:=N) (k:=k) (xs:=xs) Zb hb hk (Nat.le_trans (Nat.mul_le_mul_right k hn) hs) h hc hd
    refine ⟨_,_,this.1,this.2,?_,fun z=> ?_,by simp⟩
    ·have h3:=R.arr (w:=w) (fr:=frz X (upd (upd cn N (fun x=>cn N x-d x)) ob.length d)) (Q1h m ob.length (some (b,k))) (o:=0) (show w.shape? b=some (e,cur.size) from by simp only[World.shape?,hb]) hn (by rw[Nat.zero_add];exact hs)
     rw[Nat.zero_mul] at h3
     exact h3
    ·rw[Qu _ _ Zb,Q1h]
     have:=hd z
     show _≤cn N z-d z+d z
     omega
 |bx k x=>
  simp only[Q32] at hN⊢
  cases hR with
  | @bx _ _ _ b cur e c _ hb hs hk h hc=>
   simp at hN
   have:=hi.name (N:=N) (k:=k) (xs:=[x]) Zb hb hk hs h hc hd
   refine ⟨_,_,this.1,this.2,?_,fun z=> ?_,by simp⟩
   ·have h3:=R.ptr (w:=w) (fr:=frz X (upd (upd cn N (fun x=>cn N x-d x)) ob.length d)) (i:=0) (j:=0) (Q1h m ob.length (some (b,k)))
    rw[Nat.zero_mul] at h3
    exact h3
   ·rw[Qu _ _ Zb,Q1h]
    have:=hd z
    show _≤cn N z-d z+d z
    omega
 |agg xs=>
  simp only[Q32] at hN⊢
  obtain ⟨us,rfl,hR2⟩:=R.inv_agg hR
  obtain ⟨m2,cn2,h1,h2,h3,h4,h5⟩:=nameL_ok xs hi hN hR2 hd
  exact ⟨m2,cn2,h1,h2,.agg h3,h4,h5⟩
 |tup xs=>
  simp only[Q32] at hN⊢
  obtain ⟨us,rfl,hR2⟩:=R.inv_tup hR
  obtain ⟨m2,cn2,h1,h2,h3,h4,h5⟩:=nameL_ok xs hi hN hR2 hd
  exact ⟨m2,cn2,h1,h2,.tup h3,h4,h5⟩
 |clo f xs ys=>
  by_cases hf:(freeL xs&&freeL ys)=true
  ·exact idle (by simp only[Q32,hf,if_true]) (hR.free0 Z9k)
  ·simp only[Q32,if_neg hf]
   exact ⟨m,cn,hi,.refl,.junk,fun z=>Nat.le_add_right _ _,Nat.le_refl _⟩
 |ifc t x=>
  by_cases hf:x.free=true
  ·exact idle (by simp only[Q32,hf,if_true]) (hR.free0 Z9k)
  ·simp only[Q32,if_neg hf]
   exact ⟨m,cn,hi,.refl,.junk,fun z=>Nat.le_add_right _ _,Nat.le_refl _⟩
 |_=>exact idle rfl (hR.free0 rfl)
theorem nameL_ok: ∀(xs:List V) {ob:List Ob} {m:Mp} {cn:Nat→Cnt} {us:List Value} {d:Cnt} {N:Nat},Inv X w ob m cn→(nameL ob xs).2.length≤N→R w (frz X cn) m (.list xs us) d→(∀z,d z≤cn N z)→
  ∃m2 cn2,Inv X w (nameL ob xs).2 m2 cn2∧Ext X w m cn w m2 cn2∧R w (frz X cn2) m2 (.list (nameL ob xs).1 us) z0∧(∀z,cn N z≤cn2 N z+d z)∧ob.length≤(nameL ob xs).2.length:=by
 intro xs ob m cn us d N hi hN hR hd
 cases xs with
 |nil=>
  cases hR
  exact ⟨m,cn,hi,.refl,.lnil,fun z=>Nat.le_add_right _ _,Nat.le_refl _⟩
 |cons x xs=>
  simp only[nameL] at hN⊢
  cases hR with
  | @lcons _ _ _ u us c1 c2 _ hx hxs he=>
   have hlen:=(nameL_len (Q32 ob x).2 xs)
   obtain ⟨m1,cn1,a1,a2,a3,a4,a5⟩:=Ql0 x hi (N:=N) Zb hx (fun z=>by have:=hd z;rw[he] at this;omega)
   have hxs2:R w (frz X cn1) m1 (.list xs us) c2:=hxs.mono (Nat.le_refl _) a2.fr (fun _ _=>rfl) trivial a2.mp
   obtain ⟨m2,cn2,b1,b2,b3,b4,b5⟩:=nameL_ok xs a1 (N:=N) hN hxs2 (fun z=>by have:=hd z;have:=a4 z;rw[he] at*;omega)
   exact ⟨m2,cn2,b1,a2.trans b2,.lcons (b2.R a3) b3 (fun _=>rfl),fun z=>by have:=a4 z;have:=b4 z;rw[he];omega,by omega⟩
end
end
end Go.Ev
namespace Go.Ev
open Go
def Q6 (P : Program) (f : FuncId) : Prop := ∃ fn, P.funcs[f]? = some fn ∧ fn.body.isNone = false ∧ (fn.name == "runtime.NumGoroutine") = false
theorem Q6r{P:Program}{f:FuncId}(h:Q6 P f)(args:Array Value)(w:World):(callFunc f args).run P w= .ok (.enter f args) w:=by
 obtain ⟨fn,h1,h2,h3⟩:=h
 simp only[callFunc,Sem.run_bind,run_program,Result.andThen_ok,h1,h3,h2,Bool.false_eq_true,if_false,Sem.run_pure]
def wb(ob:List Ob):List Nat→List Ob→List Ob
 |id::ps,o::os=>wb (ob.set id o) ps os
 |_,_=>ob
theorem Qi2: ∀(ps:List Nat) (os:List Ob) (ob:List Ob),(wb ob ps os).length=ob.length
 |[],_,_=>by simp[wb]
 |_::_,[],_=>by simp[wb]
 |id::ps,o::os,ob=>by simp[wb,Qi2 ps os]
theorem Qqk: ∀(ps:List Nat) (os:List Ob) (ob:List Ob) (i:Nat),i∉ps→(wb ob ps os)[i]? =ob[i]?
 |[],_,_,_,_=>by simp[wb]
 |_::_,[],_,_,_=>by simp[wb]
 |id::ps,o::os,ob,i,h=>by
  simp only[List.mem_cons,not_or] at h
  rw[wb,Qqk ps os _ i h.2,List.getElem?_set_ne (Ne.symm h.1)]
theorem Q15k: ∀(ps:List Nat) (os:List Ob) (ob:List Ob),ps.Nodup→ps.length=os.length→(∀id∈ps,id<ob.length)→ ∀(q:Nat) (id:Nat),ps[q]? =some id→(wb ob ps os)[id]? =os[q]?
 |[],_,_,_,_,_,q,id,h=>by simp at h
 |p::ps,[],_,_,h,_,_,_,_=>by simp at h
 |p::ps,o::os,ob,hn,hl,hlt,q,id,h=>by
  have hn':=List.nodup_cons.1 hn
  cases q with
  |zero=>
   simp at h
   subst h
   rw[wb,Qqk ps os _ p hn'.1,List.getElem?_set_self (hlt p Z3)]
   rfl
  |succ q=>
   have:=Q15k ps os (ob.set p o) hn'.2 Zbh (fun i hi=>by rw[List.length_set];exact hlt i (by simp[hi])) q id Z49
   rw[wb,this]
   rfl
theorem Qtr{ps:List Nat}(hn:ps.Nodup){i j a:Nat}(h1:ps[i]? =some a)(h2:ps[j]? =some a):i=j:=by
 obtain ⟨a1,a2⟩:=List.getElem?_eq_some_iff.1 h1
 obtain ⟨b1,b2⟩:=List.getElem?_eq_some_iff.1 h2
 have hp:=List.pairwise_iff_getElem.1 hn
 rcases Nat.lt_trichotomy i j with h|h|h
 ·exact absurd (a2.trans b2.symm) (hp i j a1 b1 h)
 ·exact h
 ·exact absurd (b2.trans a2.symm) (hp j i b1 a1 h)
def gIn(ps:List Nat)(id:Nat):Option Nat:=ps.idxOf? id
def Qcj(ps:List Nat)(q:Nat):Option Nat:=ps[q]?
theorem Qrn{ps:List Nat}{id q:Nat}(h:gIn ps id=some q):ps[q]? =some id:=by
 unfold gIn at h
 rw[List.idxOf?_eq_some_iff] at h
 obtain ⟨h1,h2,_⟩:=h
 rw[List.getElem?_eq_getElem h1]
 simpa using h2
section
variable {P:Program} {X:Ctx} {st:St} {Q:Exit→St→Prop} {ops:Array Oper} {rest:List Oper} {o:Oper}
def Qsv(ob:List Ob)(ps:List Nat):List Ob:=ps.map fun id=>Qjn (gIn ps) (ob.getD id none)
def Qiy(ps:List Nat)(cn:Nat→Cnt)(q:Nat):Cnt:=match ps[q]? with|some id=>cn id|none=>z0
theorem Q6y{ps:List Nat}{cn:Nat→Cnt}{q id:Nat}(h:ps[q]? =some id):Qiy ps cn q=cn id:=by simp only[Qiy,h]
theorem Q5n{ps:List Nat}{cn:Nat→Cnt}{q:Nat}(h:ps[q]? =none):Qiy ps cn q=z0:=by simp only[Qiy,h]
def Q8y(X:Ctx)(w:World)(m:Mp)(cn:Nat→Cnt)(ps:List Nat):Ctx:=
 ⟨w,fun b=>b<w.heap.size∧frz X cn b,fun b=> ∃id,0<(Qiy ps cn) id b,fun q=>(ps[q]?).bind m,ps.length⟩
theorem Qex{w:World}{m:Mp}{cn:Nat→Cnt}(hi:Inv X w st.ob m cn){ps:List Nat}(hn:ps.Nodup)(hlt: ∀id∈ps,id<st.ob.length):
  Inv (Q8y X w m cn ps) w (Qsv st.ob ps) (fun q=>(ps[q]?).bind m) (Qiy ps cn)∧
   (∀b,b<w.heap.size→frz X cn b→frz (Q8y X w m cn ps) (Qiy ps cn) b):=by
 have hfr: ∀b,b<w.heap.size→frz X cn b→frz (Q8y X w m cn ps) (Qiy ps cn) b:=by
  intro b hb hf
  refine ⟨.inl ⟨hb,hf⟩,fun q=> ?_⟩
  cases h:ps[q]? with
  |none=>rw[Q5n h]
  |some id=>rw[Q6y h];exact hf.2 id
 refine ⟨⟨Nat.le_refl _,fun _ _ _=>rfl,rfl,rfl,rfl,fun q o ho=> ?_,fun b i j h1 h2=> ?_,fun q b=> ?_,fun q b h=> ?_,fun q h=> ?_,fun _ _=>rfl,fun q x h=> ?_,by simp[Qsv,Q8y],fun _ _=>rfl⟩,hfr⟩
 ·simp only[Qsv,List.getElem?_map] at ho
  cases hq:ps[q]? with
  |none=>rw[hq] at ho;cases ho
  |some id=>
   rw[hq] at ho
   simp only[Option.map_some,Option.some.injEq] at ho
   have hid:=hlt id (List.mem_of_getElem? hq)
   have hob:st.ob[id]? =some (st.ob.getD id none):=by rw[List.getD_eq_getElem?_getD,List.getElem?_eq_getElem hid];rfl
   have:=hi.obj id _ hob
   cases hO:st.ob.getD id none with
   |none=>rw[hO] at ho;subst ho;trivial
   |some p=>
    obtain ⟨k,xs⟩:=p
    rw[hO] at ho this
    subst ho
    rcases this with ⟨h1,h2,h3⟩|⟨b,cur,e,c,h1,h2,h3,h4,h5,h6⟩
    ·exact .inl ⟨by rw[h1];rfl,by simp only[hq,Option.bind_some];exact h2,by rw[Q6y hq];exact h3⟩
    ·refine .inr ⟨b,cur,e,c,by simp only[hq,Option.bind_some];exact h1,h2,Qql h3 _,by rw[Q9p,List.length_map];exact h4,?_,by rw[Q6y hq];exact h6⟩
     have h7:R w (frz (Q8y X w m cn ps) (Qiy ps cn)) m (.cells b 0 (Q1y xs)) c:=
      h5.mono (Nat.le_refl _) (fun b hb hf=>⟨hfr b hb hf,rfl⟩) (fun _ _=>rfl) (.inr rfl) (fun _ _ h=>⟨h,rfl⟩)
     have h8:=R.mapId (g:=gIn ps) (m':=fun q=>(ps[q]?).bind m) (fun id q hg=>by rw[Qrn hg];rfl) h7
     rw[Qmx]
     exact h8
 ·cases hi':ps[i]? with
  |none=>rw[Q5n hi'] at h1;exact absurd h1 Z2z
  |some id=>
   cases hj':ps[j]? with
   |none=>rw[Q5n hj'] at h2;exact absurd h2 Z2z
   |some id'=>
    rw[Q6y hi'] at h1
    rw[Q6y hj'] at h2
    have:=hi.dis b id id' h1 h2
    subst this
    exact Qtr hn hi' hj'
 ·cases hq:ps[q]? with
  |none=>rw[Q5n hq];exact Nat.zero_le _
  |some id=>rw[Q6y hq];exact hi.one id b
 ·refine ⟨?_,.inr ⟨q,h⟩⟩
  cases hq:ps[q]? with
  |none=>rw[Q5n hq] at h;exact absurd h Z2z
  |some id=>rw[Q6y hq] at h;exact (hi.new id b h).1
 ·simp only[Qsv,List.length_map] at h
  rw[List.getElem?_eq_none h];rfl
 ·cases hq:ps[q]? with
  |none=>rw[hq] at h;cases h
  |some id=>rw[hq] at h;exact hi.mlt id x h
def Qba(ps:List Nat)(cn cnc:Nat→Cnt)(N n:Nat):Nat→Cnt:=fun id=>match gIn ps id with
 |some q=>cnc q
 |none=>if id=N then cnc n else cn id
theorem Qyg{ps:List Nat}(hn:ps.Nodup){q id:Nat}(h:ps[q]? =some id):gIn ps id=some q:=by
 unfold gIn
 rw[List.idxOf?_eq_some_iff]
 obtain ⟨h1,h2⟩:=List.getElem?_eq_some_iff.1 h
 refine ⟨h1,by simpa using h2,fun j hj=> ?_⟩
 have:ps[j]'Zb≠ps[q]:=fun e=>by
  have:=Qtr hn (i:=j) (j:=q) (a:=ps[q]) (by rw[List.getElem?_eq_getElem Zb,e]) (by rw[List.getElem?_eq_getElem h1])
  omega
 simpa[h2] using this
theorem Qx2{ps:List Nat}{id:Nat}:gIn ps id=none↔id∉ps:=by
 unfold gIn
 rw[List.idxOf?_eq_none_iff]
end
end Go.Ev
namespace Go.Ev
open Go
section
variable {P:Program} {X:Ctx} {st:St} {Q:Exit→St→Prop} {ops:Array Oper} {rest:List Oper} {o:Oper}
theorem Q7t{w w':World}{ob obc:List Ob}{m mc:Mp}{cn cnc:Nat→Cnt}{ps:List Nat}{n N:Nat}{r:V}{u:Value}{d:Cnt}(hi:Inv X w ob m cn)(hn:ps.Nodup)(hlt: ∀id∈ps,id<ob.length)
  (hc:Inv (Q8y X w m cn ps) w' obc mc cnc) (hr:R w' (frz (Q8y X w m cn ps) cnc) mc (.one r u) d) (hlen:obc.length=ps.length) (hnn:ps.length≤n) (hd: ∀z,d z≤cnc n z) (hN:ob.length≤N):
  Inv X w' (wb ob ps (obc.map (Qjn (Qcj ps)))) m (Qba ps cn cnc N n)∧Ext X w m cn w' m (Qba ps cn cnc N n)∧
   R w' (frz X (Qba ps cn cnc N n)) m (.one (r.mapId (Qcj ps)) u) d∧ ∀z,d z≤Qba ps cn cnc N n N z:=by
 have own: ∀b,(Q8y X w m cn ps).own0 b→ ∃id,id∈ps∧0<cn id b:=by
  rintro b ⟨q,hq⟩
  cases h:ps[q]? with
  |none=>rw[Q5n h] at hq;exact absurd hq Z2z
  |some id=>rw[Q6y h] at hq;exact ⟨id,List.mem_of_getElem? h,hq⟩
 have hle:w.heap.size≤w'.heap.size:=hc.le
 have kept: ∀b,b<w.heap.size→(∀id∈ps,cn id b=0)→w'.heap[b]? =w.heap[b]? :=fun b hb h=>hc.kept b hb fun ho=>by
  obtain ⟨id,h1,h2⟩:=own b ho
  have:=h id h1
  omega
 have cnew: ∀q b,0<cnc q b→b<w'.heap.size∧(w.heap.size≤b∨ ∃id,id∈ps∧0<cn id b):=fun q b h=>by
  obtain ⟨h1,h2⟩:=hc.new q b h
  exact ⟨h1,h2.imp (fun h=>h) (own b)⟩
 have hNps:N∉ps:=fun h=>by have:=hlt N h;omega
 have oN:Qba ps cn cnc N n N=cnc n:=by simp only[Qba,Qx2.2 hNps,if_true]
 have oP: ∀{q id:Nat},ps[q]? =some id→Qba ps cn cnc N n id=cnc q:=fun {q id} h=>by simp only[Qba,Qyg hn h]
 have oO: ∀{id:Nat},id∉ps→id≠N→Qba ps cn cnc N n id=cn id:=fun {id} h1 h2=>by simp only[Qba,Qx2.2 h1,if_neg h2]
 have part: ∀id:Nat,(∃q:Nat,ps[q]? =some id)∨(id∉ps∧id=N)∨(id∉ps∧id≠N):=by
  intro id
  by_cases h:id∈ps
  ·exact .inl (List.mem_iff_getElem?.1 h)
  ·by_cases h2:id=N
   ·exact .inr (.inl ⟨h,h2⟩)
   ·exact .inr (.inr ⟨h,h2⟩)
 have qlt: ∀{q id:Nat},ps[q]? =some id→q<ps.length:=fun h=>(List.getElem?_eq_some_iff.1 h).1
 have fr1: ∀b,b<w.heap.size→frz X cn b→frz X (Qba ps cn cnc N n) b∧w'.heap[b]? =w.heap[b]? :=by
  intro b hb hf
  have h0: ∀q,cnc q b=0:=fun q=>by
   rcases Nat.eq_zero_or_pos (cnc q b) with h|h
   ·exact h
   ·rcases (cnew q b h).2 with h|⟨id,_,h⟩
    ·omega
    ·have:=hf.2 id;omega
  refine ⟨⟨hf.1,fun id=> ?_⟩,kept b hb fun id _=>hf.2 id⟩
  rcases part id with ⟨q,hq⟩|⟨_,rfl⟩|⟨h1,h2⟩
  ·rw[oP hq];exact h0 q
  ·rw[oN];exact h0 n
  ·rw[oO h1 h2];exact hf.2 id
 have fr2: ∀b,b<w'.heap.size→frz (Q8y X w m cn ps) cnc b→frz X (Qba ps cn cnc N n) b∧w'.heap[b]? =w'.heap[b]? :=by
  rintro b hb ⟨h1,h2⟩
  refine ⟨⟨?_,fun id=> ?_⟩,rfl⟩
  ·rcases h1 with ⟨_,h1⟩|h1
   ·exact h1.1
   ·exact .inr (Nat.le_trans hi.le h1)
  ·rcases part id with ⟨q,hq⟩|⟨_,rfl⟩|⟨h3,h4⟩
   ·rw[oP hq];exact h2 q
   ·rw[oN];exact h2 n
   ·rw[oO h3 h4]
    rcases h1 with ⟨_,h1⟩|h1
    ·exact h1.2 id
    ·rcases Nat.eq_zero_or_pos (cn id b) with h|h
     ·exact h
     ·have:=(hi.new id b h).1
      have h1:w.heap.size≤b:=h1
      omega
 have hext:Ext X w m cn w' m (Qba ps cn cnc N n):=⟨hle,fr1,fun id x h=>⟨h,hc.shp x.1 (hi.mlt id x h)⟩⟩
 have hmap: ∀q id,Qcj ps q=some id→m id=mc q:=fun q id h=>by
  have h:ps[q]? =some id:=h
  rw[hc.pas q (qlt h)]
  show m id=(ps[q]?).bind m
  rw[h];rfl
 have hRm: ∀{j:J} {c:Cnt},R w' (frz (Q8y X w m cn ps) cnc) mc j c→j.here (fun _=>True)→R w' (frz X (Qba ps cn cnc N n)) m (j.mapId (Qcj ps)) c:=by
  intro j c h _
  have h1:R w' (frz X (Qba ps cn cnc N n)) mc j c:=h.mono (Nat.le_refl _) fr2 (fun _ _=>rfl) (by cases j<;>first|trivial|exact .inr rfl) (fun _ _ h=>⟨h,rfl⟩)
  exact R.mapId hmap h1
 refine ⟨⟨Nat.le_trans hi.le hle,fun b hb ho=> ?_,hc.os.trans hi.os,hc.tape.trans hi.tape,hc.output.trans hi.output,fun i o ho=> ?_,fun b i j h1 h2=> ?_,fun i b=> ?_,fun i b h=> ?_,
  fun i h=>hi.fresh i (by rw[Qi2] at h;exact h),hi.pas,fun i x h=>Nat.lt_of_lt_of_le (hi.mlt i x h) hle,by rw[Qi2];exact hi.n0,
  fun b hb=>(hc.shp b (Nat.lt_of_lt_of_le hb hi.le)).trans (hi.shp b hb)⟩,hext,hRm hr trivial,fun z=>by rw[oN];exact hd z⟩
 ·rw[kept b (Nat.lt_of_lt_of_le hb hi.le) fun id _=> ?_]
  ·exact hi.kept b hb ho
  ·rcases Nat.eq_zero_or_pos (cn id b) with h|h
   ·exact h
   ·rcases (hi.new id b h).2 with h|h
    ·omega
    ·exact absurd h ho
 ·by_cases hmem:i∈ps
  ·obtain ⟨q,hq⟩:=List.mem_iff_getElem?.1 hmem
   rw[Q15k ps _ ob hn (by rw[List.length_map,hlen]) hlt q i hq,List.getElem?_map] at ho
   cases hO:obc[q]? with
   |none=>rw[hO] at ho;cases ho
   |some oq=>
    rw[hO] at ho
    simp only[Option.map_some,Option.some.injEq] at ho
    subst ho
    have hob:=hc.obj q oq hO
    have hmq:=hmap q i hq
    cases oq with
    |none=>trivial
    |some p=>
     obtain ⟨k,xs⟩:=p
     rcases hob with ⟨h1,h2,h3⟩|⟨b,cur,e,c,h1,h2,h3,h4,h5,h6⟩
     ·exact .inl ⟨by rw[h1];rfl,by rw[hmq];exact h2,by rw[oP hq];exact h3⟩
     ·refine .inr ⟨b,cur,e,c,by rw[hmq];exact h1,h2,Qql h3 _,by rw[Q9p,List.length_map];exact h4,?_,by rw[oP hq];exact h6⟩
      have:=hRm h5 (.inr trivial)
      rw[Qmx]
      exact this
  ·rw[Qqk ps _ ob i hmem] at ho
   have hlt':=(List.getElem?_eq_some_iff.1 ho).1
   refine (hi.obj i o ho).ext hext (oO hmem Zb) rfl (fun b hb=>kept b (hi.new i b hb).1 fun id hid=> ?_)
   rcases Nat.eq_zero_or_pos (cn id b) with h|h
   ·exact h
   ·exact absurd (hi.dis b id i h hb▸hid) hmem
 ·have cross: ∀q j,0<cnc q b→j∉ps→0<cn j b→False:=by
   intro q j hq hj hcj
   rcases (cnew q b hq).2 with h|⟨id,h1,h2⟩
   ·have:=(hi.new j b hcj).1;omega
   ·exact hj (hi.dis b id j h2 hcj▸h1)
  rcases part i with ⟨q,hq⟩|⟨_,rfl⟩|⟨a1,a2⟩<;>rcases part j with ⟨q',hq'⟩|⟨_,rfl⟩|⟨b1,b2⟩
  ·rw[oP hq] at h1;rw[oP hq'] at h2
   have:=hc.dis b q q' h1 h2
   subst this
   rw[hq] at hq';exact Option.some.inj hq'
  ·rw[oP hq] at h1;rw[oN] at h2
   have:=hc.dis b q n h1 h2;have:=qlt hq;omega
  ·rw[oP hq] at h1;rw[oO b1 b2] at h2;exact (cross q j h1 b1 h2).elim
  ·rw[oN] at h1;rw[oP hq'] at h2
   have:=hc.dis b n q' h1 h2;have:=qlt hq';omega
  ·rfl
  ·rw[oN] at h1;rw[oO b1 b2] at h2;exact (cross n j h1 b1 h2).elim
  ·rw[oO a1 a2] at h1;rw[oP hq'] at h2;exact (cross q' i h2 a1 h1).elim
  ·rw[oO a1 a2] at h1;rw[oN] at h2;exact (cross n i h2 a1 h1).elim
  ·rw[oO a1 a2] at h1;rw[oO b1 b2] at h2;exact hi.dis b i j h1 h2
 ·rcases part i with ⟨q,hq⟩|⟨_,rfl⟩|⟨a1,a2⟩
  ·rw[oP hq];exact hc.one q b
  ·rw[oN];exact hc.one n b
  ·rw[oO a1 a2];exact hi.one i b
 ·have key: ∀q,0<cnc q b→b<w'.heap.size∧(X.w0.heap.size≤b∨X.own0 b):=by
   intro q hq
   obtain ⟨h1,h2⟩:=cnew q b hq
   refine ⟨h1,?_⟩
   rcases h2 with h2|⟨id,_,h2⟩
   ·exact .inl (Nat.le_trans hi.le h2)
   ·exact (hi.new id b h2).2
  rcases part i with ⟨q,hq⟩|⟨_,rfl⟩|⟨a1,a2⟩
  ·rw[oP hq] at h;exact key q h
  ·rw[oN] at h;exact key n h
  ·rw[oO a1 a2] at h
   have:=hi.new i b h
   exact ⟨Nat.lt_of_lt_of_le this.1 hle,this.2⟩
theorem Q15e{fo:Operand}{as:Array Operand}{ts:Array TypeId}{f:FuncId}{first cap:List V}(ps:List Nat){r:V}{obc:List Ob}
  (hct:Ct P f (mapL (gIn ps) (first++as.toList.map (val st)++cap)) (Qsv st.ob ps) r obc)
  (ho:o.op= .call {callee:= .value fo,args:=as,argTypes:=ts}) (hg:gd ops st o.guard=some true) (hf:val st fo= .clo (.func f) first cap) (hF:Q6 P f)
  (hn:ps.Nodup) (hlt: ∀id∈ps,id<st.ob.length)
  (hk:WL P X ops rest ⟨Q2l o.dst (Q32 (wb st.ob ps (obc.map (Qjn (Qcj ps)))) (r.mapId (Qcj ps))).1 st.tm,(Q32 (wb st.ob ps (obc.map (Qjn (Qcj ps)))) (r.mapId (Qcj ps))).2⟩ Q):
  WL P X ops (o::rest) st Q:=by
 intro w m cn a hi hs hd
 refine wpList_step fun K hK=> ?_
 rw[Q62 hs hg,if_pos rfl]
 have hfv:=Q14 hs fo
 rw[hf] at hfv
 obtain ⟨us1,vs1,he,hfirst,hcap⟩: ∃us1 vs1,a.eval fo= .func (.func f) (List.toArray us1) (List.toArray vs1)∧R w (frz X cn) m (.list first us1) z0∧R w (frz X cn) m (.list cap vs1) z0:=by
  generalize a.eval fo=u at hfv
  generalize hz:z0=c at hfv
  cases hfv with
  |clo h1 h2 he=>
   subst hz
   exact ⟨_,_,rfl,h1.zero fun z=>by have:=he z;simp[z0] at this;omega,h2.zero fun z=>by have:=he z;simp[z0] at this;omega⟩
 have hargs: ∀l:List Operand,R w (frz X cn) m (.list (l.map (val st)) (l.map a.eval)) z0:=by
  intro l
  induction l with
  |nil=>exact .lnil
  |cons x l ih=>exact .lcons (Q14 hs x) ih (fun _=>rfl)
 have hall:=((hfirst.ljoin (hargs as.toList)).ljoin hcap).zero fun z=>by simp[z0]
 obtain ⟨hinv,hfr⟩:=Qex hi hn hlt
 have hR2:R w (frz (Q8y X w m cn ps) (Qiy ps cn)) m (.list (first++as.toList.map (val st)++cap) (us1++as.toList.map a.eval++vs1)) z0:=
  hall.mono (Nat.le_refl _) (fun b hb hf=>⟨hfr b hb hf,rfl⟩) (fun _ _=>rfl) trivial (fun _ _ h=>⟨h,rfl⟩)
 have hR3:=R.mapId (g:=gIn ps) (m':=fun q=>(ps[q]?).bind m) (fun id q hg=>by rw[Qrn hg];rfl) hR2
 have hlenO:(Qsv st.ob ps).length=ps.length:=by simp[Qsv]
 have hcall:=hct w (fun b=>b<w.heap.size∧frz X cn b) (fun q=>(ps[q]?).bind m) (Qiy ps cn) (us1++as.toList.map a.eval++vs1)
  (fun b hb=>⟨hb.1,fun q=>by
   cases h:ps[q]? with
   |none=>rw[Q5n h]
   |some id=>rw[Q6y h];exact hb.2.2 id⟩) (by rw[hlenO];exact hinv) (by rw[hlenO];exact hR3)
 unfold Oper.wp
 have hrun:(execOp a.eval o).run P w= .ok (.enter f (us1++as.toList.map a.eval++vs1).toArray) w:=by
  simp only[execOp,ho,resolve,Deferred.ofValue,he,Sem.run_bind,Sem.run_pure,Result.andThen_ok,invoke]
  rw[Q6r hF]
  congr 2
  apply Array.ext'
  simp
 rw[hrun]
 refine Calls.mono hcall ?_
 rintro e w' ⟨u,mc,cnc,d,rfl,h1,h2,h3,n,h4,h5⟩
 rw[hlenO] at h1 h2 h3 h4
 have hN:st.ob.length≤(Q32 (wb st.ob ps (obc.map (Qjn (Qcj ps)))) (r.mapId (Qcj ps))).2.length:=by
  have:=Qia (wb st.ob ps (obc.map (Qjn (Qcj ps)))) (r.mapId (Qcj ps))
  rw[Qi2] at this
  exact this
 obtain ⟨a1,a2,a3,a4⟩:=Q7t hi hn hlt h1 h2 h3 h4 h5 hN
 obtain ⟨m2,cn2,b1,b2,b3,_,_⟩:=Ql0 _ a1 (Nat.le_refl _) a3 a4
 have hs2:Sl X w' m2 cn2 (Q2l o.dst (Q32 (wb st.ob ps (obc.map (Qjn (Qcj ps)))) (r.mapId (Qcj ps))).1 st.tm) (a.put o.dst u):=by
  have:=(b2.Sl (a2.Sl hs)).set o.dst b3
  cases hod:o.dst<;>simpa[Q2l,hod] using this
 have hd2:(a.put o.dst u).defers=[]:=by cases hod:o.dst<;>simpa[Act.put] using hd
 exact hK _ _ (hk w' m2 cn2 _ b1 hs2 hd2)
end
end Go.Ev
