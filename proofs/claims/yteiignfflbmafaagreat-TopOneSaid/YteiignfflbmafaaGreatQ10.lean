/- TopOne, part 10. -/
import Derived.Test.YteiignfflbmafaaGreatQ9
set_option linter.unusedVariables false
set_option linter.unusedSimpArgs false
set_option maxRecDepth 100000
set_option maxHeartbeats 8000000
namespace Go.Proofs.YteiignfflbmafaaGreat.Tp
open Go.Proofs.Tryz
open Go.RowKit Go.Proofs.YteiignfflbmafaaGreat.Tok
variable {z:Lay} {l:List WS} {k:Nat} {w:World} {m:Co} {x:WS}
theorem Us52 {p:Prop} (h:p:=by
 refine hU 14 ?_;refine pz ?_;refine hU 15 ?_;refine pz ?_;refine wpAnyH_done U7 ?_ _
 all_goals
  have H1:=H0.o.ai B1;obtain⟨q1,q2,H2⟩:=FS.o w1 H1;go_wp2_with fail
  go_end0
  exact⟨rfl,by first|exact H2|exact H2.drew⟩):p:=h
theorem Us47 {p:Prop} (h:p:=by
 go_enter func163,ntmps163
 go_wp2_with (first|(go_at_call 139;refine c0.o.r ?_)|(go_at_call 170;refine c1.o.q λw5 H5=> ?_))
 go_end0
 exact⟨rfl,H5⟩):p:=h
theorem uJ(a b:Int)(w:World):Cs 169 #[a,b] w (.bool (decide (b<a))) λw'=>w=w':=by
 go_enter func169,ntmps169;go_wp2_with fail
 go_ret
 exact⟨rfl,rfl⟩
def Co.due(m:Co)(i:Nat):Co:=m.ak i {m.fr i with due:=true}
theorem A1.wX(h:A1 z l k w m x)(i:Nat)(hi:m.ok i)(hx:x.Sa=i)(hg:x.gw=false∨(m.fr i).index=0):Cs 163 #[ptr (z.wq k),ptr z.c] w (.tuple #[]) λw'=>A1 z l k w' (m.due i) {x with R8:=4}:=by
 have c0:=Hd (h.aT i hi hx);have c1:=Hd (h.Il i hi hx);have y9:=h.cell 9 _ rfl;have y14:=h.frame i hi 14 U0 _ rfl;unfold Co.due;generalize m.ak i {m.fr i with due:=true}=M at*;generalize{x with R8:=4}=X at*;clear h hi hx;generalize 19*i=I at*
 cases hw:x.gw
 ·rw[hw]at y9
  clear hg hw
  exact Us47
 ·have h0:(m.fr i).index=0:=hg.resolve_left (by rw[hw];decide)
  rw[hw]at y9;rw[h0]at y14;clear hg hw h0
  exact Us47
theorem A1.uS(h:A1 z l k w m x)(i:Nat)(hi:m.ok i)(hx:x.Sa=i)(hg:x.gw=true)(hn:(m.fr i).index≠0)(hf:m.fold=true)(hp:x.aB<(m.fr i).fold):Cs 163 #[ptr (z.wq k),ptr z.c] w (.tuple #[]) λw'=>A1 z l k w' (({m with st:={m.st with folds:=wrap64 (m.st.folds+1)}}).due i) {x with R8:=4}:=by
 have c0:=Hd (h.aT i hi hx);have c2:=Hd (λw (h:A1 z l k w m x)=>h.jf);unfold Co.gU at c2;rw[hf]at c2;have hf5:=uB;have c3:=Hd (λw=>uJ (m.fr i).fold x.aB w);rw[show decide (x.aB<(m.fr i).fold)=true from decide_eq_true hp]at c3;clear hp;have y9:=h.cell 9 _ rfl;rw[hg]at y9;have y8:=h.cell 8 _ rfl;have y14:=h.frame i hi 14 U0 _ rfl;have y16:=h.frame i hi 16 U0 _ rfl;have ix0:decide (((m.fr i).index:Int)=0)=false:=decide_eq_false U2;have ix1:¬(((m.fr i).index:Int)=0):=by omega
 have ix2:(((m.fr i).index:Int)==0)=false:=by simp;omega
 have lq:=h.lt;have lf:z.fr<w.heap.size:=bL w _ y14;have cs:=Hd (λw (h:A1 z l k w m x)=>h.jQ);have cd:=Hd (λw (h:A1 z l k w ({m with st:={m.st with folds:=wrap64 (m.st.folds+1)}}) x)=>h.Il i hi hx);have FS:=Hd (λw (h:A1 z l k w m x)=>(⟨h.iA 18 _ rfl,h.cfz,h.fB 18 (.int .i64 (wrap64 (m.st.folds+1))) {m.st with folds:=wrap64 (m.st.folds+1)} m.ae m.status m.why rfl⟩:w.cell? ⟨z.c,18,none⟩=some ↑m.st.folds/\(∀j,w.frozen? ⟨z.c,j,none⟩=false)/\A1 z l k (w.setCell ⟨z.c,18,none⟩ (.int .i64 (wrap64 (m.st.folds+1)))) ({m with st:={m.st with folds:=wrap64 (m.st.folds+1)}}) x));have ws:=dQ (m.st.folds+1);have H0:=Hd h;clear h hi hx hg hf hn;generalize 19*i=I at*;generalize(m.fr i).index=ix at*;generalize(m.fr i).fold=fo at*;go_enter func163,ntmps163
 go_upto_region 5 with(go_at_call 139;refine c0.o.r ?_)
 refine wp_region_held_drew (S:=(λw'=>w'.cell? ⟨z.fr,I+16,none⟩=some ↑fo/\w'.cell? ⟨z.wq k,8,none⟩=some ↑x.aB)) U7 ?_ (λhHeld=>?_)
 ·exact U118
 refine hU 0 ?_;refine pz ?_;refine wpAnyH_ready (rs:=[1]) U7 U8 ?_;refine hA (λK hK=>?_)
 go_simp
 (go_at_call 89;refine(c2.o _ U4).q λw1 Sr=> ?_;have l1:=nL lq Sr.size;have lf1:=nL lf Sr.size;have B1:=(by first|exact Sr|exact(Below.refl _ w).drew.trans Sr|exact(Below.refl _ w).drew.drew.trans Sr:Below w.heap.size w w1))
 refine hK.o _ _ ?_ (λhHeld=>?_)
 ·exact U118
 clear hK K;refine pz ?_;refine hU 2 ?_;refine hU 3 ?_;refine pz ?_;refine hU 4 ?_;refine hU 5 ?_;refine hU 6 ?_;refine pz ?_;refine hU 7 ?_;refine hU 8 ?_;refine hU 9 ?_;refine pz ?_;refine hU 10 ?_;refine hU 11 ?_;refine hU 12 ?_;refine pz ?_;refine wpAnyH_ready (rs:=[13]) U7 U8 ?_;refine hA (λK hK=>?_)
 go_simp
 (go_at_call 169;refine(c3.o _).r ?_)
 refine hK.o _ _ ?_ (λhHeld=>?_)
 ·exact U118
 clear hK K;refine pz ?_;refine hU 14 ?_;refine hU 15 ?_;refine pz ?_;refine wpAnyH_done U7 ?_ _
 all_goals
  have H1:=H0.o.ai B1;obtain⟨q1,q2,H2⟩:=FS.o w1 H1
  go_wp2_with (first|(go_at_call 33;refine(cs.o _ (by first|exact H1|exact H1.drew)).r ?_)|(go_at_call 170;refine(cd.o _ U48).q λw5 H5=> ?_))
  go_end0
  exact⟨rfl,H5⟩
theorem A1.rR(h:A1 z l k w m x)(i:Nat)(hi:m.ok i)(hx:x.Sa=i)(hg:x.gw=true)(hn:(m.fr i).index≠0)(hf:m.fold=true)(hp:(m.fr i).fold<=x.aB):Cs 163 #[ptr (z.wq k),ptr z.c] w (.tuple #[]) λw'=>A1 z l k w' m {x with R8:=12}:=by
 have c0:=Hd (h.aT i hi hx);have c2:=Hd (λw (h:A1 z l k w m x)=>h.jf);unfold Co.gU at c2;rw[hf]at c2;have hf5:=uB;have c3:=Hd (λw=>uJ (m.fr i).fold x.aB w);rw[show decide (x.aB<(m.fr i).fold)=false from decide_eq_false U2]at c3;clear hp;have y9:=h.cell 9 _ rfl;rw[hg]at y9;have y8:=h.cell 8 _ rfl;have y14:=h.frame i hi 14 U0 _ rfl;have y16:=h.frame i hi 16 U0 _ rfl;have ix0:decide (((m.fr i).index:Int)=0)=false:=decide_eq_false U2;have ix1:¬(((m.fr i).index:Int)=0):=by omega
 have ix2:(((m.fr i).index:Int)==0)=false:=by simp;omega
 have lq:=h.lt;have lf:z.fr<w.heap.size:=bL w _ y14;have FS:=Hd (λw (h:A1 z l k w m x)=>(⟨h.cell 1 _ rfl,h.fz,(h).set 1 (.int .i64 12) {x with R8:=12} ⟨rfl,rfl,rfl,rfl,rfl⟩ (λ_ _ _ _ _ _=>rfl)⟩:w.cell? ⟨z.wq k,1,none⟩=some ↑x.R8/\(∀j,w.frozen? ⟨z.wq k,j,none⟩=false)/\A1 z l k (w.setCell ⟨z.wq k,1,none⟩ (.int .i64 12)) m {x with R8:=12}));have H0:=Hd h;clear h hi hx hg hf hn;generalize 19*i=I at*;generalize(m.fr i).index=ix at*;generalize(m.fr i).fold=fo at*;go_enter func163,ntmps163
 go_upto_region 5 with(go_at_call 139;refine c0.o.r ?_)
 refine wp_region_held_drew (S:=(λw'=>w'.cell? ⟨z.fr,I+16,none⟩=some ↑fo/\w'.cell? ⟨z.wq k,8,none⟩=some ↑x.aB)) U7 ?_ (λhHeld=>?_)
 ·exact U118
 refine hU 0 ?_;refine pz ?_;refine wpAnyH_ready (rs:=[1]) U7 U8 ?_;refine hA (λK hK=>?_)
 go_simp
 (go_at_call 89;refine(c2.o _ U4).q λw1 Sr=> ?_;have l1:=nL lq Sr.size;have lf1:=nL lf Sr.size;have B1:=(by first|exact Sr|exact(Below.refl _ w).drew.trans Sr|exact(Below.refl _ w).drew.drew.trans Sr:Below w.heap.size w w1))
 refine hK.o _ _ ?_ (λhHeld=>?_)
 ·exact U118
 clear hK K;refine pz ?_;refine hU 2 ?_;refine hU 3 ?_;refine hU 4 ?_;refine pz ?_;refine hU 5 ?_;refine hU 6 ?_;refine hU 7 ?_;refine pz ?_;refine hU 8 ?_;refine hU 9 ?_;refine hU 10 ?_;refine pz ?_;refine hU 11 ?_;refine hU 12 ?_;refine pz ?_;refine wpAnyH_ready (rs:=[13]) U7 U8 ?_;refine hA (λK hK=>?_)
 go_simp
 (go_at_call 169;refine(c3.o _).r ?_)
 refine hK.o _ _ ?_ (λhHeld=>?_)
 ·exact U118
 clear hK K;refine pz ?_
 exact Us52
theorem A1.rT(h:A1 z l k w m x)(i:Nat)(hi:m.ok i)(hx:x.Sa=i)(hg:x.gw=true)(hn:(m.fr i).index≠0)(hf:m.fold=false):Cs 163 #[ptr (z.wq k),ptr z.c] w (.tuple #[]) λw'=>A1 z l k w' m {x with R8:=12}:=by
 have c0:=Hd (h.aT i hi hx);have c2:=Hd (λw (h:A1 z l k w m x)=>h.jf);unfold Co.gU at c2;rw[hf]at c2;have hf5:=uB;have y9:=h.cell 9 _ rfl;rw[hg]at y9;have y8:=h.cell 8 _ rfl;have y14:=h.frame i hi 14 U0 _ rfl;have y16:=h.frame i hi 16 U0 _ rfl;have ix0:decide (((m.fr i).index:Int)=0)=false:=decide_eq_false U2;have ix1:¬(((m.fr i).index:Int)=0):=by omega
 have ix2:(((m.fr i).index:Int)==0)=false:=by simp;omega
 have lq:=h.lt;have lf:z.fr<w.heap.size:=bL w _ y14;have FS:=Hd (λw (h:A1 z l k w m x)=>(⟨h.cell 1 _ rfl,h.fz,(h).set 1 (.int .i64 12) {x with R8:=12} ⟨rfl,rfl,rfl,rfl,rfl⟩ (λ_ _ _ _ _ _=>rfl)⟩:w.cell? ⟨z.wq k,1,none⟩=some ↑x.R8/\(∀j,w.frozen? ⟨z.wq k,j,none⟩=false)/\A1 z l k (w.setCell ⟨z.wq k,1,none⟩ (.int .i64 12)) m {x with R8:=12}));have H0:=Hd h;clear h hi hx hg hf hn;generalize 19*i=I at*;generalize(m.fr i).index=ix at*;generalize(m.fr i).fold=fo at*;go_enter func163,ntmps163
 go_upto_region 5 with(go_at_call 139;refine c0.o.r ?_)
 refine wp_region_held_drew (S:=(λw'=>w'.cell? ⟨z.fr,I+16,none⟩=some ↑fo/\w'.cell? ⟨z.wq k,8,none⟩=some ↑x.aB)) U7 ?_ (λhHeld=>?_)
 ·exact U118
 refine hU 0 ?_;refine pz ?_;refine wpAnyH_ready (rs:=[1]) U7 U8 ?_;refine hA (λK hK=>?_)
 go_simp
 (go_at_call 89;refine(c2.o _ U4).q λw1 Sr=> ?_;have l1:=nL lq Sr.size;have lf1:=nL lf Sr.size;have B1:=(by first|exact Sr|exact(Below.refl _ w).drew.trans Sr|exact(Below.refl _ w).drew.drew.trans Sr:Below w.heap.size w w1))
 refine hK.o _ _ ?_ (λhHeld=>?_)
 ·exact U118
 clear hK K;refine pz ?_;refine hU 2 ?_;refine pz ?_;refine hU 3 ?_;refine hM 4 ?_;refine hM 5 ?_;refine pz ?_;refine hM 6 ?_;refine hM 7 ?_;refine hM 8 ?_;refine pz ?_;refine hM 9 ?_;refine hM 10 ?_;refine hM 11 ?_;refine pz ?_;refine hM 12 ?_;refine hM 13 ?_
 exact Us52
theorem A1.zx(h:A1 z l k w m x)(i p n:Nat)(hi:m.ok i)(hx:x.Sa=i)(hp:m.ok p)(hpa:(m.fr i).Sg=p)(hix:(m.fr i).index=n+1)(hn:n<=100000)(v:Int)(hv:m.RY.getD (m.pl.wN p n 0) 0=v)(hg:x.aB<v):Cs 105 #[ptr (z.wq k),ptr z.c] w (.tuple #[]) λw'=>A1 z l k w' ((m.ak i {m.fr i with fold:=v}).ak i {m.fr i with fold:=v,due:=true}) {x with R8:=4}:=by
 have c0:=Hd (h.aT i hi hx);have xa:w.cell? ⟨z.fr,19*i+11,none⟩=some ↑p:=h.frame i hi 11 U0 _ U35;have xb:w.cell? ⟨z.fr,19*i+14,none⟩=some (.int .i64 ((n+1:Nat):Int)):=h.frame i hi 14 U0 _ (by rw[<-hix];rfl);have c1:=Hd (λw (h:A1 z l k w m x)=>h.fE p hp);have c2:=Hd (λw (h:A1 z l k w m x)=>h.aN);have c4:=Hd (λw hS=>JE m.pl h.bQ p (m.fr p).ae n z.ws z.wd m.RY (ja _ h.bQ p _ 0 U0 m.RY h.bU) w hS);rw[hv]at c4;have c3:=Hd (λw=>uJ v x.aB w);rw[show decide (x.aB<v)=true from decide_eq_true hg]at c3;have fl:=h.iB i hi;have FS:=Hd (λw (h:A1 z l k w m x)=>(⟨h.frame i hi 16 U0 _ rfl,h.sM,h.aF i hi 16 U0 ↑v {m.fr i with fold:=v} rfl⟩:w.cell? ⟨z.fr,19*i+16,none⟩=some (.int .i64 (m.fr i).fold)/\(∀j,w.frozen? ⟨z.fr,j,none⟩=false)/\A1 z l k (w.setCell ⟨z.fr,19*i+16,none⟩ ↑v) (m.ak i {m.fr i with fold:=v}) x));have GS:=Hd (λw (h:A1 z l k w (m.ak i {m.fr i with fold:=v}) x)=>(⟨h.cell 8 _ rfl,h.frame i hi 16 U0 _ (by rw[Co.dE hi fl];rfl)⟩:w.cell? ⟨z.wq k,8,none⟩=some ↑x.aB/\w.cell? ⟨z.fr,19*i+16,none⟩=some ↑v));have cd:=Hd (λw (h:A1 z l k w (m.ak i {m.fr i with fold:=v}) x)=>h.Il i hi hx);rw[Co.dE hi fl]at cd;unfold fZ at c1;have H0:=Hd h;have lf:z.fr<w.heap.size:=bL w _ xa;have ws1:IntKind.i64.wrap (((n+1:Nat):Int)-1)=(n:Int):=by rw[dQ];unfold wrap64;omega
 clear h hx hpa hix hv hg;generalize(m.ak i {m.fr i with fold:=v}).ak i {m.fr i with fold:=v,due:=true}=M2 at*;generalize m.ak i {m.fr i with fold:=v}=M at*;generalize(m.fr i).fold=fo at*;generalize n+1=n1 at*;generalize 19*i=I at*;go_enter func105,ntmps105
 go_upto_region 1 with(go_at_call 139;refine c0.o.r ?_)
 go_region_held3 (λw'=>w'.cell? ⟨z.fr,I+11,none⟩=some ↑p/\w'.cell? ⟨z.fr,I+14,none⟩=some ↑n1)
  (((try dsimp only);(try go_split_ands);(repeat' apply And.intro)<;>(repeat(first|(with_reducible assumption)|(with_reducible refine kc ?_)|(with_reducible refine kd ?_)|(refine kb U3 U6 ?_)|(refine(World.cell?_setCell_other _ _ _ _ U8).trans ?_)))))
  (first|(go_at_call 156;refine(c1.o _ U4).q λw1 Sr=> ?_;have l1:=nL lf Sr.size;have B1:=(by first|exact Sr|exact(Below.refl _ w).drew.trans Sr|exact(Below.refl _ w).drew.drew.trans Sr:Below w.heap.size w w1))|(go_at_call 93;refine(c2.o _ U12).r ?_)|(go_at_call 168;refine(c4.o _ U18).q λw3 b3=> ?_;have lf3:=nL l1 b3.size;have B3:=(by first|exact B1.trans (b3.mono B1.size)|exact B1.drew.trans (b3.mono B1.size)|exact B1.drew.drew.trans (b3.mono B1.size):Below w.heap.size w w3);obtain⟨q1,q2,H3⟩:=FS.o w3 (H0.o.ai B3)))
 all_goals
  obtain⟨r1,r2⟩:=GS.out _ H3;generalize w3.setCell ⟨z.fr,I+16,none⟩ ↑v=W at*;go_upto_region 3 with fail
  go_region_held3 (λw'=>w'.cell? ⟨z.wq k,8,none⟩=some ↑x.aB/\w'.cell? ⟨z.fr,I+16,none⟩=some ↑v)
   (exact U158)
   (first|(go_at_call 169;refine(c3.o _).r ?_))
  all_goals
   go_wp2_with (go_at_call 170;refine(cd.o _ U30).q λw5 H5=> ?_)
   go_end0
   exact⟨rfl,H5⟩
theorem zM(p:Pl)(h:p.ok)(k:Int):p.base k=(p.bN k 0:Int):=by
 have q:=mD p h k 0 U0;have q2:=iw p h k;rw[Int.add_zero,wr _ U2]at q
 exact q
theorem A1.P5(h:A1 z l k w m x):∃v,w.cell? ⟨z.wq k,18,none⟩=some v:=by
 obtain⟨bk,ov,gv,g,R,hk,⟨dv,tv,rv,pv,kv,nv,hb,_⟩,C⟩:=h.parts
 exact⟨_,hb.cell 18⟩
def Co.decide(m:Co)(x:WS)(i:Nat):Co×WS:=
 if x.gw=false∨(m.fr i).index=0 then(m.due i,{x with R8:=4})
 else if m.fold=true/\x.aB<(m.fr i).fold then(({m with st:={m.st with folds:=wrap64 (m.st.folds+1)}}).due i,{x with R8:=4})
 else(m,{x with R8:=12})
theorem A1.wW(h:A1 z l k w m x)(i:Nat)(hi:m.ok i)(hx:x.Sa=i):Cs 163 #[ptr (z.wq k),ptr z.c] w (.tuple #[]) λw'=>A1 z l k w' (m.decide x i).1 (m.decide x i).2:=by
 unfold Co.decide
 split
 ·rename_i hg
  exact h.wX i hi hx hg
 ·rename_i hg
  have hg1:x.gw=true:=by
   cases e:x.gw
   ·exact absurd (Or.inl e) hg
   ·rfl
  have hg2:(m.fr i).index≠0:=λe=>hg (Or.inr e)
  split
  ·rename_i hf
   exact h.uS i hi hx hg1 hg2 hf.1 hf.2
  ·rename_i hf
   cases e:m.fold
   ·exact h.rT i hi hx hg1 hg2 e
   ·exact h.rR i hi hx hg1 hg2 e (Int.not_lt.1 (λq=>hf ⟨e,q⟩))
theorem A1.uU(h:A1 z l k w m x)(i:Nat)(hi:m.ok i)(hx:x.Sa=i)(p:Nat)(hp:m.ok p)(hpa:(m.fr i).Sg=p)(hix:(m.fr i).index<=100000)(hc:x.tail<=m.RY.getD (m.pl.bN x.Sq 0) 0):Cs 103 #[ptr (z.wq k),ptr z.c] w (.tuple #[]) λw'=>A1 z l k w' m (x.checks m.pl p (m.fr p).ae (m.fr i).index 0 x.aB):=by
 have c1:=Hd (λw (h:A1 z l k w m x)=>h.aN);have c2:=Hd (λw (h:A1 z l k w m x)=>h.fP);have c3:=Hd (λw=>kK m.pl h.bQ x.Sq w);rw[zM m.pl h.bQ]at c3;have c4:=Hd (λw hS=>fI w z.ws z.wd m.RY (m.pl.bN x.Sq 0) (vo _ h.bQ x.Sq 0 U0 m.RY h.bU) hS);have FS:=Hd (λw (h:A1 z l k w m x)=>(h.cell 0 _ rfl:w.cell? ⟨z.wq k,0,none⟩=some ↑x.Sq));have c5:=Hd (λw (h:A1 z l k w m x)=>h.qZ i p hi hx hp hpa hix 0 x.aB);unfold Pl.v at c2;generalize x.checks m.pl p (m.fr p).ae (m.fr i).index 0 x.aB=X at*;have HC:=h;clear h hx hpa hix;generalize m.RY.getD (m.pl.bN x.Sq 0) 0=HD at*;generalize m.pl.bN x.Sq 0=BN at*;have hd1:¬(HD<x.tail):=by omega
 go_enter func103,ntmps103;go_upto_region 0 with fail
 go_region_held3 (λw'=>w'.cell? ⟨z.wq k,0,none⟩=some ↑x.Sq)
  (first|exact FS.o _ HC|exact FS.o _ HC.drew|exact FS.o _ HC.drew.drew)
  (first|(go_at_call 93;refine(c1.o _ U5).r ?_)|(go_at_call 91;refine(c2.o _ U5).q λw1 Sr=> ?_;replace HC:=(by first|exact HC.ai Sr|exact HC.drew.ai Sr|exact HC.drew.drew.ai Sr:A1 z l k w1 m x))|(go_at_call 161;refine(c3.o _).q λw1 Sr=> ?_;replace HC:=(by first|exact HC.ai Sr|exact HC.drew.ai Sr|exact HC.drew.drew.ai Sr:A1 z l k w1 m x))|(go_at_call 160;refine(c4.o _ U80).r ?_))
 all_goals
  replace HC:=(by first|exact HC|exact HC.drew:A1 z l k _ m x);have y3:=HC.cell 3 _ rfl;have y8:=HC.cell 8 _ rfl
  go_wp2_with (go_at_call 162;refine(c5.o _ HC).q λw5 H5=> ?_)
  (try simp only[Exit.inBlock,Exit.then]);refine bodyPost_ret (results_none rfl _ _ _) rfl ?_
  exact⟨rfl,H5⟩
theorem A1.uV(h:A1 z l k w m x)(i:Nat)(hi:m.ok i)(hx:x.Sa=i)(hc:m.RY.getD (m.pl.bN x.Sq 0) 0<x.tail):Cs 103 #[ptr (z.wq k),ptr z.c] w (.tuple #[]) λw'=>A1 z l k w' (m.decide {x with gl:=false} i).1 (m.decide {x with gl:=false} i).2:=by
 have c1:=Hd (λw (h:A1 z l k w m x)=>h.aN);have c2:=Hd (λw (h:A1 z l k w m x)=>h.fP);have c3:=Hd (λw=>kK m.pl h.bQ x.Sq w);rw[zM m.pl h.bQ]at c3;have c4:=Hd (λw hS=>fI w z.ws z.wd m.RY (m.pl.bN x.Sq 0) (vo _ h.bQ x.Sq 0 U0 m.RY h.bU) hS);have FS:=Hd (λw (h:A1 z l k w m x)=>(h.cell 0 _ rfl:w.cell? ⟨z.wq k,0,none⟩=some ↑x.Sq));have c5:=Hd (λw (h:A1 z l k w m {x with gl:=false})=>h.wW i hi hx);unfold Pl.v at c2;generalize m.decide {x with gl:=false} i=X at*;have HC:=h;clear h hx;generalize m.RY.getD (m.pl.bN x.Sq 0) 0=HD at*;generalize m.pl.bN x.Sq 0=BN at*;have hd1:¬(x.tail<=HD):=by omega
 go_enter func103,ntmps103;go_upto_region 0 with fail
 go_region_held3 (λw'=>w'.cell? ⟨z.wq k,0,none⟩=some ↑x.Sq)
  (first|exact FS.o _ HC|exact FS.o _ HC.drew|exact FS.o _ HC.drew.drew)
  (first|(go_at_call 93;refine(c1.o _ U5).r ?_)|(go_at_call 91;refine(c2.o _ U5).q λw1 Sr=> ?_;replace HC:=(by first|exact HC.ai Sr|exact HC.drew.ai Sr|exact HC.drew.drew.ai Sr:A1 z l k w1 m x))|(go_at_call 161;refine(c3.o _).q λw1 Sr=> ?_;replace HC:=(by first|exact HC.ai Sr|exact HC.drew.ai Sr|exact HC.drew.drew.ai Sr:A1 z l k w1 m x))|(go_at_call 160;refine(c4.o _ U80).r ?_))
 all_goals
  replace HC:=(by first|exact HC|exact HC.drew:A1 z l k _ m x);have y3:=HC.cell 3 _ rfl;have y8:=HC.cell 8 _ rfl;have y10:=HC.cell 10 _ rfl;have z1:=HC.fz;have H4:=(HC).set 10 (.bool false) {x with gl:=false} ⟨rfl,rfl,rfl,rfl,rfl⟩ (λ_ _ _ _ _ _=>rfl)
  go_wp2_with (go_at_call 163;refine(c5.o _ H4).q λw5 H5=> ?_)
  go_end0
  exact⟨rfl,H5⟩
theorem A1.Dh(h:A1 z l k w m x)(i:Nat)(hi:m.ok i)(hx:x.Sa=i)(r:RW)(hr:x.rt=some r)(h0:r.nx=0)(hs:r.sees m.RY=false)(hpl:r.p=m.pl)(hgt:r.Sl=false)(hgy:x.gy=0):Cs 104 #[ptr (z.wq k),ptr z.c] w (.tuple #[]) λw'=>A1 z l k w' (m.decide {x with rt:=some {r with st:=0,nx:=3}} i).1 (m.decide {x with rt:=some {r with st:=0,nx:=3}} i).2:=by
 obtain⟨b,hb⟩:=h.DK _ hr;have c0:=Hd (λw (h:A1 z l k w m x)=>h.aN);have c1:=Hd (λw (h:A1 z l k w m x) hc=>h.Gz r hr h0 hs hpl b hc);have c2:=Hd (λw (h:A1 z l k w m {x with rt:=some {r with st:=0,nx:=3}}) hc=>(by have q:=h.Mr {r with st:=0,nx:=3} rfl b hc;dsimp only at q;rw[hgt]at q;exact q:Cs 165 #[ptr b] w (.tuple #[r.fm,.bool false]) λw'=>Below w.heap.size w w'));have GY:=Hd (λw (h:A1 z l k w m {x with rt:=some {r with st:=0,nx:=3}})=>(h.cell 11 _ (by rw[<-hgy];rfl):w.cell? ⟨z.wq k,11,none⟩=some (.int .i64 0)));have c3:=Hd (λw (h:A1 z l k w m {x with rt:=some {r with st:=0,nx:=3}})=>h.wW i hi hx);generalize m.decide {x with rt:=some {r with st:=0,nx:=3}} i=X at*;have H0:=Hd h;clear h hx hr h0 hs hpl hgt hgy;go_enter func104,ntmps104;go_upto_region 0 with fail
 go_region_held3 (λw'=>w'.cell? ⟨z.wq k,16,none⟩=some (ptr b))
  (exact U161)
  (first|(go_at_call 93;refine(c0.o _ U4).r ?_)|(go_at_call 164;refine(c1.o _ U4 U19).mono ?_;rintro ev w2 ⟨rfl,HC,y16⟩))
 all_goals
  replace y16:=(by first|exact y16|exact kd y16:World.cell? _ ⟨z.wq k,16,none⟩=some (ptr b))
  go_wp2_with (first|(go_at_call 165;refine(c2.o _ U5 y16).q λw3 hb3=> ?_;replace HC:=(by first|exact HC.ai hb3|exact HC.drew.ai hb3:A1 z l k w3 m {x with rt:=some {r with st:=0,nx:=3}});have y11:=GY.out _ HC)|(go_at_call 163;refine(c3.o _ U5).q λw5 H5=> ?_))
  go_end0
  exact⟨rfl,H5⟩
theorem A1.zl(h:A1 z l k w m x)(i:Nat)(hi:m.ok i)(hx:x.Sa=i)(r:RW)(hr:x.rt=some r)(h0:r.nx=0)(hs:r.sees m.RY=false)(hpl:r.p=m.pl)(hgt:r.Sl=false)(hgy:x.gy=2)(p:Nat)(hp:m.ok p)(hpa:(m.fr i).Sg=p)(hix:(m.fr i).index<=100000):Cs 104 #[ptr (z.wq k),ptr z.c] w (.tuple #[]) λw'=>A1 z l k w' m {x with rt:=some {r with st:=0,nx:=3},er:=r.fm,wk:=some (⟨m.pl,p,(m.fr p).ae,(m.fr i).index,0,false,false⟩, !x.eh),R8:=15}:=by
 obtain⟨b,hb⟩:=h.DK _ hr;have c0:=Hd (λw (h:A1 z l k w m x)=>h.aN);have c1:=Hd (λw (h:A1 z l k w m x) hc=>h.Gz r hr h0 hs hpl b hc);have c2:=Hd (λw (h:A1 z l k w m {x with rt:=some {r with st:=0,nx:=3}}) hc=>(by have q:=h.Mr {r with st:=0,nx:=3} rfl b hc;dsimp only at q;rw[hgt]at q;exact q:Cs 165 #[ptr b] w (.tuple #[r.fm,.bool false]) λw'=>Below w.heap.size w w'));have GY:=Hd (λw (h:A1 z l k w m {x with rt:=some {r with st:=0,nx:=3}})=>(h.cell 11 _ (by rw[<-hgy];rfl):w.cell? ⟨z.wq k,11,none⟩=some (.int .i64 2)));have ix1:(m.fr i).index<=100000:=hix;have E1:=Hd (λw (h:A1 z l k w m {x with rt:=some {r with st:=0,nx:=3}})=>(⟨h.cell 14 _ rfl,h.fz,(h).set 14 ↑r.fm {x with rt:=some {r with st:=0,nx:=3},er:=r.fm} ⟨rfl,rfl,rfl,rfl,rfl⟩ (λ_ _ _ _ _ _=>rfl)⟩:w.cell? ⟨z.wq k,14,none⟩=some ↑x.er/\(∀j,w.frozen? ⟨z.wq k,j,none⟩=false)/\A1 z l k (w.setCell ⟨z.wq k,14,none⟩ ↑r.fm) m {x with rt:=some {r with st:=0,nx:=3},er:=r.fm}));have E2:=Hd (λw (h:A1 z l k w m {x with rt:=some {r with st:=0,nx:=3},er:=r.fm})=>(⟨h.frame i hi 11 U0 _ U35,h.frame i hi 7 U0 _ rfl,h.frame i hi 14 U0 _ rfl,h.cell 12 _ rfl,h.oN,h.lt⟩:w.cell? ⟨z.fr,19*i+11,none⟩=some ↑p/\w.cell? ⟨z.fr,19*i+7,none⟩=some (.int .i64 (m.fr i).rg.r4)/\w.cell? ⟨z.fr,19*i+14,none⟩=some (.int .i64 (m.fr i).index)/\w.cell? ⟨z.wq k,12,none⟩=some (.bool x.eh)/\(¬z.wq k=z.fr/\¬z.fr=z.wq k)/\z.wq k<w.heap.size));have c3:=Hd (λw (h:A1 z l k w m {x with rt:=some {r with st:=0,nx:=3},er:=r.fm})=>h.aT i hi hx)
 have c4:=Hd (λw (h:A1 z l k w m {x with rt:=some {r with st:=0,nx:=3},er:=r.fm})=>h.fE p hp);have c5:=Hd (λw=>yI m.pl.wk m.pl.fr m.pl.th m.pl.dq p (m.fr p).ae (m.fr i).index (!x.eh) w);have KN:=Hd (λ(W w3:World) (H:A1 z l k W m {x with rt:=some {r with st:=0,nx:=3},er:=r.fm}) (b1:Below W.heap.size W w3) (b:Nat) (hb) (hO)=>((H.Ox (w:=w3) b1 b hb (⟨m.pl,p,(m.fr p).ae,(m.fr i).index,0,false,false⟩, !x.eh) hO).set 1 (.int .i64 15) {x with rt:=some {r with st:=0,nx:=3},er:=r.fm,wk:=some (⟨m.pl,p,(m.fr p).ae,(m.fr i).index,0,false,false⟩, !x.eh),R8:=15} ⟨rfl,rfl,rfl,rfl,rfl⟩ (λ_ _ _ _ _ _=>rfl)));have F1:=Hd (λw (h:A1 z l k w m {x with rt:=some {r with st:=0,nx:=3},er:=r.fm})=>(⟨h.P5,h.cell 1 _ rfl,h.fz⟩:(∃v,w.cell? ⟨z.wq k,18,none⟩=some v)/\w.cell? ⟨z.wq k,1,none⟩=some ↑x.R8/\(∀j,w.frozen? ⟨z.wq k,j,none⟩=false)));unfold fZ at c4;generalize(m.fr i).index=ix at*;generalize(m.fr p).ae=sr at*;generalize(m.fr i).rg.r4=r4 at*;have H0:=Hd h;clear h hx hr h0 hs hpl hgt hgy hpa hix;go_enter func104,ntmps104;go_upto_region 0 with fail
 go_region_held3 (λw'=>w'.cell? ⟨z.wq k,16,none⟩=some (ptr b))
  (exact U161)
  (first|(go_at_call 93;refine(c0.o _ U4).r ?_)|(go_at_call 164;refine(c1.o _ U4 U19).mono ?_;rintro ev w2 ⟨rfl,HC,y16⟩))
 all_goals
  replace y16:=(by first|exact y16|exact kd y16:World.cell? _ ⟨z.wq k,16,none⟩=some (ptr b))
  go_upto_region 9 with(first|(go_at_call 165;refine(c2.o _ U5 y16).q λw3 hb3=> ?_;replace HC:=(by first|exact HC.ai hb3|exact HC.drew.ai hb3:A1 z l k w3 m {x with rt:=some {r with st:=0,nx:=3}});have y11:=GY.out _ HC;obtain⟨y14,z3,HC⟩:=E1.out _ HC)|(go_at_call 139;refine(c3.o _ U5).r ?_))
  generalize w3.setCell ⟨z.wq k,14,none⟩ ↑r.fm=W at*;clear y11 y14 z3 y16 hb3 hb;obtain⟨ya,yr,yi,yh,nfq,lq⟩:=E2.out _ HC;have lf:z.fr<W.heap.size:=bL W _ ya;generalize 19*i=I at*
  go_region_held3 (λw'=>w'.cell? ⟨z.fr,I+11,none⟩=some ↑p/\w'.cell? ⟨z.fr,I+7,none⟩=some ↑r4/\w'.cell? ⟨z.fr,I+14,none⟩=some ↑ix/\w'.cell? ⟨z.wq k,12,none⟩=some (.bool x.eh))
   (((try dsimp only);(try go_split_ands);(repeat' apply And.intro)<;>(repeat(first|(with_reducible assumption)|(with_reducible refine kc ?_)|(with_reducible refine kd ?_)|(refine kb U3 U6 ?_)|(refine kk U3 U6 U6 ?_)|(refine(World.cell?_setCell_other _ _ _ _ U8).trans ?_)|(refine(World.cell?_setCell_far _ _ _ _ (show z.wq k≠z.fr from nfq.1)).trans ?_)))))
   (first|(go_at_call 156;refine(c4.o _ U5).q λw6 hb6=> ?_;have lf6:=nL lf hb6.size;have lq6:=nL lq hb6.size;have B6:=(by first|exact hb6|exact(Below.refl _ W).drew.trans hb6|exact(Below.refl _ W).drew.drew.trans hb6:Below W.heap.size W w6))|(go_at_call 167;refine(c5.o _).mono ?_;rintro ev w7 ⟨b',rfl,hO,hbn,hb7⟩;have B7:=(by first|exact B6.trans (hb7.mono B6.size)|exact B6.drew.trans (hb7.mono B6.size):Below W.heap.size W w7);obtain⟨⟨v18,y18⟩,y1,z7⟩:=F1.out _ (HC.ai B7);have lf7:=nL lf6 hb7.size;have lq7:=nL lq6 hb7.size))
  all_goals
   have Q:=KN.out W w7 HC B7 b' (nT B6.size hbn) hO;go_wp2_with fail
   (try simp only[Exit.inBlock,Exit.then]);refine bodyPost_ret (results_none rfl _ _ _) rfl ?_
   exact⟨rfl,by first|exact Q|exact Q.drew⟩
theorem A1.CS(h:A1 z l k w m x):A1 z l k (w.setCell ⟨z.wq k,6,none⟩ (mv 159 (z.wq k))) m {x with thn:=some .aL}:=by
 obtain⟨bk,ov,gv,g,R,hk,W,C⟩:=h.parts;obtain⟨dv,tv,rv,pv,kv,nv,hb,h1,h2,h3,h4,h5⟩:=W;have K:=Kept.one w (z.wq k) 6 (mv 159 (z.wq k));have nq:∀b,(z.y bk ov gv).has b->¬One (z.wq k) b:=λb q e=>(R.oB k hk (z.wq k) (Or.inl rfl)).2.2 (e▸q);have sh:Shut w (w.setCell ⟨z.wq k,6,none⟩ (mv 159 (z.wq k))):=Shut.kept K (λb e=>⟨_,_,(show b=z.wq k from e)▸hb,by decide,by decide⟩);have lt:∀b,(g k).has x b->b<w.heap.size:=λb q=>(R.oB k hk b (Or.inr U31)).2.1;have ny:∀b,(b=z.wq k∨(g k).has x b)->¬(z.y bk ov gv).has b:=λb q=>(R.oB k hk b U31).2.2;have hh:∀b,(g k).has {x with thn:=some .aL} b->(g k).has x b:=λb q=>by
  rcases q with q|q|q|q|⟨⟨i,q⟩,_⟩
  ·exact Or.inl q
  ·exact Or.inr (Or.inl q)
  ·exact Or.inr (Or.inr (Or.inl q))
  ·exact Or.inr (Or.inr (Or.inr (Or.inl q)))
  ·cases q
 have W1:rW (w.setCell ⟨z.wq k,6,none⟩ (mv 159 (z.wq k))) (z.wq k) (g k) {x with thn:=some .aL}:=by
  refine⟨dv,_,rv,pv,kv,nv,hb.set 6 _,λr q=>?_,λt q=>?_,λr q=>⟨(h3 r q).1,(h3 r q).2.far ((h3 r q).2.ne hb U0) _⟩,λr q=>⟨(h4 r q).1,(h4 r q).2.far ((h4 r q).2.ne hb U0) _⟩,λr q=>⟨(h5 r q).1,(h5 r q).2.far ((h5 r q).2.ne hb U0) _⟩⟩
  ·obtain⟨e1,u,hv,hn⟩:=h1 r q
   exact⟨e1,u,hv.far (hv.ne hb U0) _,hn.shut sh⟩
  ·cases q
   rfl
 exact A1.turn h.1 R K sh (λb q=>Or.inr (Or.inl q)) m bk ov gv (C.kept K nq) (λb q=>Or.inl q) _ (g k) W1 (λb q=>Or.inl (hh b q)) (λb q=>by rw[World.size_setCell];exact lt b (hh b q)) (λb q=>ny b (q.imp id (hh b)))
abbrev mP(bv bt:Nat):Value:=.func (.func 155) #[] #[ptr bv,ptr bt]
theorem A1.Lc{z:Lay}{l:List WS}{k:Nat}{w0 w3 w4:World}{m:Co}{x:WS}(h:A1 z l k w0 m x)(L:List Int)(K3:Kept (One z.wd) w0 w3)(s3:aD w3 z.ws z.wd L)(hL:L.length=m.RY.length)(B4:Below w3.heap.size w3 w4)(b bv bt:Nat)
  (hb:w3.heap.size<=b) (hbv:w0.heap.size<=bv) (hbt:w0.heap.size<=bt) (r:DW) (hO:dw w4 b r) (i:Int) (e1:af w4 bv #[ptr (z.wq k)] 65) (e2:af w4 bt #[i] 3):
  A1 z l k (((w4.setCell ⟨z.wq k,5,none⟩ (ptr b)).setCell ⟨z.wq k,6,none⟩ (mP bv bt)).setCell ⟨z.wq k,1,none⟩ (.int .i64 3)) {m with RY:=L} {x with dq:=some r,thn:=some (.runs i),R8:=3}:=by
 obtain⟨bk,ov,gv,g,R,hk,W,C⟩:=h.parts;obtain⟨dv,tv,rv,pv,kv,nv,hq,h1,h2,h3,h4,h5⟩:=W;have nqd:z.wq k≠z.wd:=hq.ne C.RY.ws U0;have K04:Kept (One z.wd) w0 w4:=K3.trans (Kept.ob B4);have q4:af w4 (z.wq k) (x.arr dv tv rv pv kv nv) 131 :=K04.blk hq nqd;have KF:Kept (One (z.wq k)) w4 (((w4.setCell ⟨z.wq k,5,none⟩ (ptr b)).setCell ⟨z.wq k,6,none⟩ (mP bv bt)).setCell ⟨z.wq k,1,none⟩ (.int .i64 3)):=
  ((Kept.one _ _ _ _).trans (Kept.one _ _ _ _)).trans (Kept.one _ _ _ _)
 have nq:∀b,(z.y bk ov gv).has b->¬One (z.wq k) b:=λb q e=>(R.oB k hk (z.wq k) (Or.inl rfl)).2.2 (e▸q);have C4:bI w4 (z.y bk ov gv) {m with RY:=L}:=(C.aC K3 (λk q=>Or.inl q) L s3 hL).ai B4;have s1:Shut w0 w3:=C.shut K3 (λb q=>by have q':b=z.wd:=q;subst q';simp[Ly.has,Lay.y]);have s4:Shut w4 (((w4.setCell ⟨z.wq k,5,none⟩ (ptr b)).setCell ⟨z.wq k,6,none⟩ (mP bv bt)).setCell ⟨z.wq k,1,none⟩ (.int .i64 3)):=Shut.kept KF (λb e=>⟨_,_,(show b=z.wq k from e)▸q4,by decide,by decide⟩);have KK:Kept (λb=>b=z.wd∨b=z.wq k) w0 (((w4.setCell ⟨z.wq k,5,none⟩ (ptr b)).setCell ⟨z.wq k,6,none⟩ (mP bv bt)).setCell ⟨z.wq k,1,none⟩ (.int .i64 3)):=(K04.mono (λb q=>Or.inl q)).trans (KF.mono (λb q=>Or.inr q));have lt:∀b,(g k).has x b->b<w0.heap.size:=λb q=>(R.oB k hk b (Or.inr U31)).2.1;have ny:∀b,(b=z.wq k∨(g k).has x b)->¬(z.y bk ov gv).has b:=λb q=>(R.oB k hk b U31).2.2;have sz:=K3.size;have nd:∀b,(g k).has x b->¬One z.wd b:=λb q e=>ny b (Or.inr q) (by have q':b=z.wd:=e;subst q';simp[Ly.has,Lay.y]);have nw:∀{b':Nat} {cs:Array Value} {t:TypeId},af w4 b' cs t->t≠ 131 ->¬One (z.wq k) b':=λhb' ht e=>hb'.ne q4 ht e;have hh:∀b',Gw.has ⟨b,(g k).br,(g k).bw,(g k).bn,bv,bt⟩ {x with dq:=some r,thn:=some (.runs i),R8:=3} b'->(g k).has x b'∨b'=b∨b'=bv∨b'=bt:=λb' q=>by
  rcases q with⟨q1,q2⟩|⟨q1,q2⟩|⟨q1,q2⟩|⟨q1,q2⟩|⟨_,q⟩
  ·exact Or.inr (Or.inl q2)
  ·exact U142
  ·exact U136
  ·exact U126
  ·exact Or.inr (Or.inr q)
 have W1:rW (((w4.setCell ⟨z.wq k,5,none⟩ (ptr b)).setCell ⟨z.wq k,6,none⟩ (mP bv bt)).setCell ⟨z.wq k,1,none⟩ (.int .i64 3)) (z.wq k) ⟨b,(g k).br,(g k).bw,(g k).bn,bv,bt⟩ {x with dq:=some r,thn:=some (.runs i),R8:=3}:=by
  refine⟨ptr b,mP bv bt,rv,pv,kv,nv,((q4.set 5 (ptr b)).set 6 (mP bv bt)).set 1 (.int .i64 3),λr' q=>?_,λt q=>?_,λr q=>⟨(h3 r q).1,?_⟩,λr q=>⟨(h4 r q).1,?_⟩,λr q=>⟨(h5 r q).1,?_⟩⟩
  ·cases q
   obtain⟨u,hv,hn⟩:=hO
   exact⟨rfl,u,KF.blk hv (nw hv U0),hn.shut s4⟩
  ·cases q
   exact⟨rfl,KF.blk e1 (nw e1 U0),KF.blk e2 (nw e2 U0)⟩
  ·have q':=K04.blk (h3 r q).2 (nd _ (Or.inr (Or.inl ⟨dF q,rfl⟩)))
   exact KF.blk q' (nw q' U0)
  ·have q':=K04.blk (h4 r q).2 (nd _ (Or.inr (Or.inr (Or.inl ⟨dF q,rfl⟩))))
   exact KF.blk q' (nw q' U0)
  ·have q':=K04.blk (h5 r q).2 (nd _ (Or.inr (Or.inr (Or.inr (Or.inl ⟨dF q,rfl⟩)))))
   exact KF.blk q' (nw q' U0)
 refine A1.turn h.1 R KK ((s1.trans (Shut.ai B4)).trans s4) (λb q=>?_) {m with RY:=L} bk ov gv (C4.kept KF nq) (λb q=>Or.inl q) _ _ W1 (λb' q=>(hh b' q).imp id (λe=>?_)) (λb' q=>?_) (λb' q=>?_)
 ·rcases q with q|q
  ·subst q;exact Or.inl (by simp[Ly.has,Lay.y])
  ·exact Or.inr (Or.inl q)
 ·rcases e with e|e|e<;>subst e
  ·omega
  ·exact hbv
  ·exact hbt
 ·simp only[World.size_setCell]
  rcases hh b' q with q|q|q|q
  ·exact nL (lt b' q) K04.size
  ·subst q;exact hO.lt
  ·subst q;exact e1.lt
  ·subst q;exact e2.lt
 ·rcases q with q|q
  ·exact U154
  ·rcases hh b' q with q|q|q|q
   ·exact U153
   all_goals
    subst q;intro z1
    have:=C.lt z1
    omega
theorem Us12 {p:Prop} (h:p:=by
 go_upto_region 0 with fail
 go_region_held3 (λw'=>w'.cell? ⟨z.wq k,5,none⟩=some (ptr b))
  (exact U161)
  (first|(go_at_call 93;refine(c0.o _ U4).mono ?_;rintro ev w0 ⟨rfl,rfl⟩)|(go_at_call 92;refine(c1.o _ U4 U19).mono ?_;rintro ev w2 ⟨rfl,HC,y5⟩))
 all_goals
  go_wp2_with fail
  (try simp only[Exit.inBlock,Exit.then]);refine bodyPost_ret (results_none rfl _ _ _) rfl ?_
  exact⟨rfl,U5⟩):p:=h
theorem A1.Ra(h:A1 z l k w m x):∃v,w.cell? ⟨z.wq k,6,none⟩=some v:=by
 obtain⟨bk,ov,gv,g,R,hk,⟨dv,tv,rv,pv,kv,nv,hb,_⟩,C⟩:=h.parts
 exact⟨_,hb.cell 6⟩
theorem A1.oH(h:A1 z l k w m x)(id:Int)(fn:Fn)(A B:Array Value):Cs 154 #[ptr (z.wq k),ptr z.c,id,.func fn A B] w (.tuple #[]) λw'=>∃w4 b,Below w.heap.size w w4/\w.heap.size<=b/\dw w4 b (DW.push m.pl x.Sq x.tail id)/\w'=(((w4.setCell ⟨z.wq k,5,none⟩ (ptr b)).setCell ⟨z.wq k,6,none⟩ (.func fn A B)).setCell ⟨z.wq k,1,none⟩ (.int .i64 3)):=by
 have x0:w.cell? ⟨z.wq k,0,none⟩=some ↑x.Sq:=h.cell 0 _ rfl;have x3:w.cell? ⟨z.wq k,3,none⟩=some ↑x.tail:=h.cell 3 _ rfl;have l0:=h.lt;have c1:=Hd (λw (h:A1 z l k w m x)=>h.fP);have c2:=Hd (λw=>BI m.pl.wk m.pl.fr m.pl.th m.pl.dq x.Sq x.tail id w);have H0:=Hd h;unfold Pl.v at c1;go_enter func154,ntmps154;go_upto_region 0 with fail
 go_region_held3 (λw'=>w'.cell? ⟨z.wq k,0,none⟩=some ↑x.Sq/\w'.cell? ⟨z.wq k,3,none⟩=some ↑x.tail)
  (exact U159)
  (first|(go_at_call 91;refine(c1.o _ U4).mono ?_;rintro ev w1 ⟨rfl,Sr⟩;have l1:=nL l0 Sr.size)|(go_at_call 225;refine(c2.o _).mono ?_;rintro ev w2 ⟨b,rfl,hO,hbn,hb2⟩;have l2:=nL l1 hb2.size;have B1:=(by first|exact Sr|exact(Below.refl _ w).drew.trans Sr|exact(Below.refl _ w).drew.drew.trans Sr:Below w.heap.size w w1);have B2:=(by first|exact B1.trans (hb2.mono B1.size)|exact B1.drew.trans (hb2.mono B1.size):Below w.heap.size w w2);have z2:=(H0.o.ai B2).fz;have y5:=(H0.o.ai B2).Na;obtain⟨v5,y5⟩:=y5;have y6:=(H0.o.ai B2).Ra;obtain⟨v6,y6⟩:=y6;have y1:=(H0.o.ai B2).cell 1 _ rfl))
 all_goals
  go_wp2_with fail
  go_end0
  exact⟨rfl,w2,b,B2,nT B1.size hbn,hO,rfl⟩
theorem A1.tY(h:A1 z l k w m x)(id:Int):Cs 154 #[ptr (z.wq k),ptr z.c,id,mv 159 (z.wq k)] w (.tuple #[]) λw'=>A1 z l k w' m {x with dq:=some (DW.push m.pl x.Sq x.tail id),thn:=some .aL,R8:=3}:=by
 refine(h.oH id _ _ _).mono ?_;rintro ev w' ⟨rfl,w4,b,hB,hb,hO,rfl⟩
 exact⟨rfl,((h.yJ hB b hb _ hO).CS).set 1 (.int .i64 3) {x with dq:=some (DW.push m.pl x.Sq x.tail id),thn:=some .aL,R8:=3} ⟨rfl,rfl,rfl,rfl,rfl⟩ (λ_ _ _ _ _ _=>rfl)⟩
theorem KT(w:World)(c:Value)(q bv bt:Nat)(i:Int){R:Ending->World->Prop}(e1:af w bv #[ptr q] 65)(e2:af w bt #[i] 3)(hc:Calls prog 88 #[ptr q,i] w λev w'=>ev=.returned (.tuple #[])/\R ev w'):Cs 155 #[c,ptr bv,ptr bt] w (.tuple #[]) λw'=>R (.returned (.tuple #[])) w':=by
 have y1:=e1.c0;have y2:=e2.c0;have c1:=Hd hc;clear hc e1 e2;go_enter func155,ntmps155
 go_wp2_with (go_at_call 88;refine c1.o.mono ?_;rintro ev w1 ⟨rfl,H⟩)
 go_end0
 exact⟨rfl,H⟩
theorem A1.Dc(h:A1 z l k w m x)(ht:x.thn=some .aL):w.cell? ⟨z.wq k,6,none⟩=some (mv 159 (z.wq k)):=by
 obtain⟨bk,ov,gv,g,R,hk,⟨dv,tv,rv,pv,kv,nv,hb,h1,h2,h3,h4,h5⟩,C⟩:=h.parts
 have:=h2 _ ht
 exact(hb.cell 6).trans (congrArg some this)
theorem A1.Hw(h:A1 z l k w m x)(i:Int)(ht:x.thn=some (.runs i)):∃bv bt,w.cell? ⟨z.wq k,6,none⟩=some (mP bv bt)/\af w bv #[ptr (z.wq k)] 65 /\af w bt #[i] 3 :=by
 obtain⟨bk,ov,gv,g,R,hk,⟨dv,tv,rv,pv,kv,nv,hb,h1,h2,h3,h4,h5⟩,C⟩:=h.parts;obtain⟨e1,e2,e3⟩:=h2 _ ht
 exact⟨_,_,(hb.cell 6).trans (congrArg some e1),e2,e3⟩
theorem A1.LP(h:A1 z l k w m x)(i:Nat)(hi:m.ok i)(hx:x.Sa=i):Cs 99 #[ptr (z.wq k),ptr z.c] w (.tuple #[]) λw'=>A1 z l k w' (m.spawn i) {x with dq:=some (DW.push m.pl x.Sq x.tail i),thn:=some (.runs x.other),R8:=3}:=by
 have bg:=af.new w #[ptr (z.wq k)] 65 _ rfl;have h1:=h.alloc (.cells #[ptr (z.wq k)] 65);have BW:Below w.heap.size w (w.alloc (.cells #[ptr (z.wq k)] 65)):=Ba _;have c1:=Hd (λw (h:A1 z l k w m x)=>h.fP);have c2:=Hd (λw=>bX m.pl h.bQ i w);have c3:=Hd (λw hS=>sZ w z.ws z.wd m.RY (m.pl.fN i) (jC _ h.bQ i m.RY h.bU) hS);have c4:=Hd (λw (h:A1 z l k w m x)=>h.aN);have c5:=Hd (λw (h:A1 z l k w (m.spawn i) x) fn A B=>h.oH i fn A B);have TW:=Hd (λ(w w3:World) (h:A1 z l k w m x) s3 (K:Kept (One z.wd) w w3)=>(show A1 z l k w3 (m.spawn i) x from h.aC (m.RY.set (m.pl.fN i) (wrap64 (m.RY.getD (m.pl.fN i) 0+1))) s3 U8 K));have FIN:=Hd (λ(w3 w4:World) (K3:Kept (One z.wd) w w3) s3 (B4:Below w3.heap.size w3 w4) (b bv bt:Nat) hb hbv hbt (hO:dw w4 b (DW.push m.pl x.Sq x.tail i)) e1 e2=>(show A1 z l k (((w4.setCell ⟨z.wq k,5,none⟩ (ptr b)).setCell ⟨z.wq k,6,none⟩ (mP bv bt)).setCell ⟨z.wq k,1,none⟩ (.int .i64 3)) (m.spawn i) {x with dq:=some (DW.push m.pl x.Sq x.tail i),thn:=some (.runs x.other),R8:=3}from h.Lc (m.RY.set (m.pl.fN i) (wrap64 (m.RY.getD (m.pl.fN i) 0+1))) K3 s3 U8 B4 b bv bt hb hbv hbt _ hO x.other e1 e2));have G:=Hd (λw (h:A1 z l k w (m.spawn i) x)=>(⟨h.cell 2 _ U21,h.cell 7 _ rfl⟩:w.cell? ⟨z.wq k,2,none⟩=some ↑i/\w.cell? ⟨z.wq k,7,none⟩=some ↑x.other));have xc:(w.alloc (.cells #[ptr (z.wq k)] 65)).cell? ⟨z.wq k,2,none⟩=some ↑i:=h1.cell 2 _ U21;have rM:¬One z.wd w.heap.size:=λe=>by have:=h.RY.ws.lt;have e':w.heap.size=z.wd:=e;omega
 have nqd:¬One z.wd (z.wq k):=h.sep.1;have nqb:¬(z.wq k=w.heap.size):=by have:=h.lt;omega
 rw[show(m.spawn i).pl=m.pl from rfl]at c5;generalize m.spawn i=M at*;have H0:=Hd h1;have l0:=h1.lt;have lb0:=bg.lt;have xb:(w.alloc (.cells #[ptr (z.wq k)] 65)).cell? ⟨w.heap.size,0,none⟩=some (ptr (z.wq k)):=bg.cell 0;clear h h1 hx hi;unfold Pl.v at c1;go_enter func99,ntmps99;go_upto_region 1 with fail;generalize w.alloc (.cells #[ptr (z.wq k)] 65)=W at*;generalize hbv:w.heap.size=bv at*
 go_region_held3 (λw'=>w'.cell? ⟨z.wq k,2,none⟩=some ↑i/\w'.cell? ⟨bv,0,none⟩=some (ptr (z.wq k)))
  (exact U159)
  (first|(go_at_call 93;refine(c4.o _ U16).mono ?_;rintro ev w0 ⟨rfl,rfl⟩)|(go_at_call 91;refine(c1.o _ U4).mono ?_;rintro ev w1 ⟨rfl,Sr⟩;have l1:=nL l0 Sr.size;have lb1:=nL lb0 Sr.size)|(go_at_call 129;refine(c2.o _).mono ?_;rintro ev w2 ⟨rfl,hb2⟩;have l2:=nL l1 hb2.size;have lb2:=nL lb1 hb2.size;have B1:=(by first|exact Sr|exact(Below.refl _ W).drew.trans Sr|exact(Below.refl _ W).drew.drew.trans Sr:Below W.heap.size W w1);have B2:=(by first|exact B1.trans (hb2.mono B1.size)|exact B1.drew.trans (hb2.mono B1.size):Below W.heap.size W w2))|(go_at_call 153;refine(c3.o _ U29).mono ?_;rintro ev w3 ⟨rfl,s3,k3⟩;have l3:=nL l2 k3.size;have lb3:=nL lb2 k3.size))
 all_goals
  have K3:Kept (One z.wd) W w3:=by first|exact(Kept.ob B2).trans k3|exact(Kept.ob B2).drew.trans k3
  have K30:Kept (One z.wd) w w3:=(Kept.ob (by rw[hbv];exact BW)).trans K3;have HC:=TW.out W w3 H0.o s3 K3;have g3:af w3 bv #[ptr (z.wq k)] 65 :=K3.blk bg rM;obtain⟨y2,y7⟩:=G.out _ HC;have yb:=g3.c0;clear xc xb bg K3 k3;go_upto_region 3 with fail;have e2:=af.new w3 #[x.other] 3 _ rfl;have e1:=g3.alloc (.cells #[x.other] 3);have B4:Below w3.heap.size w3 (w3.alloc (.cells #[x.other] 3)):=Ba _;replace HC:=HC.ai B4;have yb4:=kc (o:=.cells #[x.other] 3) yb;have y24:=kc (o:=.cells #[x.other] 3) y2;clear y2 yb y7 TW;have l4:=HC.lt;have lb4:=e1.lt;have hge:w.heap.size<=w3.heap.size:=K30.size;generalize w3.alloc (.cells #[x.other] 3)=W4 at*;generalize hbt:w3.heap.size=bt at*
  go_region_held3 (λw'=>w'.cell? ⟨bv,0,none⟩=some (ptr (z.wq k))/\w'.cell? ⟨z.wq k,2,none⟩=some ↑i)
   (((try dsimp only);(try go_split_ands);(repeat' apply And.intro)<;>(repeat(first|(with_reducible assumption)|(with_reducible refine kc ?_)|(with_reducible refine kd ?_)|(refine kb U3 U6 ?_)|(refine(World.cell?_setCell_far _ _ _ _ (show z.wq k≠bv from nqb)).trans ?_)|(refine(World.cell?_setCell_other _ _ _ _ U8).trans ?_)))))
   (first|(go_at_call 154;refine(c5.o _ U15 _ _ _).mono ?_;rintro ev w7 ⟨rfl,w6,b,B6,hb6,hO,rfl⟩;have l6:=nL l4 B6.size;have lb6:=nL lb4 B6.size))
  all_goals
   have B5:Below W4.heap.size W4 w6:=by first|exact B6|exact(Below.refl _ _).drew.trans B6
   have B7:Below w3.heap.size w3 w6:=(by rw[hbt];exact B4.trans (B5.mono (by rw[<-hbt]at B4⊢;exact B4.size)));have Q:=FIN.out w3 w6 K30 s3 B7 b bv bt (by rw[hbt];exact nT (by rw[<-hbt]at B4⊢;exact B4.size) hb6) U2 U2 hO (e1.below B5 e1.lt) (e2.below B5 e2.lt);go_wp2_with fail
   go_end0
   exact⟨rfl,Q⟩
theorem A1.Dl(h:A1 z l k w m x)(r:DW)(hr:x.dq=some r)(hp:r.p=m.pl)(hs:r.safe m.RY)(he:(r.step m.RY).1.nx.ends=false):Cs 95 #[ptr (z.wq k),ptr z.c] w (.tuple #[]) λw'=>A1 z l k w' ({m with RY:=(r.step m.RY).2}) ({x with dq:=some (r.step m.RY).1}):=by
 obtain⟨b,hb⟩:=h.iH _ hr;have c0:=Hd (λw (h:A1 z l k w m x)=>h.aN);have c1:=Hd (λw (h:A1 z l k w m x) hc=>h.gP r hr hp hs b hc);rw[he]at c1;clear he;have H0:=Hd h;clear h hr hp hs;go_enter func95,ntmps95
 exact Us12
theorem A1.xC(h:A1 z l k w m x)(r:DW)(hr:x.dq=some r)(hp:r.p=m.pl)(hs:r.safe m.RY)(he:(r.step m.RY).1.nx.ends=false):Cs 94 #[ptr (z.wq k),ptr z.c] w (.tuple #[]) λw'=>A1 z l k w' ({m with RY:=(r.step m.RY).2}) ({x with dq:=some (r.step m.RY).1}):=by
 obtain⟨b,hb⟩:=h.iH _ hr;have c0:=Hd (λw (h:A1 z l k w m x)=>h.aN);have c1:=Hd (λw (h:A1 z l k w m x) hc=>h.gP r hr hp hs b hc);rw[he]at c1;clear he;have H0:=Hd h;clear h hr hp hs;go_enter func94,ntmps94
 exact Us12
theorem A1.zD(h:A1 z l k w m x)(r:DW)(hr:x.dq=some r)(hp:r.p=m.pl)(hs:r.safe m.RY)(he:(r.step m.RY).1.nx.ends=false):Cs 96 #[ptr (z.wq k),ptr z.c] w (.tuple #[]) λw'=>A1 z l k w' ({m with RY:=(r.step m.RY).2}) ({x with dq:=some (r.step m.RY).1}):=by
 obtain⟨b,hb⟩:=h.iH _ hr;have c0:=Hd (λw (h:A1 z l k w m x)=>h.aN);have c1:=Hd (λw (h:A1 z l k w m x) hc=>h.gP r hr hp hs b hc);rw[he]at c1;clear he;have H0:=Hd h;clear h hr hp hs;go_enter func96,ntmps96
 exact Us12
theorem A1.Dm(h:A1 z l k w m x)(r:DW)(hr:x.dq=some r)(hp:r.p=m.pl)(hs:r.safe m.RY)(he:(r.step m.RY).1.nx.ends=true)(hg:(r.step m.RY).1.Sl=false):Cs 95 #[ptr (z.wq k),ptr z.c] w (.tuple #[]) λw'=>A1 z l k w' ({m with RY:=(r.step m.RY).2}) ({x with dq:=some (r.step m.RY).1,tail:=(r.step m.RY).1.t,R8:=0}):=by
 obtain⟨b,hb⟩:=h.iH _ hr;have c0:=Hd (λw (h:A1 z l k w m x)=>h.aN);have c1:=Hd (λw (h:A1 z l k w m x) hc=>h.gP r hr hp hs b hc);rw[he]at c1;have c2:=Hd (λw (h:A1 z l k w ({m with RY:=(r.step m.RY).2}) ({x with dq:=some (r.step m.RY).1})) hc=>h.qm _ rfl b hc);have c3:=Hd (λw (h:A1 z l k w ({m with RY:=(r.step m.RY).2}) ({x with dq:=some (r.step m.RY).1,tail:=(r.step m.RY).1.t})) hc=>(by have q:=h.zS _ rfl he b hc;rw[hg]at q;simp only[Bool.false_eq_true,if_false]at q;exact q:Cs 134 #[ptr b] w (.tuple #[(0:Int),.bool false]) λw'=>w=w'));have ES:=Hd (λw (h:A1 z l k w ({m with RY:=(r.step m.RY).2}) ({x with dq:=some (r.step m.RY).1}))=>(⟨h.cell 3 _ rfl,h.fz,(h).set 3 (.int .i64 (r.step m.RY).1.t) {x with dq:=some (r.step m.RY).1,tail:=(r.step m.RY).1.t} ⟨rfl,rfl,rfl,rfl,rfl⟩ (λ_ _ _ _ _ _=>rfl)⟩:w.cell? ⟨z.wq k,3,none⟩=some ↑x.tail/\(∀j,w.frozen? ⟨z.wq k,j,none⟩=false)/\A1 z l k (w.setCell ⟨z.wq k,3,none⟩ (.int .i64 (r.step m.RY).1.t)) ({m with RY:=(r.step m.RY).2}) ({x with dq:=some (r.step m.RY).1,tail:=(r.step m.RY).1.t})));have SK:=Hd (λw (h:A1 z l k w ({m with RY:=(r.step m.RY).2}) ({x with dq:=some (r.step m.RY).1,tail:=(r.step m.RY).1.t}))=>(⟨h.cell 1 _ rfl,h.fz,(h).set 1 (.int .i64 0) {x with dq:=some (r.step m.RY).1,tail:=(r.step m.RY).1.t,R8:=0} ⟨rfl,rfl,rfl,rfl,rfl⟩ (λ_ _ _ _ _ _=>rfl)⟩:w.cell? ⟨z.wq k,1,none⟩=some ↑x.R8/\(∀j,w.frozen? ⟨z.wq k,j,none⟩=false)/\A1 z l k (w.setCell ⟨z.wq k,1,none⟩ (.int .i64 0)) ({m with RY:=(r.step m.RY).2}) ({x with dq:=some (r.step m.RY).1,tail:=(r.step m.RY).1.t,R8:=0})))
 clear he hg;have H0:=Hd h;clear h hr hp hs;go_enter func95,ntmps95;go_upto_region 0 with fail
 go_region_held3 (λw'=>w'.cell? ⟨z.wq k,5,none⟩=some (ptr b))
  (exact U161)
  (first|(go_at_call 93;refine(c0.o _ U4).mono ?_;rintro ev w0 ⟨rfl,rfl⟩)|(go_at_call 92;refine(c1.o _ U4 U19).mono ?_;rintro ev w2 ⟨rfl,HC,y5⟩))
 all_goals
  replace HC:=U15;replace y5:=U23;obtain⟨y3,z3,HD⟩:=ES.out _ HC
  go_upto_region 2 with(go_at_call 136;refine(c2.o _ U5 U23).mono ?_;rintro ev w3 ⟨rfl,rfl⟩)
  have HC:=HD;replace y5:=(World.cell?_setCell_other _ ⟨z.wq k,3,none⟩ ⟨z.wq k,5,none⟩ (.int .i64 (r.step m.RY).1.t) U8).trans y5;clear HD y3 z3;obtain⟨y1,z1,HF⟩:=SK.out _ HC
  go_wp2_with (go_at_call 134;refine(c3.o _ U5 U23).mono ?_;rintro ev w4 ⟨rfl,rfl⟩)
  (try simp only[Exit.inBlock,Exit.then]);refine bodyPost_ret (results_none rfl _ _ _) rfl ?_
  exact⟨rfl,HF⟩
theorem A1.Iw(h:A1 z l k w m x)(r:DW)(hr:x.dq=some r)(hp:r.p=m.pl)(hs:r.safe m.RY)(he:(r.step m.RY).1.nx.ends=true)(hg:(r.step m.RY).1.Sl=true)(i:Nat)(hi:m.ok i)(hi2:(r.step m.RY).1.x=i):Cs 95 #[ptr (z.wq k),ptr z.c] w (.tuple #[]) λw'=>A1 z l k w' ({m with RY:=(r.step m.RY).2}) (({x with dq:=some (r.step m.RY).1,tail:=(r.step m.RY).1.t}).takes i (m.fr i).kind):=by
 obtain⟨b,hb⟩:=h.iH _ hr;have c0:=Hd (λw (h:A1 z l k w m x)=>h.aN);have c1:=Hd (λw (h:A1 z l k w m x) hc=>h.gP r hr hp hs b hc);rw[he]at c1;have c2:=Hd (λw (h:A1 z l k w ({m with RY:=(r.step m.RY).2}) ({x with dq:=some (r.step m.RY).1})) hc=>h.qm _ rfl b hc);have c3:=Hd (λw (h:A1 z l k w ({m with RY:=(r.step m.RY).2}) ({x with dq:=some (r.step m.RY).1,tail:=(r.step m.RY).1.t})) hc=>(by have q:=h.zS _ rfl he b hc;rw[hg]at q;simp only[if_true]at q;rw[show((r.step m.RY).1).x=(i:Int)from hi2]at q;exact q:Cs 134 #[ptr b] w (.tuple #[i,.bool true]) λw'=>w=w'));have ES:=Hd (λw (h:A1 z l k w ({m with RY:=(r.step m.RY).2}) ({x with dq:=some (r.step m.RY).1}))=>(⟨h.cell 3 _ rfl,h.fz,(h).set 3 (.int .i64 (r.step m.RY).1.t) {x with dq:=some (r.step m.RY).1,tail:=(r.step m.RY).1.t} ⟨rfl,rfl,rfl,rfl,rfl⟩ (λ_ _ _ _ _ _=>rfl)⟩:w.cell? ⟨z.wq k,3,none⟩=some ↑x.tail/\(∀j,w.frozen? ⟨z.wq k,j,none⟩=false)/\A1 z l k (w.setCell ⟨z.wq k,3,none⟩ (.int .i64 (r.step m.RY).1.t)) ({m with RY:=(r.step m.RY).2}) ({x with dq:=some (r.step m.RY).1,tail:=(r.step m.RY).1.t})));have c4:=Hd (λw (h:A1 z l k w ({m with RY:=(r.step m.RY).2}) ({x with dq:=some (r.step m.RY).1,tail:=(r.step m.RY).1.t}))=>(h.uW i hi:Cs 135 #[ptr (z.wq k),ptr z.c,i] w (.tuple #[]) λw'=>A1 z l k w' ({m with RY:=(r.step m.RY).2}) (({x with dq:=some (r.step m.RY).1,tail:=(r.step m.RY).1.t}).takes i (m.fr i).kind)));clear he hg hi2 hi;have H0:=Hd h;clear h hr hp hs
 go_enter func95,ntmps95;go_upto_region 0 with fail
 go_region_held3 (λw'=>w'.cell? ⟨z.wq k,5,none⟩=some (ptr b))
  (exact U161)
  (first|(go_at_call 93;refine(c0.o _ U4).mono ?_;rintro ev w0 ⟨rfl,rfl⟩)|(go_at_call 92;refine(c1.o _ U4 U19).mono ?_;rintro ev w2 ⟨rfl,HC,y5⟩))
 all_goals
  replace HC:=U15;replace y5:=U23;obtain⟨y3,z3,HD⟩:=ES.out _ HC
  go_upto_region 2 with(go_at_call 136;refine(c2.o _ U5 U23).mono ?_;rintro ev w3 ⟨rfl,rfl⟩)
  have HC:=HD;replace y5:=(World.cell?_setCell_other _ ⟨z.wq k,3,none⟩ ⟨z.wq k,5,none⟩ (.int .i64 (r.step m.RY).1.t) U8).trans y5;clear HD y3 z3
  go_wp2_with (first|(go_at_call 134;refine(c3.o _ U5 U23).mono ?_;rintro ev w4 ⟨rfl,rfl⟩)|(go_at_call 135;refine(c4.o _ U5).mono ?_;rintro ev w5 ⟨rfl,H5⟩))
  go_end0
  exact⟨rfl,H5⟩
theorem A1.xD(h:A1 z l k w m x)(r:DW)(hr:x.dq=some r)(hp:r.p=m.pl)(hs:r.safe m.RY)(he:(r.step m.RY).1.nx.ends=true)(hg:(r.step m.RY).1.Sl=false):Cs 94 #[ptr (z.wq k),ptr z.c] w (.tuple #[]) λw'=>A1 z l k w' ({m with RY:=(r.step m.RY).2}) ({x with dq:=some (r.step m.RY).1,R8:=0}):=by
 obtain⟨b,hb⟩:=h.iH _ hr;have c0:=Hd (λw (h:A1 z l k w m x)=>h.aN);have c1:=Hd (λw (h:A1 z l k w m x) hc=>h.gP r hr hp hs b hc);rw[he]at c1;have c3:=Hd (λw (h:A1 z l k w ({m with RY:=(r.step m.RY).2}) ({x with dq:=some (r.step m.RY).1})) hc=>(by have q:=h.zS _ rfl he b hc;rw[hg]at q;simp only[Bool.false_eq_true,if_false]at q;exact q:Cs 134 #[ptr b] w (.tuple #[(0:Int),.bool false]) λw'=>w=w'));have SK:=Hd (λw (h:A1 z l k w ({m with RY:=(r.step m.RY).2}) ({x with dq:=some (r.step m.RY).1}))=>(⟨h.cell 1 _ rfl,h.fz,(h).set 1 (.int .i64 0) {x with dq:=some (r.step m.RY).1,R8:=0} ⟨rfl,rfl,rfl,rfl,rfl⟩ (λ_ _ _ _ _ _=>rfl)⟩:w.cell? ⟨z.wq k,1,none⟩=some ↑x.R8/\(∀j,w.frozen? ⟨z.wq k,j,none⟩=false)/\A1 z l k (w.setCell ⟨z.wq k,1,none⟩ (.int .i64 0)) ({m with RY:=(r.step m.RY).2}) ({x with dq:=some (r.step m.RY).1,R8:=0})));clear he hg;have H0:=Hd h;clear h hr hp hs;go_enter func94,ntmps94;go_upto_region 0 with fail
 go_region_held3 (λw'=>w'.cell? ⟨z.wq k,5,none⟩=some (ptr b))
  (exact U161)
  (first|(go_at_call 93;refine(c0.o _ U4).mono ?_;rintro ev w0 ⟨rfl,rfl⟩)|(go_at_call 92;refine(c1.o _ U4 U19).mono ?_;rintro ev w2 ⟨rfl,HC,y5⟩))
 all_goals
  replace HC:=U15;replace y5:=U23;obtain⟨y1,z1,HF⟩:=SK.out _ HC
  go_wp2_with (go_at_call 134;refine(c3.o _ U5 U23).mono ?_;rintro ev w4 ⟨rfl,rfl⟩)
  (try simp only[Exit.inBlock,Exit.then]);refine bodyPost_ret (results_none rfl _ _ _) rfl ?_
  exact⟨rfl,HF⟩
theorem A1.zG(h:A1 z l k w m x)(r:DW)(hr:x.dq=some r)(hp:r.p=m.pl)(hs:r.safe m.RY)(he:(r.step m.RY).1.nx.ends=true)(hg:(r.step m.RY).1.Sl=true)(i:Nat)(hi:m.ok i)(hi2:(r.step m.RY).1.x=i):Cs 94 #[ptr (z.wq k),ptr z.c] w (.tuple #[]) λw'=>A1 z l k w' ({m with RY:=(r.step m.RY).2,st:={m.st with bD:=wrap64 (m.st.bD+1)}}) (({x with dq:=some (r.step m.RY).1}).takes i (m.fr i).kind):=by
 obtain⟨b,hb⟩:=h.iH _ hr;have c0:=Hd (λw (h:A1 z l k w m x)=>h.aN);have c1:=Hd (λw (h:A1 z l k w m x) hc=>h.gP r hr hp hs b hc);rw[he]at c1;have c3:=Hd (λw (h:A1 z l k w ({m with RY:=(r.step m.RY).2}) ({x with dq:=some (r.step m.RY).1})) hc=>(by have q:=h.zS _ rfl he b hc;rw[hg]at q;simp only[if_true]at q;rw[show((r.step m.RY).1).x=(i:Int)from hi2]at q;exact q:Cs 134 #[ptr b] w (.tuple #[i,.bool true]) λw'=>w=w'));have cs:=Hd (λw (h:A1 z l k w ({m with RY:=(r.step m.RY).2}) ({x with dq:=some (r.step m.RY).1}))=>h.jQ);have SS:=Hd (λw (h:A1 z l k w ({m with RY:=(r.step m.RY).2}) ({x with dq:=some (r.step m.RY).1}))=>(⟨h.iA 15 _ rfl,h.cfz,h.fB 15 (.int .i64 (wrap64 (m.st.bD+1))) {m.st with bD:=wrap64 (m.st.bD+1)} m.ae m.status m.why rfl⟩:w.cell? ⟨z.c,15,none⟩=some ↑m.st.bD/\(∀j,w.frozen? ⟨z.c,j,none⟩=false)/\A1 z l k (w.setCell ⟨z.c,15,none⟩ (.int .i64 (wrap64 (m.st.bD+1)))) ({m with RY:=(r.step m.RY).2,st:={m.st with bD:=wrap64 (m.st.bD+1)}}) ({x with dq:=some (r.step m.RY).1})));have ws:=dQ (m.st.bD+1);have c4:=Hd (λw (h:A1 z l k w ({m with RY:=(r.step m.RY).2,st:={m.st with bD:=wrap64 (m.st.bD+1)}}) ({x with dq:=some (r.step m.RY).1}))=>(h.uW i hi:Cs 135 #[ptr (z.wq k),ptr z.c,i] w (.tuple #[]) λw'=>A1 z l k w' ({m with RY:=(r.step m.RY).2,st:={m.st with bD:=wrap64 (m.st.bD+1)}}) (({x with dq:=some (r.step m.RY).1}).takes i (m.fr i).kind)));clear he hg hi2 hi;have H0:=Hd h;clear h hr hp hs;go_enter func94,ntmps94
 go_upto_region 0 with fail
 go_region_held3 (λw'=>w'.cell? ⟨z.wq k,5,none⟩=some (ptr b))
  (exact U161)
  (first|(go_at_call 93;refine(c0.o _ U4).mono ?_;rintro ev w0 ⟨rfl,rfl⟩)|(go_at_call 92;refine(c1.o _ U4 U19).mono ?_;rintro ev w2 ⟨rfl,HC,y5⟩))
 all_goals
  replace HC:=U15;replace y5:=U23;obtain⟨y15,z15,HE⟩:=SS.out _ HC
  go_wp2_with (first|(go_at_call 134;refine(c3.o _ U5 U23).mono ?_;rintro ev w4 ⟨rfl,rfl⟩)|(go_at_call 33;refine(cs.o _ HC).mono ?_;rintro ev w6 ⟨rfl,rfl⟩)|(go_at_call 135;refine(c4.o _ HE).mono ?_;rintro ev w5 ⟨rfl,H5⟩))
  go_end0
  exact⟨rfl,H5⟩
theorem A1.zC(h:A1 z l k w m x)(r:DW)(hr:x.dq=some r)(hp:r.p=m.pl)(hs:r.safe m.RY)(he:(r.step m.RY).1.nx.ends=true)(hf:(r.step m.RY).1.Sn=true):Cs 96 #[ptr (z.wq k),ptr z.c] w (.tuple #[]) λw'=>A1 z l k w' (({m with RY:=(r.step m.RY).2}:Co).stop 5 2) ({x with dq:=some (r.step m.RY).1,tail:=(r.step m.RY).1.t}):=by
 obtain⟨b,hb⟩:=h.iH _ hr;have c0:=Hd (λw (h:A1 z l k w m x)=>h.aN);have c1:=Hd (λw (h:A1 z l k w m x) hc=>h.gP r hr hp hs b hc);rw[he]at c1;have c2:=Hd (λw (h:A1 z l k w ({m with RY:=(r.step m.RY).2}) ({x with dq:=some (r.step m.RY).1})) hc=>h.qm _ rfl b hc);have c3:=Hd (λw (h:A1 z l k w ({m with RY:=(r.step m.RY).2}) ({x with dq:=some (r.step m.RY).1,tail:=(r.step m.RY).1.t})) hc=>(by have q:=h.xY _ rfl b hc;rw[hf]at q;exact q:Cs 137 #[ptr b] w (.bool true) λw'=>w=w'));have ES:=Hd (λw (h:A1 z l k w ({m with RY:=(r.step m.RY).2}) ({x with dq:=some (r.step m.RY).1}))=>(⟨h.cell 3 _ rfl,h.fz,(h).set 3 (.int .i64 (r.step m.RY).1.t) {x with dq:=some (r.step m.RY).1,tail:=(r.step m.RY).1.t} ⟨rfl,rfl,rfl,rfl,rfl⟩ (λ_ _ _ _ _ _=>rfl)⟩:w.cell? ⟨z.wq k,3,none⟩=some ↑x.tail/\(∀j,w.frozen? ⟨z.wq k,j,none⟩=false)/\A1 z l k (w.setCell ⟨z.wq k,3,none⟩ (.int .i64 (r.step m.RY).1.t)) ({m with RY:=(r.step m.RY).2}) ({x with dq:=some (r.step m.RY).1,tail:=(r.step m.RY).1.t})));have c4:=Hd (λw (h:A1 z l k w ({m with RY:=(r.step m.RY).2}) ({x with dq:=some (r.step m.RY).1,tail:=(r.step m.RY).1.t}))=>h.jR 5 2);clear he hf;have H0:=Hd h;clear h hr hp hs;go_enter func96,ntmps96;go_upto_region 0 with fail
 go_region_held3 (λw'=>w'.cell? ⟨z.wq k,5,none⟩=some (ptr b))
  (exact U161)
  (first|(go_at_call 93;refine(c0.o _ U4).mono ?_;rintro ev w0 ⟨rfl,rfl⟩)|(go_at_call 92;refine(c1.o _ U4 U19).mono ?_;rintro ev w2 ⟨rfl,HC,y5⟩))
 all_goals
  replace HC:=U15;replace y5:=U23;obtain⟨y3,z3,HD⟩:=ES.out _ HC
  go_upto_region 2 with(go_at_call 136;refine(c2.o _ U5 U23).mono ?_;rintro ev w3 ⟨rfl,rfl⟩)
  have HC:=HD;replace y5:=(World.cell?_setCell_other _ ⟨z.wq k,3,none⟩ ⟨z.wq k,5,none⟩ (.int .i64 (r.step m.RY).1.t) U8).trans y5;clear HD y3 z3
  go_wp2_with (first|(go_at_call 137;refine(c3.o _ U5 U23).mono ?_;rintro ev w4 ⟨rfl,rfl⟩)|(go_at_call 138;refine(c4.o _ HC).mono ?_;rintro ev w5 ⟨rfl,H5⟩))
  (try simp only[Exit.inBlock,Exit.then]);refine bodyPost_ret (results_none rfl _ _ _) rfl ?_
  exact⟨rfl,H5⟩
theorem A1.xy(h:A1 z l k w m x)(r:DW)(hr:x.dq=some r)(hp:r.p=m.pl)(hs:r.safe m.RY)(he:(r.step m.RY).1.nx.ends=true)(hf:(r.step m.RY).1.Sn=false)(ht:x.thn=some .aL)(i p:Nat)(hi:m.ok i)(hx:x.Sa=i)(hq:m.ok p)(hpa:(m.fr i).Sg=p)(hix:(m.fr i).index<=100000):Cs 96 #[ptr (z.wq k),ptr z.c] w (.tuple #[]) λw'=>A1 z l k w' ({m with RY:=(r.step m.RY).2}) (Co.aL ({m with RY:=(r.step m.RY).2}) ({x with dq:=some (r.step m.RY).1,tail:=(r.step m.RY).1.t}) i p):=by
 obtain⟨b,hb⟩:=h.iH _ hr;have c0:=Hd (λw (h:A1 z l k w m x)=>h.aN);have c1:=Hd (λw (h:A1 z l k w m x) hc=>h.gP r hr hp hs b hc);rw[he]at c1;have c2:=Hd (λw (h:A1 z l k w ({m with RY:=(r.step m.RY).2}) ({x with dq:=some (r.step m.RY).1})) hc=>h.qm _ rfl b hc);have c3:=Hd (λw (h:A1 z l k w ({m with RY:=(r.step m.RY).2}) ({x with dq:=some (r.step m.RY).1,tail:=(r.step m.RY).1.t})) hc=>(by have q:=h.xY _ rfl b hc;rw[hf]at q;exact q:Cs 137 #[ptr b] w (.bool false) λw'=>w=w'));have ES:=Hd (λw (h:A1 z l k w ({m with RY:=(r.step m.RY).2}) ({x with dq:=some (r.step m.RY).1}))=>(⟨h.cell 3 _ rfl,h.fz,(h).set 3 (.int .i64 (r.step m.RY).1.t) {x with dq:=some (r.step m.RY).1,tail:=(r.step m.RY).1.t} ⟨rfl,rfl,rfl,rfl,rfl⟩ (λ_ _ _ _ _ _=>rfl)⟩:w.cell? ⟨z.wq k,3,none⟩=some ↑x.tail/\(∀j,w.frozen? ⟨z.wq k,j,none⟩=false)/\A1 z l k (w.setCell ⟨z.wq k,3,none⟩ (.int .i64 (r.step m.RY).1.t)) ({m with RY:=(r.step m.RY).2}) ({x with dq:=some (r.step m.RY).1,tail:=(r.step m.RY).1.t})));have TH:=Hd (λw (h:A1 z l k w ({m with RY:=(r.step m.RY).2}) ({x with dq:=some (r.step m.RY).1,tail:=(r.step m.RY).1.t}))=>h.Dc ht);have c4:=Hd (λw (h:A1 z l k w ({m with RY:=(r.step m.RY).2}) ({x with dq:=some (r.step m.RY).1,tail:=(r.step m.RY).1.t}))=>h.nZ i p hi hx hq hpa hix);clear he hf ht hx hpa hix;have H0:=Hd h;clear h hr hp hs;go_enter func96,ntmps96;go_upto_region 0 with fail
 go_region_held3 (λw'=>w'.cell? ⟨z.wq k,5,none⟩=some (ptr b))
  (exact U161)
  (first|(go_at_call 93;refine(c0.o _ U4).mono ?_;rintro ev w0 ⟨rfl,rfl⟩)|(go_at_call 92;refine(c1.o _ U4 U19).mono ?_;rintro ev w2 ⟨rfl,HC,y5⟩))
 all_goals
  replace HC:=U15;replace y5:=U23;obtain⟨y3,z3,HD⟩:=ES.out _ HC
  go_upto_region 2 with(go_at_call 136;refine(c2.o _ U5 U23).mono ?_;rintro ev w3 ⟨rfl,rfl⟩)
  have HC:=HD;replace y5:=(World.cell?_setCell_other _ ⟨z.wq k,3,none⟩ ⟨z.wq k,5,none⟩ (.int .i64 (r.step m.RY).1.t) U8).trans y5;clear HD y3 z3;have y6:=TH.out _ HC
  go_wp2_with (first|(go_at_call 137;refine(c3.o _ U5 U23).mono ?_;rintro ev w4 ⟨rfl,rfl⟩)|(go_at_call 159;refine(c4.o _ HC).mono ?_;rintro ev w5 ⟨rfl,H5⟩))
  go_end0
  exact⟨rfl,H5⟩
theorem A1.zF(h:A1 z l k w m x)(r:DW)(hr:x.dq=some r)(hp:r.p=m.pl)(hs:r.safe m.RY)(he:(r.step m.RY).1.nx.ends=true)(hf:(r.step m.RY).1.Sn=false)(j:Int)(ht:x.thn=some (.runs j)):Cs 96 #[ptr (z.wq k),ptr z.c] w (.tuple #[]) λw'=>A1 z l k w' ({m with RY:=(r.step m.RY).2}) ({x with dq:=some (r.step m.RY).1,tail:=(r.step m.RY).1.t,Sa:=j,R8:=4}):=by
 obtain⟨b,hb⟩:=h.iH _ hr;have c0:=Hd (λw (h:A1 z l k w m x)=>h.aN);have c1:=Hd (λw (h:A1 z l k w m x) hc=>h.gP r hr hp hs b hc);rw[he]at c1;have c2:=Hd (λw (h:A1 z l k w ({m with RY:=(r.step m.RY).2}) ({x with dq:=some (r.step m.RY).1})) hc=>h.qm _ rfl b hc);have c3:=Hd (λw (h:A1 z l k w ({m with RY:=(r.step m.RY).2}) ({x with dq:=some (r.step m.RY).1,tail:=(r.step m.RY).1.t})) hc=>(by have q:=h.xY _ rfl b hc;rw[hf]at q;exact q:Cs 137 #[ptr b] w (.bool false) λw'=>w=w'));have ES:=Hd (λw (h:A1 z l k w ({m with RY:=(r.step m.RY).2}) ({x with dq:=some (r.step m.RY).1}))=>(⟨h.cell 3 _ rfl,h.fz,(h).set 3 (.int .i64 (r.step m.RY).1.t) {x with dq:=some (r.step m.RY).1,tail:=(r.step m.RY).1.t} ⟨rfl,rfl,rfl,rfl,rfl⟩ (λ_ _ _ _ _ _=>rfl)⟩:w.cell? ⟨z.wq k,3,none⟩=some ↑x.tail/\(∀j,w.frozen? ⟨z.wq k,j,none⟩=false)/\A1 z l k (w.setCell ⟨z.wq k,3,none⟩ (.int .i64 (r.step m.RY).1.t)) ({m with RY:=(r.step m.RY).2}) ({x with dq:=some (r.step m.RY).1,tail:=(r.step m.RY).1.t})));have TH:=Hd (λw (h:A1 z l k w ({m with RY:=(r.step m.RY).2}) ({x with dq:=some (r.step m.RY).1,tail:=(r.step m.RY).1.t}))=>h.Hw j ht);have c4:=Hd (λw (h:A1 z l k w ({m with RY:=(r.step m.RY).2}) ({x with dq:=some (r.step m.RY).1,tail:=(r.step m.RY).1.t}))=>h.rq j);clear he hf ht;have H0:=Hd h;clear h hr hp hs;go_enter func96,ntmps96;go_upto_region 0 with fail
 go_region_held3 (λw'=>w'.cell? ⟨z.wq k,5,none⟩=some (ptr b))
  (exact U161)
  (first|(go_at_call 93;refine(c0.o _ U4).mono ?_;rintro ev w0 ⟨rfl,rfl⟩)|(go_at_call 92;refine(c1.o _ U4 U19).mono ?_;rintro ev w2 ⟨rfl,HC,y5⟩))
 all_goals
  replace HC:=U15;replace y5:=U23;obtain⟨y3,z3,HD⟩:=ES.out _ HC
  go_upto_region 2 with(go_at_call 136;refine(c2.o _ U5 U23).mono ?_;rintro ev w3 ⟨rfl,rfl⟩)
  have HC:=HD;replace y5:=(World.cell?_setCell_other _ ⟨z.wq k,3,none⟩ ⟨z.wq k,5,none⟩ (.int .i64 (r.step m.RY).1.t) U8).trans y5;clear HD y3 z3;obtain⟨bv,bt,y6,e1,e2⟩:=TH.out _ HC;have c5:=Hd (λcv=>KT _ cv _ _ _ _ e1 e2 (c4.o _ HC))
  go_wp2_with (first|(go_at_call 137;refine(c3.o _ U5 U23).mono ?_;rintro ev w4 ⟨rfl,rfl⟩)|(go_at_call 155;refine(c5.o _).mono ?_;rintro ev w5 ⟨rfl,H5⟩))
  go_end0
  exact⟨rfl,H5⟩
end Go.Proofs.YteiignfflbmafaaGreat.Tp
