/- TopOne, part 13. -/
import Derived.Test.YteiignfflbmafaaGreatQ12
set_option linter.unusedVariables false
set_option linter.unusedSimpArgs false
set_option maxRecDepth 100000
set_option maxHeartbeats 8000000
namespace Go.Proofs.YteiignfflbmafaaGreat.Tp
open Go.Proofs.Tryz
open Go.RowKit Go.Proofs.YteiignfflbmafaaGreat.Tok
variable {z:Lay} {l:List WS} {k:Nat} {w:World} {m:Co} {x:WS}
theorem Us3 {p:Prop} (h:p:=by
 generalize(m.aK i p x.aB)=M1 at*;clear h hx hpa hix hl hg hs fl fri hpa2 hix2 hpa3;generalize 19*i=I at*;generalize(m.fr i).Sc=sg at*
 skip
 go_enter func102,ntmps102
 go_upto_region 1 with(go_at_call 139;refine c0.o.r ?_)
 go_region_held3 (λw'=>w'.cell? ⟨z.fr,I+11,none⟩=some ↑p/\w'.cell? ⟨z.fr,I+14,none⟩=some (.int .i64 (m.fr i).index)/\w'.cell? ⟨z.wq k,8,none⟩=some ↑x.aB)
  (exact U158)
  (first|(go_at_call 156;refine(c1.o _ U4).q λw1 Sr=> ?_;have l1:=nL lf Sr.size;have l1w:=nL lw Sr.size;have B1:=(by first|exact Sr|exact(Below.refl _ w).drew.trans Sr|exact(Below.refl _ w).drew.drew.trans Sr:Below w.heap.size w w1))|(go_at_call 93;refine(c2.o _ U12).r ?_)|(go_at_call 157;refine(c4.o _ U18).mono ?_;rintro ev w3 ⟨rfl,s3,k3⟩;have lf3:=nL l1 k3.size))
 all_goals
  have K3:Kept (One z.wd) w w3:=by first|exact(Kept.ob B1).trans k3|exact(Kept.ob B1).drew.trans k3|exact(Kept.ob B1).drew.drew.trans k3
  have H3:=FF.out w3 K3 s3;obtain⟨y15,y8,z15,H4⟩:=FG.out _ H3;have y9:=FH.out _ H4;go_upto_region 5 with fail;clear xa xb xg y15 y8 z15 H3;generalize w3.setCell ⟨z.fr,I+15,none⟩ ↑x.aB=W4 at*
  go_upto_region 8 with(go_at_call 158;refine(c5.o _ H4).q λw5 H5=> ?_)
  have y11:=FI.out _ H5
  go_wp2_with (go_at_call 159;refine(c6.o _ H5).q λw6 H6=> ?_)
  go_end0
  exact⟨rfl,H6⟩):p:=h
theorem Us1 {p:Prop} (h:p:=by
 generalize(m.aK i p x.aB)=M1 at*;clear h hx hpa hix hl hg hs fl fri hpa2 hix2 hpa3;generalize 19*i=I at*;generalize(m.fr i).Sc=sg at*;subst hs1;go_enter func102,ntmps102
 go_upto_region 1 with(go_at_call 139;refine c0.o.r ?_)
 go_region_held3 (λw'=>w'.cell? ⟨z.fr,I+11,none⟩=some ↑p/\w'.cell? ⟨z.fr,I+14,none⟩=some (.int .i64 (m.fr i).index)/\w'.cell? ⟨z.wq k,8,none⟩=some ↑x.aB)
  (exact U158)
  (first|(go_at_call 156;refine(c1.o _ U4).q λw1 Sr=> ?_;have l1:=nL lf Sr.size;have l1w:=nL lw Sr.size;have B1:=(by first|exact Sr|exact(Below.refl _ w).drew.trans Sr|exact(Below.refl _ w).drew.drew.trans Sr:Below w.heap.size w w1))|(go_at_call 93;refine(c2.o _ U12).r ?_)|(go_at_call 157;refine(c4.o _ U18).mono ?_;rintro ev w3 ⟨rfl,s3,k3⟩;have lf3:=nL l1 k3.size))
 all_goals
  have K3:Kept (One z.wd) w w3:=by first|exact(Kept.ob B1).trans k3|exact(Kept.ob B1).drew.trans k3|exact(Kept.ob B1).drew.drew.trans k3
  have H3:=FF.out w3 K3 s3;obtain⟨y15,y8,z15,H4⟩:=FG.out _ H3;have y9:=FH.out _ H4;go_upto_region 5 with fail;clear xa xb xg y15 y8 z15 H3;generalize w3.setCell ⟨z.fr,I+15,none⟩ ↑x.aB=W4 at*
  go_upto_region 8 with(go_at_call 158;refine(c5.o _ H4).q λw5 H5=> ?_)
  have y11:=FI.out _ H5
  go_wp2_with (go_at_call 154;refine(c6.o _ H5).q λw6 H6=> ?_)
  (try simp only[Exit.inBlock,Exit.then]);refine bodyPost_ret (results_none rfl _ _ _) rfl ?_
  exact⟨rfl,H6⟩):p:=h
def Co.kI(m:Co)(x:WS)(i p:Nat)(kind:Int):Co:=(((m.aK i p x.aB).ak i {m.fr i with Sc:=x.aB}).bM i p kind)
def Co.jN(m:Co)(x:WS)(i p:Nat):Co×WS:=
 let M:=m.kI x i p (if x.gw=true then 3 else 6)
 if(m.fr i).Sc=0 then(M,{x with dq:=some (DW.push m.pl x.Sq x.tail p),thn:=some .aL,R8:=3})else(M,M.aL x i p)
theorem A1.LD(h:A1 z l k w m x)(i p:Nat)(hi:m.ok i)(hx:x.Sa=i)(hp:m.ok p)(hpa:(m.fr i).Sg=p)(hix:(m.fr i).index<=100000)(hl:m.log.length<100000)(hg:x.gw=true)(hs:(m.fr i).Sc=0):Cs 102 #[ptr (z.wq k),ptr z.c] w (.tuple #[]) λw'=>A1 z l k w' (m.kI x i p 3) {x with dq:=some (DW.push m.pl x.Sq x.tail p),thn:=some .aL,R8:=3}:=by
 have c0:=Hd (h.aT i hi hx);have xa:w.cell? ⟨z.fr,19*i+11,none⟩=some ↑p:=h.frame i hi 11 U0 _ U35;have xb:w.cell? ⟨z.fr,19*i+14,none⟩=some (.int .i64 (m.fr i).index):=h.frame i hi 14 U0 _ rfl;have xg:w.cell? ⟨z.wq k,8,none⟩=some ↑x.aB:=h.cell 8 _ rfl;have c1:=Hd (λw (h:A1 z l k w m x)=>h.fE p hp);have c2:=Hd (λw (h:A1 z l k w m x)=>h.aN);have c4:=Hd (λw hS=>nS m.pl h.bQ p (m.fr p).ae (m.fr i).index x.aB z.ws z.wd m.RY (ja _ h.bQ p _ 0 U0 m.RY h.bU) w hS);have FF:=Hd (λ(w3:World) (K:Kept (One z.wd) w w3) (s3:aD w3 z.ws z.wd (m.RY.set (m.pl.wN p (m.fr i).index 0) x.aB))=>(show A1 z l k w3 (m.aK i p x.aB) x from h.aC _ s3 U8 K));have fl:=h.iB i hi;have fri:((m.aK i p x.aB).ak i {m.fr i with Sc:=x.aB}).fr i={m.fr i with Sc:=x.aB}:=Co.dE (m:=(m.aK i p x.aB)) hi fl;have hpa2:(((m.aK i p x.aB).ak i {m.fr i with Sc:=x.aB}).fr i).Sg=p:=by rw[fri];exact hpa
 have hix2:((m.kI x i p 3).fr i).index<=100000:=by show(((m.aK i p x.aB).ak i {m.fr i with Sc:=x.aB}).fr i).index<=100000;rw[fri];exact hix
 have hpa3:((m.kI x i p 3).fr i).Sg=p:=hpa2;have FG:=Hd (λw (h:A1 z l k w (m.aK i p x.aB) x)=>(⟨h.frame i hi 15 U0 _ rfl,h.cell 8 _ rfl,h.sM,h.aF i hi 15 U0 ↑x.aB {m.fr i with Sc:=x.aB} rfl⟩:w.cell? ⟨z.fr,19*i+15,none⟩=some (.int .i64 (m.fr i).Sc)/\w.cell? ⟨z.wq k,8,none⟩=some ↑x.aB/\(∀j,w.frozen? ⟨z.fr,j,none⟩=false)/\A1 z l k (w.setCell ⟨z.fr,19*i+15,none⟩ ↑x.aB) ((m.aK i p x.aB).ak i {m.fr i with Sc:=x.aB}) x));have FH:=Hd (λw (h:A1 z l k w ((m.aK i p x.aB).ak i {m.fr i with Sc:=x.aB}) x)=>(h.cell 9 _ U113:w.cell? ⟨z.wq k,9,none⟩=some (.bool true)));have FI:=Hd (λw (h:A1 z l k w (m.kI x i p 3) x)=>(h.frame i hi 11 U0 _ U101:w.cell? ⟨z.fr,19*i+11,none⟩=some ↑p));have c5:=Hd (λw (h:A1 z l k w ((m.aK i p x.aB).ak i {m.fr i with Sc:=x.aB}) x)=>(show Cs 158 #[ptr (z.wq k),ptr z.c,(3:Int)] w (.tuple #[]) λw'=>A1 z l k w' (m.kI x i p 3) x from h.l8 i p hi hx hp hpa2 hl 3));have c6:=Hd (λw (h:A1 z l k w (m.kI x i p 3) x)=>(show Cs 154 #[ptr (z.wq k),ptr z.c,p,mv 159 (z.wq k)] w (.tuple #[]) λw'=>A1 z l k w' (m.kI x i p 3) {x with dq:=some (DW.push m.pl x.Sq x.tail p),thn:=some .aL,R8:=3}from h.tY p));have hmf:=fD;unfold fZ at c1;have H0:=Hd h;have lf:z.fr<w.heap.size:=bL w _ xa;have lw:z.wq k<w.heap.size:=h.lt;have nfd:¬One z.wd z.fr:=h.yV;have jL:¬One z.wd (z.wq k):=λz1=>h.sep.1 z1;have hs1:(m.fr i).Sc=0:=hs;generalize((m.aK i p x.aB).ak i {m.fr i with Sc:=x.aB})=M2 at*
 generalize(m.kI x i p 3)=M3 at*
 exact Us1
theorem A1.LF(h:A1 z l k w m x)(i p:Nat)(hi:m.ok i)(hx:x.Sa=i)(hp:m.ok p)(hpa:(m.fr i).Sg=p)(hix:(m.fr i).index<=100000)(hl:m.log.length<100000)(hg:x.gw=true)(hs:(m.fr i).Sc≠0):Cs 102 #[ptr (z.wq k),ptr z.c] w (.tuple #[]) λw'=>A1 z l k w' (m.kI x i p 3) ((m.kI x i p 3).aL x i p):=by
 have c0:=Hd (h.aT i hi hx);have xa:w.cell? ⟨z.fr,19*i+11,none⟩=some ↑p:=h.frame i hi 11 U0 _ U35;have xb:w.cell? ⟨z.fr,19*i+14,none⟩=some (.int .i64 (m.fr i).index):=h.frame i hi 14 U0 _ rfl;have xg:w.cell? ⟨z.wq k,8,none⟩=some ↑x.aB:=h.cell 8 _ rfl;have c1:=Hd (λw (h:A1 z l k w m x)=>h.fE p hp);have c2:=Hd (λw (h:A1 z l k w m x)=>h.aN);have c4:=Hd (λw hS=>nS m.pl h.bQ p (m.fr p).ae (m.fr i).index x.aB z.ws z.wd m.RY (ja _ h.bQ p _ 0 U0 m.RY h.bU) w hS);have FF:=Hd (λ(w3:World) (K:Kept (One z.wd) w w3) (s3:aD w3 z.ws z.wd (m.RY.set (m.pl.wN p (m.fr i).index 0) x.aB))=>(show A1 z l k w3 (m.aK i p x.aB) x from h.aC _ s3 U8 K));have fl:=h.iB i hi;have fri:((m.aK i p x.aB).ak i {m.fr i with Sc:=x.aB}).fr i={m.fr i with Sc:=x.aB}:=Co.dE (m:=(m.aK i p x.aB)) hi fl;have hpa2:(((m.aK i p x.aB).ak i {m.fr i with Sc:=x.aB}).fr i).Sg=p:=by rw[fri];exact hpa
 have hix2:((m.kI x i p 3).fr i).index<=100000:=by show(((m.aK i p x.aB).ak i {m.fr i with Sc:=x.aB}).fr i).index<=100000;rw[fri];exact hix
 have hpa3:((m.kI x i p 3).fr i).Sg=p:=hpa2;have FG:=Hd (λw (h:A1 z l k w (m.aK i p x.aB) x)=>(⟨h.frame i hi 15 U0 _ rfl,h.cell 8 _ rfl,h.sM,h.aF i hi 15 U0 ↑x.aB {m.fr i with Sc:=x.aB} rfl⟩:w.cell? ⟨z.fr,19*i+15,none⟩=some (.int .i64 (m.fr i).Sc)/\w.cell? ⟨z.wq k,8,none⟩=some ↑x.aB/\(∀j,w.frozen? ⟨z.fr,j,none⟩=false)/\A1 z l k (w.setCell ⟨z.fr,19*i+15,none⟩ ↑x.aB) ((m.aK i p x.aB).ak i {m.fr i with Sc:=x.aB}) x));have FH:=Hd (λw (h:A1 z l k w ((m.aK i p x.aB).ak i {m.fr i with Sc:=x.aB}) x)=>(h.cell 9 _ U113:w.cell? ⟨z.wq k,9,none⟩=some (.bool true)));have FI:=Hd (λw (h:A1 z l k w (m.kI x i p 3) x)=>(h.frame i hi 11 U0 _ U101:w.cell? ⟨z.fr,19*i+11,none⟩=some ↑p));have c5:=Hd (λw (h:A1 z l k w ((m.aK i p x.aB).ak i {m.fr i with Sc:=x.aB}) x)=>(show Cs 158 #[ptr (z.wq k),ptr z.c,(3:Int)] w (.tuple #[]) λw'=>A1 z l k w' (m.kI x i p 3) x from h.l8 i p hi hx hp hpa2 hl 3));have c6:=Hd (λw (h:A1 z l k w (m.kI x i p 3) x)=>h.nZ i p hi hx hp hpa3 hix2);have hmf:=fD;unfold fZ at c1;have H0:=Hd h;have lf:z.fr<w.heap.size:=bL w _ xa;have lw:z.wq k<w.heap.size:=h.lt;have nfd:¬One z.wd z.fr:=h.yV;have jL:¬One z.wd (z.wq k):=λz1=>h.sep.1 z1;have hs1:((m.fr i).Sc==0)=false:=beq_false_of_ne hs;generalize((m.aK i p x.aB).ak i {m.fr i with Sc:=x.aB})=M2 at*;generalize(m.kI x i p 3)=M3 at*
 exact Us3
theorem A1.Lv(h:A1 z l k w m x)(i p:Nat)(hi:m.ok i)(hx:x.Sa=i)(hp:m.ok p)(hpa:(m.fr i).Sg=p)(hix:(m.fr i).index<=100000)(hl:m.log.length<100000)(hg:x.gw=false)(hs:(m.fr i).Sc=0):Cs 102 #[ptr (z.wq k),ptr z.c] w (.tuple #[]) λw'=>A1 z l k w' (m.kI x i p 6) {x with dq:=some (DW.push m.pl x.Sq x.tail p),thn:=some .aL,R8:=3}:=by
 have c0:=Hd (h.aT i hi hx);have xa:w.cell? ⟨z.fr,19*i+11,none⟩=some ↑p:=h.frame i hi 11 U0 _ U35;have xb:w.cell? ⟨z.fr,19*i+14,none⟩=some (.int .i64 (m.fr i).index):=h.frame i hi 14 U0 _ rfl;have xg:w.cell? ⟨z.wq k,8,none⟩=some ↑x.aB:=h.cell 8 _ rfl;have c1:=Hd (λw (h:A1 z l k w m x)=>h.fE p hp);have c2:=Hd (λw (h:A1 z l k w m x)=>h.aN);have c4:=Hd (λw hS=>nS m.pl h.bQ p (m.fr p).ae (m.fr i).index x.aB z.ws z.wd m.RY (ja _ h.bQ p _ 0 U0 m.RY h.bU) w hS);have FF:=Hd (λ(w3:World) (K:Kept (One z.wd) w w3) (s3:aD w3 z.ws z.wd (m.RY.set (m.pl.wN p (m.fr i).index 0) x.aB))=>(show A1 z l k w3 (m.aK i p x.aB) x from h.aC _ s3 U8 K));have fl:=h.iB i hi;have fri:((m.aK i p x.aB).ak i {m.fr i with Sc:=x.aB}).fr i={m.fr i with Sc:=x.aB}:=Co.dE (m:=(m.aK i p x.aB)) hi fl;have hpa2:(((m.aK i p x.aB).ak i {m.fr i with Sc:=x.aB}).fr i).Sg=p:=by rw[fri];exact hpa
 have hix2:((m.kI x i p 6).fr i).index<=100000:=by show(((m.aK i p x.aB).ak i {m.fr i with Sc:=x.aB}).fr i).index<=100000;rw[fri];exact hix
 have hpa3:((m.kI x i p 6).fr i).Sg=p:=hpa2;have FG:=Hd (λw (h:A1 z l k w (m.aK i p x.aB) x)=>(⟨h.frame i hi 15 U0 _ rfl,h.cell 8 _ rfl,h.sM,h.aF i hi 15 U0 ↑x.aB {m.fr i with Sc:=x.aB} rfl⟩:w.cell? ⟨z.fr,19*i+15,none⟩=some (.int .i64 (m.fr i).Sc)/\w.cell? ⟨z.wq k,8,none⟩=some ↑x.aB/\(∀j,w.frozen? ⟨z.fr,j,none⟩=false)/\A1 z l k (w.setCell ⟨z.fr,19*i+15,none⟩ ↑x.aB) ((m.aK i p x.aB).ak i {m.fr i with Sc:=x.aB}) x));have FH:=Hd (λw (h:A1 z l k w ((m.aK i p x.aB).ak i {m.fr i with Sc:=x.aB}) x)=>(h.cell 9 _ U113:w.cell? ⟨z.wq k,9,none⟩=some (.bool false)));have FI:=Hd (λw (h:A1 z l k w (m.kI x i p 6) x)=>(h.frame i hi 11 U0 _ U101:w.cell? ⟨z.fr,19*i+11,none⟩=some ↑p));have c5:=Hd (λw (h:A1 z l k w ((m.aK i p x.aB).ak i {m.fr i with Sc:=x.aB}) x)=>(show Cs 158 #[ptr (z.wq k),ptr z.c,(6:Int)] w (.tuple #[]) λw'=>A1 z l k w' (m.kI x i p 6) x from h.l8 i p hi hx hp hpa2 hl 6));have c6:=Hd (λw (h:A1 z l k w (m.kI x i p 6) x)=>(show Cs 154 #[ptr (z.wq k),ptr z.c,p,mv 159 (z.wq k)] w (.tuple #[]) λw'=>A1 z l k w' (m.kI x i p 6) {x with dq:=some (DW.push m.pl x.Sq x.tail p),thn:=some .aL,R8:=3}from h.tY p));have hmf:=fD;unfold fZ at c1;have H0:=Hd h;have lf:z.fr<w.heap.size:=bL w _ xa;have lw:z.wq k<w.heap.size:=h.lt;have nfd:¬One z.wd z.fr:=h.yV;have jL:¬One z.wd (z.wq k):=λz1=>h.sep.1 z1;have hs1:(m.fr i).Sc=0:=hs;generalize((m.aK i p x.aB).ak i {m.fr i with Sc:=x.aB})=M2 at*
 generalize(m.kI x i p 6)=M3 at*
 exact Us1
theorem A1.Lx(h:A1 z l k w m x)(i p:Nat)(hi:m.ok i)(hx:x.Sa=i)(hp:m.ok p)(hpa:(m.fr i).Sg=p)(hix:(m.fr i).index<=100000)(hl:m.log.length<100000)(hg:x.gw=false)(hs:(m.fr i).Sc≠0):Cs 102 #[ptr (z.wq k),ptr z.c] w (.tuple #[]) λw'=>A1 z l k w' (m.kI x i p 6) ((m.kI x i p 6).aL x i p):=by
 have c0:=Hd (h.aT i hi hx);have xa:w.cell? ⟨z.fr,19*i+11,none⟩=some ↑p:=h.frame i hi 11 U0 _ U35;have xb:w.cell? ⟨z.fr,19*i+14,none⟩=some (.int .i64 (m.fr i).index):=h.frame i hi 14 U0 _ rfl;have xg:w.cell? ⟨z.wq k,8,none⟩=some ↑x.aB:=h.cell 8 _ rfl;have c1:=Hd (λw (h:A1 z l k w m x)=>h.fE p hp);have c2:=Hd (λw (h:A1 z l k w m x)=>h.aN);have c4:=Hd (λw hS=>nS m.pl h.bQ p (m.fr p).ae (m.fr i).index x.aB z.ws z.wd m.RY (ja _ h.bQ p _ 0 U0 m.RY h.bU) w hS);have FF:=Hd (λ(w3:World) (K:Kept (One z.wd) w w3) (s3:aD w3 z.ws z.wd (m.RY.set (m.pl.wN p (m.fr i).index 0) x.aB))=>(show A1 z l k w3 (m.aK i p x.aB) x from h.aC _ s3 U8 K));have fl:=h.iB i hi;have fri:((m.aK i p x.aB).ak i {m.fr i with Sc:=x.aB}).fr i={m.fr i with Sc:=x.aB}:=Co.dE (m:=(m.aK i p x.aB)) hi fl;have hpa2:(((m.aK i p x.aB).ak i {m.fr i with Sc:=x.aB}).fr i).Sg=p:=by rw[fri];exact hpa
 have hix2:((m.kI x i p 6).fr i).index<=100000:=by show(((m.aK i p x.aB).ak i {m.fr i with Sc:=x.aB}).fr i).index<=100000;rw[fri];exact hix
 have hpa3:((m.kI x i p 6).fr i).Sg=p:=hpa2;have FG:=Hd (λw (h:A1 z l k w (m.aK i p x.aB) x)=>(⟨h.frame i hi 15 U0 _ rfl,h.cell 8 _ rfl,h.sM,h.aF i hi 15 U0 ↑x.aB {m.fr i with Sc:=x.aB} rfl⟩:w.cell? ⟨z.fr,19*i+15,none⟩=some (.int .i64 (m.fr i).Sc)/\w.cell? ⟨z.wq k,8,none⟩=some ↑x.aB/\(∀j,w.frozen? ⟨z.fr,j,none⟩=false)/\A1 z l k (w.setCell ⟨z.fr,19*i+15,none⟩ ↑x.aB) ((m.aK i p x.aB).ak i {m.fr i with Sc:=x.aB}) x));have FH:=Hd (λw (h:A1 z l k w ((m.aK i p x.aB).ak i {m.fr i with Sc:=x.aB}) x)=>(h.cell 9 _ U113:w.cell? ⟨z.wq k,9,none⟩=some (.bool false)));have FI:=Hd (λw (h:A1 z l k w (m.kI x i p 6) x)=>(h.frame i hi 11 U0 _ U101:w.cell? ⟨z.fr,19*i+11,none⟩=some ↑p));have c5:=Hd (λw (h:A1 z l k w ((m.aK i p x.aB).ak i {m.fr i with Sc:=x.aB}) x)=>(show Cs 158 #[ptr (z.wq k),ptr z.c,(6:Int)] w (.tuple #[]) λw'=>A1 z l k w' (m.kI x i p 6) x from h.l8 i p hi hx hp hpa2 hl 6));have c6:=Hd (λw (h:A1 z l k w (m.kI x i p 6) x)=>h.nZ i p hi hx hp hpa3 hix2);have hmf:=fD;unfold fZ at c1;have H0:=Hd h;have lf:z.fr<w.heap.size:=bL w _ xa;have lw:z.wq k<w.heap.size:=h.lt;have nfd:¬One z.wd z.fr:=h.yV;have jL:¬One z.wd (z.wq k):=λz1=>h.sep.1 z1;have hs1:((m.fr i).Sc==0)=false:=beq_false_of_ne hs;generalize((m.aK i p x.aB).ak i {m.fr i with Sc:=x.aB})=M2 at*;generalize(m.kI x i p 6)=M3 at*
 exact Us3
theorem A1.Dg(h:A1 z l k w m x)(i p:Nat)(hi:m.ok i)(hx:x.Sa=i)(hp:m.ok p)(hpa:(m.fr i).Sg=p)(hix:(m.fr i).index<=100000)(hl:m.log.length<100000):Cs 102 #[ptr (z.wq k),ptr z.c] w (.tuple #[]) λw'=>A1 z l k w' (m.jN x i p).1 (m.jN x i p).2:=by
 unfold Co.jN;dsimp only
 by_cases hg:x.gw=true
 ·rw[if_pos hg]
  by_cases hs:(m.fr i).Sc=0
  ·rw[if_pos hs];exact h.LD i p hi hx hp hpa hix hl hg hs
  ·rw[if_neg hs];exact h.LF i p hi hx hp hpa hix hl hg hs
 ·rw[if_neg hg]
  have hg:x.gw=false:=by simpa using hg
  by_cases hs:(m.fr i).Sc=0
  ·rw[if_pos hs];exact h.Lv i p hi hx hp hpa hix hl hg hs
  ·rw[if_neg hs];exact h.Lx i p hi hx hp hpa hix hl hg hs
def ic(n v p:Int):Int:=(max v 0%n+p)%n
def Co.iE(m:Co):Co:={m with st:={m.st with probes:=wrap64 (m.st.probes+1)}}
def Co.oF(m:Co)(x:WS)(v:Int):Option (Co×WS):=
 if 0<=x.ag/\x.ag<1099511627776 then
  if ic m.pl.wk v x.ag=x.Sq then some (m.iE,{x with ag:=x.ag+1})
  else some ({m.iE with RY:=((DW.dM m.pl (ic m.pl.wk v x.ag)).step m.RY).2},{x with ag:=x.ag+1,dq:=some ((DW.dM m.pl (ic m.pl.wk v x.ag)).step m.RY).1,R8:=1})
 else none
theorem A1.Dp(h:A1 z l k w m x)(v:Int)(h0:0<=x.ag)(h1:x.ag<1099511627776)(hv:ic m.pl.wk v x.ag=x.Sq):Cs 60 #[ptr (z.wq k),ptr z.c,v] w (.tuple #[]) λw'=>A1 z l k w' m.iE {x with ag:=x.ag+1}:=by
 have c1:=Hd (h.jf);unfold Co.gU at c1;have hf0:=zY;have hn:=h.bQ.1;have x4:w.cell? ⟨z.wq k,4,none⟩=some ↑x.ag:=h.cell 4 _ rfl;have FE:=Hd (λw (h:A1 z l k w m x)=>(⟨h.cell 4 _ rfl,h.fz,h.set 4 (.int .i64 (x.ag+1)) {x with ag:=x.ag+1} ⟨rfl,rfl,rfl,rfl,rfl⟩ (λ_ _ _ _ _ _=>rfl)⟩:w.cell? ⟨z.wq k,4,none⟩=some ↑x.ag/\(∀j,w.frozen? ⟨z.wq k,j,none⟩=false)/\A1 z l k (w.setCell ⟨z.wq k,4,none⟩ (.int .i64 (x.ag+1))) m {x with ag:=x.ag+1}));have cs:=Hd (λw (h:A1 z l k w m {x with ag:=x.ag+1})=>h.jQ);have FS:=Hd (λw (h:A1 z l k w m {x with ag:=x.ag+1})=>(⟨h.iA 14 _ rfl,h.cfz,h.fB 14 (.int .i64 (wrap64 (m.st.probes+1))) {m.st with probes:=wrap64 (m.st.probes+1)} m.ae m.status m.why rfl⟩:w.cell? ⟨z.c,14,none⟩=some ↑m.st.probes/\(∀j,w.frozen? ⟨z.c,j,none⟩=false)/\A1 z l k (w.setCell ⟨z.c,14,none⟩ (.int .i64 (wrap64 (m.st.probes+1)))) m.iE {x with ag:=x.ag+1}));have FO:=Hd (λw (h:A1 z l k w m.iE {x with ag:=x.ag+1})=>(h.cell 0 _ rfl:w.cell? ⟨z.wq k,0,none⟩=some ↑x.Sq));have HC:=h;have n0:0<=max v 0%m.pl.wk:=Int.emod_nonneg _ U2;have n1:max v 0%m.pl.wk<m.pl.wk:=Int.emod_lt_of_pos _ U2;have e2:IntKind.i64.wrap (max v 0%m.pl.wk+x.ag)=max v 0%m.pl.wk+x.ag:=by rw[IntKind.wrap_i64];omega
 have e3:(max v 0%m.pl.wk+x.ag).tmod m.pl.wk=ic m.pl.wk v x.ag:=Int.tmod_eq_emod_of_nonneg U2;have e4:IntKind.i64.wrap (x.ag+1)=x.ag+1:=by rw[IntKind.wrap_i64];omega
 have e1:(max v 0).tmod m.pl.wk=max v 0%m.pl.wk:=Int.tmod_eq_emod_of_nonneg U2;have n2:¬(m.pl.wk=0):=by omega
 have em:(if v<0 then 0 else v)=max v 0:=by split<;>omega
 have hv1:ic m.pl.wk v x.ag=x.Sq:=hv;clear h hv h0 h1 n0 n1 hn;generalize ic m.pl.wk v x.ag=V at*;generalize max v 0%m.pl.wk=R at*;generalize max v 0=U at*;subst hv1;go_enter func60,ntmps60
 go_upto_region 1 with(go_at_call 89;refine c1.o.q λw1 Sr=> ?_)
 replace HC:=HC.ai Sr;have x4:w1.cell? ⟨z.wq k,4,none⟩=some ↑x.ag:=HC.cell 4 _ rfl
 go_region_held3 (λw'=>w'.cell? ⟨z.wq k,4,none⟩=some ↑x.ag)
  (first|exact x4|exact kd x4)
  (fail)
 replace HC:=HC.drew;clear x4;generalize w1.drew=W at*;obtain⟨y4,z4,H2⟩:=FE.out _ HC;go_upto_region 3 with fail;clear y4 z4 Sr c1;generalize W.setCell ⟨z.wq k,4,none⟩ (.int .i64 (x.ag+1))=W2 at*;obtain⟨y14,z14,H3⟩:=FS.o _ H2;have y0:=FO.out _ H3
 go_upto_region 4 with(go_at_call 33;refine(cs.o _ H2).r ?_)
 clear y14 z14 H2 FS FE;generalize W2.setCell ⟨z.c,14,none⟩ (.int .i64 (wrap64 (m.st.probes+1)))=W3 at*;go_wp2_with fail
 go_end0
 exact⟨rfl,H3⟩
theorem A1.xz(h:A1 z l k w m x)(v:Int)(h0:0<=x.ag)(h1:x.ag<1099511627776)(hv:ic m.pl.wk v x.ag≠x.Sq):Cs 60 #[ptr (z.wq k),ptr z.c,v] w (.tuple #[]) λw'=>A1 z l k w' {m.iE with RY:=((DW.dM m.pl (ic m.pl.wk v x.ag)).step m.RY).2} {x with ag:=x.ag+1,dq:=some ((DW.dM m.pl (ic m.pl.wk v x.ag)).step m.RY).1,R8:=1}:=by
 have c1:=Hd (h.jf);unfold Co.gU at c1;have hf0:=zY;have hn:=h.bQ.1;have x4:w.cell? ⟨z.wq k,4,none⟩=some ↑x.ag:=h.cell 4 _ rfl;have FE:=Hd (λw (h:A1 z l k w m x)=>(⟨h.cell 4 _ rfl,h.fz,h.set 4 (.int .i64 (x.ag+1)) {x with ag:=x.ag+1} ⟨rfl,rfl,rfl,rfl,rfl⟩ (λ_ _ _ _ _ _=>rfl)⟩:w.cell? ⟨z.wq k,4,none⟩=some ↑x.ag/\(∀j,w.frozen? ⟨z.wq k,j,none⟩=false)/\A1 z l k (w.setCell ⟨z.wq k,4,none⟩ (.int .i64 (x.ag+1))) m {x with ag:=x.ag+1}));have cs:=Hd (λw (h:A1 z l k w m {x with ag:=x.ag+1})=>h.jQ);have FS:=Hd (λw (h:A1 z l k w m {x with ag:=x.ag+1})=>(⟨h.iA 14 _ rfl,h.cfz,h.fB 14 (.int .i64 (wrap64 (m.st.probes+1))) {m.st with probes:=wrap64 (m.st.probes+1)} m.ae m.status m.why rfl⟩:w.cell? ⟨z.c,14,none⟩=some ↑m.st.probes/\(∀j,w.frozen? ⟨z.c,j,none⟩=false)/\A1 z l k (w.setCell ⟨z.c,14,none⟩ (.int .i64 (wrap64 (m.st.probes+1)))) m.iE {x with ag:=x.ag+1}));have FO:=Hd (λw (h:A1 z l k w m.iE {x with ag:=x.ag+1})=>(h.cell 0 _ rfl:w.cell? ⟨z.wq k,0,none⟩=some ↑x.Sq));have cp:=Hd (λw (h:A1 z l k w m.iE {x with ag:=x.ag+1})=>(show Cs 91 #[ptr z.c] w m.pl.v λw'=>Below w.heap.size w w' from h.fP));unfold Pl.v at cp;have cst:=Hd (λw=>xZ m.pl.wk m.pl.fr m.pl.th m.pl.dq (ic m.pl.wk v x.ag) w);have FN:=Hd (λw0 w (h:A1 z l k w0 m.iE {x with ag:=x.ag+1}) (hB:Below w0.heap.size w0 w) b (hge:w0.heap.size<=b) (hO:dw w b (DW.dM m.pl (ic m.pl.wk v x.ag)))=>(h.yJ hB b hge _ hO).set 1 (.int .i64 1) {x with ag:=x.ag+1,dq:=some (DW.dM m.pl (ic m.pl.wk v x.ag)),R8:=1} ⟨rfl,rfl,rfl,rfl,rfl⟩ (λ_ _ _ _ _ _=>rfl))
 have cw:=Hd (λw (h:A1 z l k w m.iE {x with ag:=x.ag+1,dq:=some (DW.dM m.pl (ic m.pl.wk v x.ag)),R8:=1})=>h.aN);have cd:=Hd (λw (h:A1 z l k w m.iE {x with ag:=x.ag+1,dq:=some (DW.dM m.pl (ic m.pl.wk v x.ag)),R8:=1}) b hc=>h.gP _ rfl rfl trivial b hc);have HC:=h;have n0:0<=max v 0%m.pl.wk:=Int.emod_nonneg _ U2;have n1:max v 0%m.pl.wk<m.pl.wk:=Int.emod_lt_of_pos _ U2;have e2:IntKind.i64.wrap (max v 0%m.pl.wk+x.ag)=max v 0%m.pl.wk+x.ag:=by rw[IntKind.wrap_i64];omega
 have e3:(max v 0%m.pl.wk+x.ag).tmod m.pl.wk=ic m.pl.wk v x.ag:=Int.tmod_eq_emod_of_nonneg U2;have e4:IntKind.i64.wrap (x.ag+1)=x.ag+1:=by rw[IntKind.wrap_i64];omega
 have e1:(max v 0).tmod m.pl.wk=max v 0%m.pl.wk:=Int.tmod_eq_emod_of_nonneg U2;have n2:¬(m.pl.wk=0):=by omega
 have em:(if v<0 then 0 else v)=max v 0:=by split<;>omega
 have hv1:¬(ic m.pl.wk v x.ag=x.Sq):=hv;clear h hv h0 h1 n0 n1 hn;generalize ic m.pl.wk v x.ag=V at*;generalize max v 0%m.pl.wk=R at*;generalize max v 0=U at*
 skip
 go_enter func60,ntmps60
 go_upto_region 1 with(go_at_call 89;refine c1.o.q λw1 Sr=> ?_)
 replace HC:=HC.ai Sr;have x4:w1.cell? ⟨z.wq k,4,none⟩=some ↑x.ag:=HC.cell 4 _ rfl
 go_region_held3 (λw'=>w'.cell? ⟨z.wq k,4,none⟩=some ↑x.ag)
  (first|exact x4|exact kd x4)
  (fail)
 replace HC:=HC.drew;clear x4;generalize w1.drew=W at*;obtain⟨y4,z4,H2⟩:=FE.out _ HC;go_upto_region 3 with fail;clear y4 z4 Sr c1;generalize W.setCell ⟨z.wq k,4,none⟩ (.int .i64 (x.ag+1))=W2 at*;obtain⟨y14,z14,H3⟩:=FS.o _ H2;have y0:=FO.out _ H3
 go_upto_region 4 with(go_at_call 33;refine(cs.o _ H2).r ?_)
 clear y14 z14 H2 FS FE;generalize W2.setCell ⟨z.c,14,none⟩ (.int .i64 (wrap64 (m.st.probes+1)))=W3 at*;have l3:=H3.lt
 go_upto_region 6 with(first|(go_at_call 91;refine(cp.o _ H3).q λw7 hb7=> ?_)|(go_at_call 90;refine(cst.out _).mono ?_;rintro ev w8 ⟨b,rfl,hO,hbn,hb8⟩;have B8:=hb7.trans (hb8.mono hb7.size);have z8:=(H3.ai B8).fz;have y5:=(H3.ai B8).Na;obtain⟨v5,y5⟩:=y5;have y1:=(H3.ai B8).cell 1 _ rfl))
 have H8:=FN.out _ _ H3 B8 b (nT hb7.size hbn) hO;have y5':((w8.setCell ⟨z.wq k,5,none⟩ (ptr b)).setCell ⟨z.wq k,1,none⟩ (.int .i64 1)).cell? ⟨z.wq k,5,none⟩=some (ptr b):=by
  refine(World.cell?_setCell_other _ _ _ _ U8).trans ?_
  exact World.cell?_setCell_same _ _ _ (by rw[y5])
 clear y5 y1 z8;generalize(w8.setCell ⟨z.wq k,5,none⟩ (ptr b)).setCell ⟨z.wq k,1,none⟩ (.int .i64 1)=W9 at*
 go_region_held3 (λw'=>w'.cell? ⟨z.wq k,5,none⟩=some (ptr b))
  (first|exact y5'|exact kd y5'|assumption)
  (first|(go_at_call 93;refine(cw.o _ (by first|exact H8|exact H8.drew)).r ?_)|(go_at_call 92;refine(cd.o _ (by first|exact H8|exact H8.drew) b (by first|exact y5'|exact kd y5')).mono ?_;rintro ev w2 ⟨rfl,HC,y5⟩))
 all_goals
  go_wp2_with fail
  go_end0
  exact⟨rfl,by first|exact HC|exact HC.drew⟩
theorem A1.Pq(h:A1 z l k w m x)(v:Int)(m':Co)(x':WS)(hf:m.oF x v=some (m',x')):Cs 60 #[ptr (z.wq k),ptr z.c,v] w (.tuple #[]) λw'=>A1 z l k w' m' x':=by
 unfold Co.oF at hf
 split at hf
 ·rename_i hp
  split at hf
  ·rename_i hv
   simp only[oe]at hf;obtain⟨rfl,rfl⟩:=hf
   exact h.Dp v hp.1 hp.2 hv
  ·rename_i hv
   simp only[oe]at hf;obtain⟨rfl,rfl⟩:=hf
   exact h.xz v hp.1 hp.2 hv
 ·cases hf
theorem A1.xM(h:A1 z l k w m x)(i:Nat)(hi:m.ok i)(hs:(m.fr i).R9<100000):Cs 241 #[ptr z.c,.pointer (some ⟨z.fr,19*i,none⟩)] w (.int .i64 (((m.fr i).R9:Int)-m.pl.th)) λw'=>Below w.heap.size w w':=by
 have c1:=Hd (λw (h:A1 z l k w m x)=>h.jf);unfold Co.gU at c1;have hf1:=JQ;have y17:w.cell? ⟨z.fr,19*i+17,none⟩=some (.int .i64 (m.fr i).R9):=h.frame i hi 17 U0 _ rfl;have lf:z.fr<w.heap.size:=bL w _ y17;have hth:=h.bQ.2.2.1;have e1:IntKind.i64.wrap (((m.fr i).R9:Int)-m.pl.th)=((m.fr i).R9:Int)-m.pl.th:=by rw[IntKind.wrap_i64];omega
 have H0:=Hd h;clear h hs hi hth;generalize 19*i=I at*;generalize(m.fr i).R9=sd at*;go_enter func241,ntmps241;go_upto_region 1 with fail
 go_region_held3 (λw'=>w'.cell? ⟨z.fr,I+17,none⟩=some ↑sd)
  (first|exact y17|exact kd y17|exact kb U6 lf y17|exact kb U6 lf (kd y17))
  (first|(go_at_call 89;refine(c1.o _ U53).q λw1 Sr=> ?_))
 all_goals
  go_wp2_with fail
  go_ret
  exact⟨rfl,by first|exact Sr|exact(Below.refl _ _).drew.trans Sr⟩
def Co.starts(m:Co)(x:WS)(i:Nat):Option (Co×WS):=
 if m.gG/\(m.fr i).R9+1<100000 then
  match m.pick with
  |none=>some (m.stop 5 1,x)
  |some (j,B,n)=>if j≠i then some ((m.made j B n ((m.fr i).iter i)).ak i {m.fr i with R9:=(m.fr i).R9+1},{x with other:=j,R8:=22})else none
 else none
def Co.vM(m:Co)(i n:Nat):Bool:=m.RY.getD (m.pl.wN i n 3) 0==aA (m.fr i).ae n 0
def Co.loops(m:Co)(x:WS)(i:Nat):Option (Co×WS):=
 if(m.fr i).R9<99998 then
  (if((m.fr i).R9:Int)<m.pl.th then m.starts x i
  else if m.vM i ((m.fr i).R9-m.pl.th.toNat)=true then some (m,{x with R8:=21})
  else some ({m with st:={m.st with dx:=wrap64 (m.st.dx+1)}},{x with np:=some ⟨m.pl,i,(m.fr i).ae,(m.fr i).R9-m.pl.th.toNat,0,false,false⟩,other:=i,Sa:=0,R8:=20}))
 else none
theorem A1.zQ(h:A1 z l k w m x)(i:Nat)(hi:m.ok i)(hx:x.Sa=i)(m':Co)(x':WS)(hf:m.starts x i=some (m',x')):Cs 180 #[ptr (z.wq k),ptr z.c] w (.tuple #[]) λw'=>A1 z l k w' m' x':=by
 unfold Co.starts at hf
 split at hf
 ·rename_i ha
  split at hf
  ·rename_i hp
   simp only[oe]at hf;obtain⟨rfl,rfl⟩:=hf
   exact h.xA i hi hx ha.1 hp ha.2
  ·rename_i j B n hp
   split at hf
   ·rename_i hj
    simp only[oe]at hf;obtain⟨rfl,rfl⟩:=hf
    exact h.xB i hi hx ha.1 j B n hp hj ha.2
   ·cases hf
 ·cases hf
theorem A1.P6(h:A1 z l k w m x):∃v,w.cell? ⟨z.wq k,19,none⟩=some v:=by
 obtain⟨bk,ov,gv,g,R,hk,⟨dv,tv,rv,pv,kv,nv,hb,_⟩,C⟩:=h.parts
 exact⟨_,hb.cell 19⟩
theorem A1.Rm(h:A1 z l k w m x){b:Nat}{cs:Array Value}{t:TypeId}(hb:af w b cs t)(ht:t≠ 135):b≠z.c:=by
 obtain⟨bk,ov,gv,g,R,hk,W,Cc⟩:=h.parts;rintro rfl
 exact ht (hb.typ Cc.core)
theorem A1.xw(h:A1 z l k w m x)(i:Nat)(hi:m.ok i)(hx:x.Sa=i)(hs:(m.fr i).R9<100000)(hlt:((m.fr i).R9:Int)<m.pl.th)(m':Co)(x':WS)(hf:m.starts x i=some (m',x')):Cs 178 #[ptr (z.wq k),ptr z.c] w (.tuple #[]) λw'=>A1 z l k w' m' x':=by
 have c0:=Hd (h.aT i hi hx);have c1:=Hd (h.xM i hi hs);have c2:=Hd (λw (h:A1 z l k w m x)=>h.fE i hi);unfold fZ at c2;have FX:=Hd (λw (h:A1 z l k w m x)=>(h.cell 2 _ U21:w.cell? ⟨z.wq k,2,none⟩=some ↑i));have c3:=Hd (λw (h:A1 z l k w m x)=>h.zQ i hi hx m' x' hf);have d1:((m.fr i).R9:Int)-m.pl.th<0:=by omega
 generalize((m.fr i).R9:Int)-m.pl.th=N at*;have HC:=h;clear h hx hs hi hlt hf;generalize hsr:(m.fr i).ae=sr at*;clear hsr;generalize 19*i=I at*;go_enter func178,ntmps178
 go_upto_region 2 with(first|(go_at_call 139;refine c0.o.r ?_)|(go_at_call 241;refine c1.o.q λw1 Sr=> ?_))
 replace HC:=HC.ai Sr;clear c0 c1 Sr;have x2:=FX.out _ HC;have lq:=HC.lt
 go_upto_region 6 with(go_at_call 156;refine(c2.o _ HC).q λw3 hb3=> ?_)
 have H3:=(HC.ai hb3).alloc (.cells #[m.pl.wk,m.pl.fr,m.pl.th,m.pl.dq,i,sr] 247);have bg:=af.new w3 #[m.pl.wk,m.pl.fr,m.pl.th,m.pl.dq,i,sr] 247 _ rfl;clear HC hb3 c2 x2 lq;generalize w3.alloc (.cells #[m.pl.wk,m.pl.fr,m.pl.th,m.pl.dq,i,sr] 247)=W at*;generalize w3.heap.size=g at*
 go_wp2_with (go_at_call 180;refine(c3.o _ H3).q λw4 H4=> ?_)
 go_end0
 exact⟨rfl,H4⟩
theorem A1.xu(h:A1 z l k w m x)(i:Nat)(hi:m.ok i)(hx:x.Sa=i)(hs:(m.fr i).R9<100000)(n:Nat)(hn:((m.fr i).R9:Int)-m.pl.th=n)(he:m.vM i n=true):Cs 178 #[ptr (z.wq k),ptr z.c] w (.tuple #[]) λw'=>A1 z l k w' m {x with R8:=21}:=by
 have c0:=Hd (h.aT i hi hx);have c1:=Hd (h.xM i hi hs);have c2:=Hd (λw (h:A1 z l k w m x)=>h.fE i hi);unfold fZ at c2;have FX:=Hd (λw (h:A1 z l k w m x)=>(h.cell 2 _ U21:w.cell? ⟨z.wq k,2,none⟩=some ↑i));rw[hn]at c1;have d1:¬((n:Int)<0):=by omega
 have cw:=Hd (λw (h:A1 z l k w m x)=>h.aN);have ce:=Hd (λw (h:A1 z l k w m x)=>(show Cs 242 #[.agg #[m.pl.wk,m.pl.fr,m.pl.th,m.pl.dq,i,.int .i64 (m.fr i).ae],ptr z.ws,n] w (.bool true) λw'=>Below w.heap.size w w' from by rw[<-he];exact qx m.pl h.bQ i (m.fr i).ae n z.ws z.wd m.RY (ja _ h.bQ i _ 3 U0 m.RY h.bU) w h.RY));have FE:=Hd (λw (h:A1 z l k w m x)=>(⟨h.cell 1 _ rfl,h.fz,h.set 1 (.int .i64 21) {x with R8:=21} ⟨rfl,rfl,rfl,rfl,rfl⟩ (λ_ _ _ _ _ _=>rfl)⟩:w.cell? ⟨z.wq k,1,none⟩=some ↑x.R8/\(∀j,w.frozen? ⟨z.wq k,j,none⟩=false)/\A1 z l k (w.setCell ⟨z.wq k,1,none⟩ (.int .i64 21)) m {x with R8:=21}));have HC:=h;clear h hx hs hi hn he;generalize hsr:(m.fr i).ae=sr at*;clear hsr;generalize 19*i=I at*;go_enter func178,ntmps178
 go_upto_region 2 with(first|(go_at_call 139;refine c0.o.r ?_)|(go_at_call 241;refine c1.o.q λw1 Sr=> ?_))
 replace HC:=HC.ai Sr;clear c0 c1 Sr;have x2:=FX.out _ HC;have lq:=HC.lt
 go_upto_region 6 with(go_at_call 156;refine(c2.o _ HC).q λw3 hb3=> ?_)
 have H3:=(HC.ai hb3).alloc (.cells #[m.pl.wk,m.pl.fr,m.pl.th,m.pl.dq,i,sr] 247);have bg:=af.new w3 #[m.pl.wk,m.pl.fr,m.pl.th,m.pl.dq,i,sr] 247 _ rfl;clear HC hb3 c2 x2 lq;generalize w3.alloc (.cells #[m.pl.wk,m.pl.fr,m.pl.th,m.pl.dq,i,sr] 247)=W at*;generalize w3.heap.size=g at*;have k0:=bg.c0;have k1:=bg.c1;have k2:=bg.c2;have k3:=bg.c3;have k4:=bg.c4;have k5:=bg.c5;have lg:=bg.lt;go_upto_region 8 with fail
 go_region_held3 (λw'=>w'.cell? ⟨g,0,none⟩=some ↑m.pl.wk/\w'.cell? ⟨g,1,none⟩=some ↑m.pl.fr/\w'.cell? ⟨g,2,none⟩=some ↑m.pl.th/\w'.cell? ⟨g,3,none⟩=some ↑m.pl.dq/\w'.cell? ⟨g,4,none⟩=some ↑i/\w'.cell? ⟨g,5,none⟩=some ↑sr)
  (exact U162)
  (first|(go_at_call 93;refine(cw.o _ U30).r ?_)|(go_at_call 242;refine(ce.o _ U30).q λw5 hb5=> ?_))
 all_goals
  have H5:=(by first|exact H3.ai hb5|exact H3.drew.ai hb5:A1 z l k _ m x);have b5:=(by first|exact bg.below hb5 bg.lt|exact bg.drew.below hb5 bg.lt:af _ g _ _);obtain⟨y1,z1,H6⟩:=FE.out _ H5;go_wp2_with fail
  go_end0
  exact⟨rfl,by first|exact H6|exact H6.drew⟩
theorem A1.Dk(h:A1 z l k w m x)(i:Nat)(hi:m.ok i)(hx:x.Sa=i)(hs:(m.fr i).R9<100000)(n:Nat)(hn:((m.fr i).R9:Int)-m.pl.th=n)(he:m.vM i n=false):Cs 178 #[ptr (z.wq k),ptr z.c] w (.tuple #[]) λw'=>A1 z l k w' ({m with st:={m.st with dx:=wrap64 (m.st.dx+1)}}:Co) {x with np:=some ⟨m.pl,i,(m.fr i).ae,n,0,false,false⟩,other:=i,Sa:=0,R8:=20}:=by
 have c0:=Hd (h.aT i hi hx);have c1:=Hd (h.xM i hi hs);have c2:=Hd (λw (h:A1 z l k w m x)=>h.fE i hi);unfold fZ at c2;have FX:=Hd (λw (h:A1 z l k w m x)=>(h.cell 2 _ U21:w.cell? ⟨z.wq k,2,none⟩=some ↑i));rw[hn]at c1;have d1:¬((n:Int)<0):=by omega
 have cw:=Hd (λw (h:A1 z l k w m x)=>h.aN);have ce:=Hd (λw (h:A1 z l k w m x)=>(show Cs 242 #[.agg #[m.pl.wk,m.pl.fr,m.pl.th,m.pl.dq,i,.int .i64 (m.fr i).ae],ptr z.ws,n] w (.bool false) λw'=>Below w.heap.size w w' from by rw[<-he];exact qx m.pl h.bQ i (m.fr i).ae n z.ws z.wd m.RY (ja _ h.bQ i _ 3 U0 m.RY h.bU) w h.RY));have cs:=Hd (λw (h:A1 z l k w m x)=>h.jQ);have FS:=Hd (λw (h:A1 z l k w m x)=>(⟨h.iA 17 _ rfl,h.cfz,h.fB 17 (.int .i64 (wrap64 (m.st.dx+1))) {m.st with dx:=wrap64 (m.st.dx+1)} m.ae m.status m.why rfl⟩:w.cell? ⟨z.c,17,none⟩=some ↑m.st.dx/\(∀j,w.frozen? ⟨z.c,j,none⟩=false)/\A1 z l k (w.setCell ⟨z.c,17,none⟩ (.int .i64 (wrap64 (m.st.dx+1)))) ({m with st:={m.st with dx:=wrap64 (m.st.dx+1)}}:Co) x));have cz:=Hd (λw=>yL m.pl.wk m.pl.fr m.pl.th m.pl.dq i (m.fr i).ae n w);have FN:=Hd (λw0 w (h:A1 z l k w0 ({m with st:={m.st with dx:=wrap64 (m.st.dx+1)}}:Co) x) (hB:Below w0.heap.size w0 w) b (hge:w0.heap.size<=b) (hO:af w b (NW.arr ⟨m.pl,i,(m.fr i).ae,n,0,false,false⟩) 307)=>(show A1 z l k (w.setCell ⟨z.wq k,19,none⟩ (ptr b)) ({m with st:={m.st with dx:=wrap64 (m.st.dx+1)}}:Co) {x with np:=some ⟨m.pl,i,(m.fr i).ae,n,0,false,false⟩}from h.Ov hB b hge ⟨m.pl,i,(m.fr i).ae,n,0,false,false⟩ hO));have FG:=Hd (λw (h:A1 z l k w ({m with st:={m.st with dx:=wrap64 (m.st.dx+1)}}:Co) {x with np:=some ⟨m.pl,i,(m.fr i).ae,n,0,false,false⟩})=>(⟨h.cell 2 _ U21,h.cell 7 _ rfl,h.cell 1 _ rfl,h.fz,((h.set 7 ↑i {x with np:=some ⟨m.pl,i,(m.fr i).ae,n,0,false,false⟩,other:=i} ⟨rfl,rfl,rfl,rfl,rfl⟩ (λ_ _ _ _ _ _=>rfl)).set 2 (.int .i64 0) {x with np:=some ⟨m.pl,i,(m.fr i).ae,n,0,false,false⟩,other:=i,Sa:=0} ⟨rfl,rfl,rfl,rfl,rfl⟩ (λ_ _ _ _ _ _=>rfl)).set 1 (.int .i64 20) {x with np:=some ⟨m.pl,i,(m.fr i).ae,n,0,false,false⟩,other:=i,Sa:=0,R8:=20} ⟨rfl,rfl,rfl,rfl,rfl⟩ (λ_ _ _ _ _ _=>rfl)⟩:w.cell? ⟨z.wq k,2,none⟩=some ↑i/\w.cell? ⟨z.wq k,7,none⟩=some ↑x.other/\w.cell? ⟨z.wq k,1,none⟩=some ↑x.R8/\(∀j,w.frozen? ⟨z.wq k,j,none⟩=false)/\A1 z l k (((w.setCell ⟨z.wq k,7,none⟩ ↑i).setCell ⟨z.wq k,2,none⟩ (.int .i64 0)).setCell ⟨z.wq k,1,none⟩ (.int .i64 20)) ({m with st:={m.st with dx:=wrap64 (m.st.dx+1)}}:Co) {x with np:=some ⟨m.pl,i,(m.fr i).ae,n,0,false,false⟩,other:=i,Sa:=0,R8:=20}))
 have HC:=h;clear h hx hs hi hn he;generalize hsr:(m.fr i).ae=sr at*;clear hsr;generalize 19*i=I at*;go_enter func178,ntmps178
 go_upto_region 2 with(first|(go_at_call 139;refine c0.o.r ?_)|(go_at_call 241;refine c1.o.q λw1 Sr=> ?_))
 replace HC:=HC.ai Sr;clear c0 c1 Sr;have x2:=FX.out _ HC;have lq:=HC.lt
 go_upto_region 6 with(go_at_call 156;refine(c2.o _ HC).q λw3 hb3=> ?_)
 have H3:=(HC.ai hb3).alloc (.cells #[m.pl.wk,m.pl.fr,m.pl.th,m.pl.dq,i,sr] 247);have bg:=af.new w3 #[m.pl.wk,m.pl.fr,m.pl.th,m.pl.dq,i,sr] 247 _ rfl;clear HC hb3 c2 x2 lq;generalize w3.alloc (.cells #[m.pl.wk,m.pl.fr,m.pl.th,m.pl.dq,i,sr] 247)=W at*;generalize w3.heap.size=g at*;have k0:=bg.c0;have k1:=bg.c1;have k2:=bg.c2;have k3:=bg.c3;have k4:=bg.c4;have k5:=bg.c5;have lg:=bg.lt;go_upto_region 8 with fail
 go_region_held3 (λw'=>w'.cell? ⟨g,0,none⟩=some ↑m.pl.wk/\w'.cell? ⟨g,1,none⟩=some ↑m.pl.fr/\w'.cell? ⟨g,2,none⟩=some ↑m.pl.th/\w'.cell? ⟨g,3,none⟩=some ↑m.pl.dq/\w'.cell? ⟨g,4,none⟩=some ↑i/\w'.cell? ⟨g,5,none⟩=some ↑sr)
  (exact U162)
  (first|(go_at_call 93;refine(cw.o _ U30).r ?_)|(go_at_call 242;refine(ce.o _ U30).q λw5 hb5=> ?_))
 all_goals
  have H5:=(by first|exact H3.ai hb5|exact H3.drew.ai hb5:A1 z l k _ m x);have b5:=(by first|exact bg.below hb5 bg.lt|exact bg.drew.below hb5 bg.lt:af _ g _ _);have nc:=H5.Rm b5 U0;obtain⟨y17,z17,H6⟩:=FS.o _ H5
  go_upto_region 4 with(go_at_call 33;refine(cs.o _ U84).r ?_)
  have b6:=b5.far (a:=⟨z.c,17,none⟩) nc (.int .i64 (wrap64 (m.st.dx+1)));clear k0 k1 k2 k3 k4 k5 y17 z17 H5 b5 bg H3 FS cs;generalize w5.setCell ⟨z.c,17,none⟩ (.int .i64 (wrap64 (m.st.dx+1)))=W6 at*;have k0:=b6.c0;have k1:=b6.c1;have k2:=b6.c2;have k3:=b6.c3;have k4:=b6.c4;have k5:=b6.c5
  go_upto_region 5 with(go_at_call 243;refine(cz.o _).mono ?_;rintro ev w7 ⟨b,rfl,hO,hbn,hb7⟩;have z7:=(H6.ai hb7).fz;have y19:=(H6.ai hb7).P6;obtain⟨v19,y19⟩:=y19)
  have H7:=FN.out _ _ H6 hb7 b hbn hO;clear y19 z7;generalize w7.setCell ⟨z.wq k,19,none⟩ (ptr b)=W8 at*;obtain⟨y2,y7,y1,z8,H8⟩:=FG.out _ H7;go_wp2_with fail
  go_end0
  exact⟨rfl,by first|exact H8|exact H8.drew⟩
theorem A1.Pn(h:A1 z l k w m x)(i:Nat)(hi:m.ok i)(hx:x.Sa=i)(m':Co)(x':WS)(hf:m.loops x i=some (m',x')):Cs 178 #[ptr (z.wq k),ptr z.c] w (.tuple #[]) λw'=>A1 z l k w' m' x':=by
 have hth:=h.bQ.2.2.1;unfold Co.loops at hf
 split at hf
 ·rename_i hs
  split at hf
  ·rename_i hlt
   exact h.xw i hi hx U2 hlt m' x' hf
  ·rename_i hlt
   have hn:((m.fr i).R9:Int)-m.pl.th=(((m.fr i).R9-m.pl.th.toNat:Nat):Int):=by omega
   split at hf
   ·rename_i he
    simp only[oe]at hf;obtain⟨rfl,rfl⟩:=hf
    exact h.xu i hi hx U2 _ hn he
   ·rename_i he
    simp only[oe]at hf;obtain⟨rfl,rfl⟩:=hf
    exact h.Dk i hi hx U2 _ hn (by simpa using he)
 ·cases hf
theorem A1.Qs(h:A1 z l k w m x)(ev:Ev)(h1:m.log.length<100000):Cs 140 #[ptr z.g,.agg #[ev.kind,ev.loop,ev.iter,ev.Sc]] w (.tuple #[]) λw'=>A1 z l k w' {m with log:=m.log++[ev]} x/\(∀b cs,b≠z.fr->af w b cs 176 ->af w' b cs 176):=by
 obtain⟨bk,ov,gv,g,R,hk,W,C⟩:=h.parts;refine(Ar w (z.y bk ov gv) m ev C h1).mono λe w' ⟨e1,v,C',F,K⟩=>⟨e1,A1.fC h.1 R K (λb q=>?_) _ bk ov v C' (λb q=>?_),λb cs _ hb=>K.blk hb (λq=>?_)⟩
 ·rcases q with q|q
  ·exact U138
  ·exact U141
 ·exact Us7
 ·rcases q with q|q
  ·subst q;exact absurd (hb.typ C.log) U0
  ·obtain⟨cs',q2⟩:=C.evs.type q;exact absurd (hb.typ q2) U0
theorem A1.Qg(h:A1 z l k w m x)(i:Nat)(hok:m.ok i)(ha:m.gG):Cs 239 #[ptr z.t,i] w (.bool true) λw'=>A1 z l k w' (m.Si i) x/\(∀b cs,b≠z.fr->af w b cs 176 ->af w' b cs 176):=by
 obtain⟨bk,ov,gv,g,R,hk,W,C⟩:=h.parts;refine(wQ w (z.y bk ov gv) m C i hok ha.2.2.1 ha.1).mono λe w' ⟨e1,v,C',F,K⟩=>⟨e1,A1.fC h.1 R K (λb q=>?_) _ v ov gv C' (λb q=>?_),λb cs _ hb=>K.blk hb (λq=>?_)⟩
 ·rcases q with q|q|q
  ·exact U138
  ·exact U138
  ·exact U141
 ·exact Us7
 ·rcases q with q|q|q
  ·subst q;exact absurd (hb.typ C.arena) U0
  ·subst q;exact absurd (hb.typ C.Sj) U0
  ·obtain⟨cs',q2⟩:=C.back.type q;exact absurd (hb.typ q2) U0
def Co.ended(m:Co)(i:Nat):Co:={m with log:=m.log++[⟨5,(m.fr i).ae,(m.fr i).R9,0⟩]}
def Co.completes(m:Co)(x:WS)(i:Nat):Option (Co×WS):=
 if m.gG/\m.log.length<100000/\m.ok (m.fr i).Sg.toNat/\(m.fr i).Sg.toNat≠i/\((m.fr i).Sg.toNat:Int)=(m.fr i).Sg then
  some (((m.ended i).ak (m.fr i).Sg.toNat {m.fr (m.fr i).Sg.toNat with rg:=(m.fr i).rg}).Si i,{x with Sa:=(m.fr i).Sg,R8:=4})
 else none
theorem Gl{w:World}{b:Nat}{t:TypeId}(F:Fr)(h:af w b F.cells.toArray t):w.rangeAt b 3 (jE F.rg):=λj v e=>by
 have hj:j<8:=(List.getElem?_eq_some_iff.1 e).1;rw[h.cell]
 match j,hj with
 |0,_=>exact e
 |1,_=>exact e
 |2,_=>exact e
 |3,_=>exact e
 |4,_=>exact e
 |5,_=>exact e
 |6,_=>exact e
 |7,_=>exact e
theorem A1.zm(h:A1 z l k w m x)(i p:Nat)(hi:m.ok i)(hx:x.Sa=i)(ha:m.gG)(hl:m.log.length<100000)(hp:m.ok p)(hpi:p≠i)(hpa:(m.fr i).Sg=p):Cs 177 #[ptr (z.wq k),ptr z.c] w (.tuple #[]) λw'=>A1 z l k w' (((m.ended i).ak p {m.fr p with rg:=(m.fr i).rg}).Si i) {x with Sa:=p,R8:=4}:=by
 have c0:=Hd (h.aT i hi hx);have RF:=Hd (h.dD i hi);have c1:=Hd (λw (h:A1 z l k w m x)=>h.Jp);have c2:=Hd (λw (h:A1 z l k w m x)=>(show Cs 140 #[ptr z.g,.agg #[(5:Int),.int .i64 (m.fr i).ae,.int .i64 (m.fr i).R9,(0:Int)]] w (.tuple #[]) λw'=>A1 z l k w' (m.ended i) x/\(∀b cs,b≠z.fr->af w b cs 176 ->af w' b cs 176)from h.Qs ⟨5,(m.fr i).ae,(m.fr i).R9,0⟩ hl));have HRG:=Hd (λw (h:A1 z l k w (m.ended i) x)=>(show A1 z l k (w.setCells z.fr (19*p+3) (jE (m.fr i).rg)) ((m.ended i).ak p {m.fr p with rg:=(m.fr i).rg}) x from h.jw p hp (m.fr i).rg));have HTH:=Hd (λw (h:A1 z l k w (m.ended i) x)=>(show w.there z.fr (19*p+3) ((jE (m.fr i).rg).toArray.size)from h.jA p hp));have HON:=Hd (jv (m.fr i).rg);have HSR:=Hd (show(prog.info? 174).map (·.size)=some (jE (m.fr i).rg).length from ky);have ca:=Hd (λw (h:A1 z l k w (m.ended i) x)=>h.at_ p hp);have ct:=Hd (λw (h:A1 z l k w ((m.ended i).ak p {m.fr p with rg:=(m.fr i).rg}) x)=>h.dZ);have cf:=Hd (λw (h:A1 z l k w ((m.ended i).ak p {m.fr p with rg:=(m.fr i).rg}) x)=>h.Qg i hi ha);have cr:=Hd (λw (h:A1 z l k w (((m.ended i).ak p {m.fr p with rg:=(m.fr i).rg}).Si i) x)=>h.rq p);have FX:=Hd (λw (h:A1 z l k w ((m.ended i).ak p {m.fr p with rg:=(m.fr i).rg}) x)=>(h.cell 2 _ U21:w.cell? ⟨z.wq k,2,none⟩=some ↑i));have FY:=Hd (λw (h:A1 z l k w (((m.ended i).ak p {m.fr p with rg:=(m.fr i).rg}).Si i) x)=>(h.cell 2 _ U21:w.cell? ⟨z.wq k,2,none⟩=some ↑i));have RR:=Hd (λw b (h:af w b (m.fr i).cells.toArray 176)=>(⟨(h.cell 11).trans U35,Gl _ h⟩:w.cell? ⟨b,11,none⟩=some ↑p/\w.rangeAt b 3 (jE (m.fr i).rg)))
 have RS:=Hd (λw b (h:af w b (m.fr i).cells.toArray 176)=>(⟨h.cell 18,h.cell 17⟩:w.cell? ⟨b,18,none⟩=some (.int .i64 (m.fr i).ae)/\w.cell? ⟨b,17,none⟩=some (.int .i64 (m.fr i).R9)));have lf:z.fr<w.heap.size:=bL w _ (h.frame i hi 0 U0 _ rfl);have H0:=Hd h;clear h hx ha hl hpi hpa hi hp;have B0:=af.new w #[(0:Int),(0:Int),(0:Int),(0:Int),(0:Int),(0:Int),(0:Int),(0:Int),(0:Int),(0:Int),(0:Int),(0:Int),.bool false,.bool false,(0:Int),(0:Int),(0:Int),(0:Int),(0:Int)] 176 _ rfl;go_enter func177,ntmps177
 go_upto_region 1 with(first|(go_at_call 139;refine c0.o.r ?_)|(refine wpList_load_mid rfl 176 (.tmp 8) rfl z.fr (19*i) rfl (m.fr i).cells _ RF.out underlying176 rfl dm ?_)|(refine aQ rfl 176 (.tmp 4) (.tmp 9) rfl w.heap.size #[(0:Int),(0:Int),(0:Int),(0:Int),(0:Int),(0:Int),(0:Int),(0:Int),(0:Int),(0:Int),(0:Int),(0:Int),.bool false,.bool false,(0:Int),(0:Int),(0:Int),(0:Int),(0:Int)] (m.fr i).cells.toArray 176 B0 rfl rfl dm rfl (by simp[Fr.cells,Value.oneCell']) ?_;intro w2 b2 k2))
 have gf:w.heap.size≠z.fr:=by omega
 have HC:A1 z l k w2 m x:=H0.o.ai ((Ba _).trans (k2.below (λq e=>by have e':q=w.heap.size:=e;omega) U8));clear RF c0 B0 k2 H0 lf;generalize w.heap.size=g at*;obtain⟨r18,r17⟩:=RS.out _ _ b2
 go_region_held3 (λw'=>w'.cell? ⟨g,18,none⟩=some (.int .i64 (m.fr i).ae)/\w'.cell? ⟨g,17,none⟩=some (.int .i64 (m.fr i).R9))
  (first|exact⟨r18,r17⟩|exact⟨kd r18,kd r17⟩|exact RS.out _ _ b3)
  (first|(go_at_call 38;refine(c1.o _ U15).r ?_)|(go_at_call 140;refine(c2.o _ U15).mono ?_;rintro ev w4 ⟨rfl,H4,HB4⟩;have b3:=(by first|exact HB4 _ _ gf b2|exact HB4 _ _ gf b2.drew:af w4 g (m.fr i).cells.toArray 176)))
 replace H4:=(by first|exact H4|exact H4.drew:A1 z l k _ (m.ended i) x)
 clear r18 r17 b2 c1 c2 RS HC;generalize hrs:jE (m.fr i).rg=rs at*;obtain⟨q11,qr⟩:=RR.out _ _ b3;go_upto_region 2 with fail;have gp:g≠z.fr:=gf;replace b3:=b3.drew;refine wp_region_held_drew (S:=(λw'=>w'.cell? ⟨g,11,none⟩=some ↑p/\w'.rangeAt g 3 rs)) U7 (RR.out _ _ b3) (λhHeld=>?_);replace H4:=H4.drew;clear q11 qr;generalize w4.drew=w4d at*;obtain⟨q11,qr⟩:=RR.out _ _ b3;refine hU 0 ?_;refine hU 1 ?_;refine hU 2 ?_;refine pz ?_;refine hU 4 ?_;refine wpAnyH_take (i:=5) (oi:=_) (v:=_) rfl U7 U7 U7 (λ_ _ _ h=>h) (yieldsIf_load_mid (by rfl) _ _ rfl _ _ rfl _ _ (λw q=>q.2) underlying174 rfl HSR.o) U6 ?_;refine pz ?_;refine wpAnyH_ready (rs:=[3]) U7 U8 ?_;refine hA (λK hK=>?_)
 (try simp only[List.getElem_toArray,List.getElem_cons_zero,List.getElem_cons_succ])
 go_simp
 (go_at_call 141;refine(ca.o _ H4).r ?_)
 refine hK.o _ _ (RR.out _ _ b3) (λhHeld=>?_);clear hK K;refine pz ?_;refine hU 6 ?_;refine hU 7 ?_;refine pz ?_;refine wpAnyH_ready (rs:=[8]) U7 U8 ?_;refine hA (λK hK=>?_)
 (try simp only[List.getElem_toArray,List.getElem_cons_zero,List.getElem_cons_succ])
 rw[if_pos (by rfl)];refine wp_store_mid _ _ _ rfl _ _ (List.toArray _) rfl rfl (HTH.o _ H4) HSR.o (all_oneCell_toArray HON.o) ?_;have b5:af (w4d.setCells z.fr (19*p+3) rs) g (m.fr i).cells.toArray 176 :=(World.heap_setCells_other _ _ _ _ b3.lt gf).trans b3;refine hK.o _ _ (RR.out _ _ b5) (λhHeld=>?_);clear hK K;refine pz ?_;refine wpAnyH_done U7 ?_ _;clear q11 qr ca HTH HSR HON;have H5:=HRG.o _ H4;go_upto_region 3 with fail;generalize(w4d.setCells z.fr (19*p+3) rs)=W5 at*;have x2:=FX.out _ H5;obtain⟨q11,qr⟩:=RR.out _ _ b5;clear qr
 go_region_held3 (λw'=>w'.cell? ⟨z.wq k,2,none⟩=some ↑i)
  (first|exact x2|exact kd x2|exact FY.out _ H6)
  (first|(go_at_call 34;refine(ct.o _ U84).r ?_)|(go_at_call 239;refine(cf.o _ U84).mono ?_;rintro ev w7 ⟨rfl,H6,HB6⟩;have b6:=(by first|exact HB6 _ _ gf b5|exact HB6 _ _ gf b5.drew:af w7 g (m.fr i).cells.toArray 176)))
 all_goals
  obtain⟨p11,pr⟩:=RR.out _ _ b6;replace H6:=(by first|exact H6|exact H6.drew:A1 z l k _ _ x);clear q11 pr x2
  go_wp2_with (go_at_call 88;refine(cr.out _ H6).q λw8 H8=> ?_)
  go_end0
  exact⟨rfl,H8⟩
theorem A1.xQ(h:A1 z l k w m x)(i:Nat)(hi:m.ok i)(hx:x.Sa=i)(m':Co)(x':WS)(hf:m.completes x i=some (m',x')):Cs 177 #[ptr (z.wq k),ptr z.c] w (.tuple #[]) λw'=>A1 z l k w' m' x':=by
 unfold Co.completes at hf
 split at hf
 ·rename_i hp
  simp only[oe]at hf;obtain⟨rfl,rfl⟩:=hf;have q:=h.zm i _ hi hx hp.1 hp.2.1 hp.2.2.1 hp.2.2.2.1 hp.2.2.2.2.symm;rw[hp.2.2.2.2]at q
  exact q
 ·cases hf
theorem Us45 {p:Prop} (h:p:=by
 split at hf
 ·rename_i hl
  simp only[oe]at hf;obtain⟨rfl,rfl⟩:=hf
  exact q.mono λev w' ⟨e,a⟩=>⟨e,by simp only[if_pos hl]at a;exact a⟩
 ·rename_i hl
  simp only[oe]at hf;obtain⟨rfl,rfl⟩:=hf
  exact q.mono λev w' ⟨e,a⟩=>⟨e,by simp only[if_neg hl]at a;exact a⟩):p:=h
def Pl.same(a b:Pl):Bool:=a.wk==b.wk&&a.fr==b.fr&&a.th==b.th&&a.dq==b.dq
theorem Pl.same_eq{a b:Pl}(h:a.same b=true):a=b:=by
 obtain⟨a1,a2,a3,a4⟩:=a;obtain⟨b1,b2,b3,b4⟩:=b;simp[Pl.same]at h;obtain⟨⟨⟨rfl,rfl⟩,rfl⟩,rfl⟩:=h
 rfl
def Co.has(m:Co)(n:Int):Bool:=Decidable.decide (m.ok n.toNat/\(n.toNat:Int)=n)
theorem Co.aZ{m:Co}{n:Int}(h:m.has n=true):m.ok n.toNat/\n=(n.toNat:Int):=by
 have q:=of_decide_eq_true h
 exact⟨q.1,q.2.symm⟩
def Co.up(m:Co)(i:Nat):Nat:=(m.fr i).Sg.toNat
def Co.walk(m:Co)(r:DW):Co:={m with RY:=(r.step m.RY).2}
def Co.nC(m:Co)(x:WS):Option (Co×WS):=
 match x.dq with
 |none=>none
 |some r=>
  if r.p.same m.pl&&r.tK m.RY then
   (if(r.step m.RY).1.nx.ends=false then some (m.walk r,{x with dq:=some (r.step m.RY).1})
   else if(r.step m.RY).1.Sl=false then some (m.walk r,{x with dq:=some (r.step m.RY).1,R8:=0})
   else if m.has (r.step m.RY).1.x then some ({m.walk r with st:={m.st with bD:=wrap64 (m.st.bD+1)}},({x with dq:=some (r.step m.RY).1}:WS).takes (r.step m.RY).1.x.toNat (m.fr (r.step m.RY).1.x.toNat).kind)
   else none)
  else none
def Co.Bh(m:Co)(x:WS):Option (Co×WS):=
 match x.dq with
 |none=>none
 |some r=>
  if r.p.same m.pl&&r.tK m.RY then
   (if(r.step m.RY).1.nx.ends=false then some (m.walk r,{x with dq:=some (r.step m.RY).1})
   else if(r.step m.RY).1.Sl=false then some (m.walk r,{x with dq:=some (r.step m.RY).1,tail:=(r.step m.RY).1.t,R8:=0})
   else if m.has (r.step m.RY).1.x then some (m.walk r,({x with dq:=some (r.step m.RY).1,tail:=(r.step m.RY).1.t}:WS).takes (r.step m.RY).1.x.toNat (m.fr (r.step m.RY).1.x.toNat).kind)
   else none)
  else none
def Co.pQ(m:Co)(x:WS):Option (Co×WS):=
 match x.dq with
 |none=>none
 |some r=>
  if r.p.same m.pl&&r.tK m.RY then
   (if(r.step m.RY).1.nx.ends=false then some (m.walk r,{x with dq:=some (r.step m.RY).1})
   else if(r.step m.RY).1.Sn=true then some ((m.walk r).stop 5 2,{x with dq:=some (r.step m.RY).1,tail:=(r.step m.RY).1.t})
   else match x.thn with
    |none=>none
    |some .aL=>if m.has x.Sa&&m.has (m.fr x.Sa.toNat).Sg&&Nat.ble (m.fr x.Sa.toNat).index 100000 then some (m.walk r,(m.walk r).aL {x with dq:=some (r.step m.RY).1,tail:=(r.step m.RY).1.t} x.Sa.toNat (m.up x.Sa.toNat))else none
    |some (.runs j)=>some (m.walk r,{x with dq:=some (r.step m.RY).1,tail:=(r.step m.RY).1.t,Sa:=j,R8:=4}))
  else none
def Co.kG(m:Co)(x:WS):Option (Co×WS):=if m.has x.Sa then some ((m.again x.Sa).ak x.Sa.toNat {m.fr x.Sa.toNat with az:=false},{x with R8:=4})else none
def Co.ni(m:Co)(x:WS):Option (Co×WS):=if m.has x.Sa then some (m.spawn x.Sa,{x with dq:=some (DW.push m.pl x.Sq x.tail x.Sa),thn:=some (.runs x.other),R8:=3})else none
def Co.kD(m:Co)(x:WS):Option (Co×WS):=if m.last x.other=true then some (m.leave x.other,{x with R8:=8})else some (m.leave x.other,x.goes m.pl)
def Co.kH(m:Co)(x:WS):Option (Co×WS):=if m.has x.other then some ((m.again x.other).ak x.other.toNat {m.fr x.other.toNat with az:=false},{x with Sa:=x.other,R8:=4})else none
def Co.iter(m:Co)(x:WS):Bool:=m.has x.Sa&&m.has (m.fr x.Sa.toNat).Sg&&Nat.ble (m.fr x.Sa.toNat).index 100000&&Nat.ble m.log.length 99999
def Co.iP(m:Co)(x:WS):Option (Co×WS):=if m.iter x then some (m.jN x x.Sa.toNat (m.up x.Sa.toNat))else none
def Co.su(m:Co)(x:WS):Option (Co×WS):=
 if m.iter x then
  (if x.tail<=m.RY.getD (m.pl.bN x.Sq 0) 0 then some (m,x.checks m.pl (m.up x.Sa.toNat) (m.fr (m.up x.Sa.toNat)).ae (m.fr x.Sa.toNat).index 0 x.aB)
  else some (m.decide {x with gl:=false} x.Sa.toNat))
 else none
def Co.lG(m:Co)(x:WS):Option (Co×WS):=
 match x.rt with
 |none=>none
 |some r=>
  if m.iter x&&r.nx==0&& !(r.sees m.RY)&&r.p.same m.pl&& !r.Sl then
   (if x.gy=0 then some (m.decide {x with rt:=some {r with st:=0,nx:=3}} x.Sa.toNat)
   else if x.gy=2 then some (m,{x with rt:=some {r with st:=0,nx:=3},er:=r.fm,wk:=some (⟨m.pl,m.up x.Sa.toNat,(m.fr (m.up x.Sa.toNat)).ae,(m.fr x.Sa.toNat).index,0,false,false⟩, !x.eh),R8:=15})
   else none)
  else none
def Co.came(m:Co)(i:Nat):Int:=m.RY.getD (m.pl.wN (m.up i) ((m.fr i).index-1) 0) 0
def Co.rZ(m:Co)(x:WS):Option (Co×WS):=
 if m.iter x&&Nat.ble 1 (m.fr x.Sa.toNat).index&&Decidable.decide (x.aB<m.came x.Sa.toNat)then
  some ((m.ak x.Sa.toNat {m.fr x.Sa.toNat with fold:=m.came x.Sa.toNat}).ak x.Sa.toNat {m.fr x.Sa.toNat with fold:=m.came x.Sa.toNat,due:=true},{x with R8:=4})
 else none
def Co.rY(m:Co)(x:WS):Option (Co×WS):=if m.iter x then some ((m.aK x.Sa.toNat (m.up x.Sa.toNat) 1048576).bM x.Sa.toNat (m.up x.Sa.toNat) 4,x.checks m.pl (m.up x.Sa.toNat) (m.fr (m.up x.Sa.toNat)).ae (m.fr x.Sa.toNat).index 2 1048576)else none
def Co.kE(m:Co)(x:WS):Option (Co×WS):=
 match x.wk with
 |none=>none
 |some (r,lk)=>if r.over=false/\(r.at_=0∨r.at_=1∨r.at_=2)/\r.p.same m.pl=true then some (m.closes x r lk)else none
def Co.sj(m:Co)(x:WS):Option (Co×WS):=
 match x.np with
 |none=>none
 |some r=>if r.over=false/\(r.at_=0∨r.at_=1∨r.at_=2)/\r.p.same m.pl=true then some (m.dx x r)else none
def Co.drops(m:Co)(i:Nat):Co:=(m.Si i).leave (m.up i)
def Co.rX(m:Co)(x:WS):Option (Co×WS):=
 if m.iter x&&Decidable.decide m.gG then
  (if x.eh=true then
   (if x.eb=true then some (m.drops x.Sa.toNat,{x with Sa:=0,other:=m.up x.Sa.toNat,R8:=17})
   else some (m.drops x.Sa.toNat,{x with Sa:=m.up x.Sa.toNat,R8:=19}))
  else if(m.Si x.Sa.toNat).last (m.up x.Sa.toNat)=true then some (m.drops x.Sa.toNat,{x with Sa:=m.up x.Sa.toNat,R8:=18})
  else if x.er=0 then
   (if x.ew=true then(if(m.drops x.Sa.toNat).ok (m.up x.Sa.toNat)then some (m.drops x.Sa.toNat,({x with Sa:=0}:WS).takes (m.up x.Sa.toNat) (m.fr (m.up x.Sa.toNat)).kind)else none)
   else some (m.drops x.Sa.toNat,({x with Sa:=0}:WS).goes m.pl))
  else none)
 else none
def Co.kF(m:Co)(x:WS):Option (Co×WS):=if m.last x.other=true then some (m.leave x.other,{x with Sa:=x.other,R8:=18})else some (m.leave x.other,x.goes m.pl)
def Co.gF(m:Co)(x:WS):Option (Co×WS):=if m.has x.Sa then m.completes x x.Sa.toNat else none
def Co.r9(m:Co)(x:WS):Option (Co×WS):=if m.has x.Sa then m.loops x x.Sa.toNat else none
def Co.nA(m:Co)(x:WS):Option (Co×WS):=if m.has x.Sa then m.starts x x.Sa.toNat else none
def Co.mZ(m:Co)(x:WS):Option (Co×WS):=if m.has x.Sa&&m.has x.other then some (m.counts x.Sa.toNat x.other.toNat,{x with R8:=23})else none
def Co.si(m:Co)(x:WS):Option (Co×WS):=if m.has x.Sa&&m.has x.other then some (m.names x.Sa.toNat x.other.toNat,{x with R8:=24})else none
def Co.ng(m:Co)(x:WS):Option (Co×WS):=
 if m.has x.Sa&&m.has x.other&&m.has (m.fr x.other.toNat).Sg&&Nat.ble m.log.length 99998 then some (((m.spawn x.Sa).bM x.other.toNat (m.up x.other.toNat) 1).bM x.other.toNat (m.up x.other.toNat) 2,{x with Sa:=x.other,R8:=4})else none
theorem A1.DV(h:A1 z l k w m x)(m':Co)(x':WS)(hf:m.nC x=some (m',x')):Cs 94 #[ptr (z.wq k),ptr z.c] w (.tuple #[]) λw'=>A1 z l k w' m' x':=by
 unfold Co.nC at hf
 split at hf
 ·cases hf
 ·rename_i r hr
  split at hf
  ·rename_i hq
   simp only[Bool.and_eq_true]at hq;have hp:=Pl.same_eq hq.1;have hs:=DW.uM hq.2
   split at hf
   ·rename_i he
    simp only[oe]at hf;obtain⟨rfl,rfl⟩:=hf
    exact h.xC r hr hp hs he
   ·rename_i he
    have he:(r.step m.RY).1.nx.ends=true:=by simpa using he
    split at hf
    ·rename_i hg
     simp only[oe]at hf;obtain⟨rfl,rfl⟩:=hf
     exact h.xD r hr hp hs he hg
    ·rename_i hg
     have hg:(r.step m.RY).1.Sl=true:=by simpa using hg
     split at hf
     ·rename_i ho
      obtain⟨h1,e1⟩:=Co.aZ ho;simp only[oe]at hf;obtain⟨rfl,rfl⟩:=hf
      exact h.zG r hr hp hs he hg _ h1 e1
     ·cases hf
  ·cases hf
theorem A1.Nk(h:A1 z l k w m x)(m':Co)(x':WS)(hf:m.Bh x=some (m',x')):Cs 95 #[ptr (z.wq k),ptr z.c] w (.tuple #[]) λw'=>A1 z l k w' m' x':=by
 unfold Co.Bh at hf
 split at hf
 ·cases hf
 ·rename_i r hr
  split at hf
  ·rename_i hq
   simp only[Bool.and_eq_true]at hq;have hp:=Pl.same_eq hq.1;have hs:=DW.uM hq.2
   split at hf
   ·rename_i he
    simp only[oe]at hf;obtain⟨rfl,rfl⟩:=hf
    exact h.Dl r hr hp hs he
   ·rename_i he
    have he:(r.step m.RY).1.nx.ends=true:=by simpa using he
    split at hf
    ·rename_i hg
     simp only[oe]at hf;obtain⟨rfl,rfl⟩:=hf
     exact h.Dm r hr hp hs he hg
    ·rename_i hg
     have hg:(r.step m.RY).1.Sl=true:=by simpa using hg
     split at hf
     ·rename_i ho
      obtain⟨h1,e1⟩:=Co.aZ ho;simp only[oe]at hf;obtain⟨rfl,rfl⟩:=hf
      exact h.Iw r hr hp hs he hg _ h1 e1
     ·cases hf
  ·cases hf
theorem A1.Jy(h:A1 z l k w m x)(m':Co)(x':WS)(hf:m.pQ x=some (m',x')):Cs 96 #[ptr (z.wq k),ptr z.c] w (.tuple #[]) λw'=>A1 z l k w' m' x':=by
 unfold Co.pQ at hf
 split at hf
 ·cases hf
 ·rename_i r hr
  split at hf
  ·rename_i hq
   simp only[Bool.and_eq_true]at hq;have hp:=Pl.same_eq hq.1;have hs:=DW.uM hq.2
   split at hf
   ·rename_i he
    simp only[oe]at hf;obtain⟨rfl,rfl⟩:=hf
    exact h.zD r hr hp hs he
   ·rename_i he
    have he:(r.step m.RY).1.nx.ends=true:=by simpa using he
    split at hf
    ·rename_i hg
     simp only[oe]at hf;obtain⟨rfl,rfl⟩:=hf
     exact h.zC r hr hp hs he hg
    ·rename_i hg
     have hg:(r.step m.RY).1.Sn=false:=by simpa using hg
     split at hf
     ·cases hf
     ·rename_i ht
      split at hf
      ·rename_i ho
       simp only[Bool.and_eq_true]at ho;obtain⟨h1,e1⟩:=Co.aZ ho.1.1;obtain⟨h2,e2⟩:=Co.aZ ho.1.2;simp only[oe]at hf;obtain⟨rfl,rfl⟩:=hf
       exact h.xy r hr hp hs he hg ht _ _ h1 e1 h2 e2 (Nat.le_of_ble_eq_true ho.2)
      ·cases hf
     ·rename_i j ht
      simp only[oe]at hf;obtain⟨rfl,rfl⟩:=hf
      exact h.zF r hr hp hs he hg j ht
  ·cases hf
theorem A1.Br(h:A1 z l k w m x)(m':Co)(x':WS)(hf:m.kG x=some (m',x')):Cs 98 #[ptr (z.wq k),ptr z.c] w (.tuple #[]) λw'=>A1 z l k w' m' x':=by
 unfold Co.kG at hf
 split at hf
 ·rename_i hq
  obtain⟨h1,e1⟩:=Co.aZ hq;simp only[oe]at hf;obtain⟨rfl,rfl⟩:=hf;have q:=h.Iu _ h1 e1;rw[<-e1]at q;exact q
 ·cases hf
theorem A1.DT(h:A1 z l k w m x)(m':Co)(x':WS)(hf:m.ni x=some (m',x')):Cs 99 #[ptr (z.wq k),ptr z.c] w (.tuple #[]) λw'=>A1 z l k w' m' x':=by
 unfold Co.ni at hf
 split at hf
 ·rename_i hq
  obtain⟨h1,e1⟩:=Co.aZ hq;simp only[oe]at hf;obtain⟨rfl,rfl⟩:=hf;have q:=h.LP _ h1 e1;rw[<-e1]at q;exact q
 ·cases hf
theorem A1.Bo(h:A1 z l k w m x)(m':Co)(x':WS)(hf:m.kD x=some (m',x')):Cs 100 #[ptr (z.wq k),ptr z.c] w (.tuple #[]) λw'=>A1 z l k w' m' x':=by
 unfold Co.kD at hf;have q:=h.Ih
 exact Us45
theorem A1.Bq(h:A1 z l k w m x)(m':Co)(x':WS)(hf:m.kF x=some (m',x')):Cs 176 #[ptr (z.wq k),ptr z.c] w (.tuple #[]) λw'=>A1 z l k w' m' x':=by
 unfold Co.kF at hf;have q:=h.Im
 exact Us45
theorem A1.Bt(h:A1 z l k w m x)(m':Co)(x':WS)(hf:m.kH x=some (m',x')):Cs 101 #[ptr (z.wq k),ptr z.c] w (.tuple #[]) λw'=>A1 z l k w' m' x':=by
 unfold Co.kH at hf
 split at hf
 ·rename_i hq
  obtain⟨h1,e1⟩:=Co.aZ hq;simp only[oe]at hf;obtain⟨rfl,rfl⟩:=hf;have q:=h.Iy _ h1 e1;rw[<-e1]at q;exact q
 ·cases hf
theorem A1.xP(h:A1 z l k w m x)(m':Co)(x':WS)(hf:m.iP x=some (m',x')):Cs 102 #[ptr (z.wq k),ptr z.c] w (.tuple #[]) λw'=>A1 z l k w' m' x':=by
 unfold Co.iP at hf
 split at hf
 ·rename_i hq
  have hqi:m.iter x=true:=hq;unfold Co.iter at hqi;simp only[Bool.and_eq_true]at hqi;obtain⟨h1,e1⟩:=Co.aZ hqi.1.1.1;obtain⟨h2,e2⟩:=Co.aZ hqi.1.1.2;have h3:=Nat.le_of_ble_eq_true hqi.1.2;have h4:m.log.length<100000:=Nat.lt_succ_of_le (Nat.le_of_ble_eq_true hqi.2);simp only[Option.some.injEq]at hf;have q:=h.Dg _ _ h1 e1 h2 e2 h3 h4;unfold Co.up at hf;rw[hf]at q
  exact q
 ·cases hf
theorem A1.Jw(h:A1 z l k w m x)(m':Co)(x':WS)(hf:m.su x=some (m',x')):Cs 103 #[ptr (z.wq k),ptr z.c] w (.tuple #[]) λw'=>A1 z l k w' m' x':=by
 unfold Co.su at hf
 split at hf
 ·rename_i hq
  have hqi:m.iter x=true:=hq;unfold Co.iter at hqi;simp only[Bool.and_eq_true]at hqi;obtain⟨h1,e1⟩:=Co.aZ hqi.1.1.1;obtain⟨h2,e2⟩:=Co.aZ hqi.1.1.2;have h3:=Nat.le_of_ble_eq_true hqi.1.2;have h4:m.log.length<100000:=Nat.lt_succ_of_le (Nat.le_of_ble_eq_true hqi.2)
  split at hf
  ·rename_i hc
   simp only[oe]at hf;obtain⟨rfl,rfl⟩:=hf
   exact h.uU _ h1 e1 _ h2 e2 h3 hc
  ·rename_i hc
   simp only[Option.some.injEq]at hf;have q:=h.uV _ h1 e1 U2;rw[hf]at q
   exact q
 ·cases hf
theorem A1.DL(h:A1 z l k w m x)(m':Co)(x':WS)(hf:m.lG x=some (m',x')):Cs 104 #[ptr (z.wq k),ptr z.c] w (.tuple #[]) λw'=>A1 z l k w' m' x':=by
 unfold Co.lG at hf
 split at hf
 ·cases hf
 ·rename_i r hr
  split at hf
  ·rename_i hq
   simp only[Bool.and_eq_true,Bool.not_eq_true',beq_iff_eq]at hq;have hqi:m.iter x=true:=hq.1.1.1.1;unfold Co.iter at hqi;simp only[Bool.and_eq_true]at hqi;obtain⟨h1,e1⟩:=Co.aZ hqi.1.1.1;obtain⟨h2,e2⟩:=Co.aZ hqi.1.1.2;have h3:=Nat.le_of_ble_eq_true hqi.1.2;have h4:m.log.length<100000:=Nat.lt_succ_of_le (Nat.le_of_ble_eq_true hqi.2)
   split at hf
   ·rename_i hg
    simp only[Option.some.injEq]at hf;have q:=h.Dh _ h1 e1 r hr hq.1.1.1.2 hq.1.1.2 (Pl.same_eq hq.1.2) hq.2 hg;rw[hf]at q
    exact q
   ·split at hf
    ·rename_i hg
     simp only[oe]at hf;obtain⟨rfl,rfl⟩:=hf
     exact h.zl _ h1 e1 r hr hq.1.1.1.2 hq.1.1.2 (Pl.same_eq hq.1.2) hq.2 hg _ h2 e2 h3
    ·cases hf
  ·cases hf
theorem A1.Js(h:A1 z l k w m x)(m':Co)(x':WS)(hf:m.rZ x=some (m',x')):Cs 105 #[ptr (z.wq k),ptr z.c] w (.tuple #[]) λw'=>A1 z l k w' m' x':=by
 unfold Co.rZ at hf
 split at hf
 ·rename_i hq
  simp only[Bool.and_eq_true,decide_eq_true_eq]at hq;have hqi:m.iter x=true:=hq.1.1;unfold Co.iter at hqi;simp only[Bool.and_eq_true]at hqi;obtain⟨h1,e1⟩:=Co.aZ hqi.1.1.1;obtain⟨h2,e2⟩:=Co.aZ hqi.1.1.2;have h3:=Nat.le_of_ble_eq_true hqi.1.2;have h4:m.log.length<100000:=Nat.lt_succ_of_le (Nat.le_of_ble_eq_true hqi.2);have h5:=Nat.le_of_ble_eq_true hq.1.2;simp only[oe]at hf;obtain⟨rfl,rfl⟩:=hf
  exact h.zx _ _ ((m.fr x.Sa.toNat).index-1) h1 e1 h2 e2 U2 U2 _ rfl hq.2
 ·cases hf
theorem A1.Jr(h:A1 z l k w m x)(m':Co)(x':WS)(hf:m.rY x=some (m',x')):Cs 173 #[ptr (z.wq k),ptr z.c] w (.tuple #[]) λw'=>A1 z l k w' m' x':=by
 unfold Co.rY at hf
 split at hf
 ·rename_i hq
  have hqi:m.iter x=true:=hq;unfold Co.iter at hqi;simp only[Bool.and_eq_true]at hqi;obtain⟨h1,e1⟩:=Co.aZ hqi.1.1.1;obtain⟨h2,e2⟩:=Co.aZ hqi.1.1.2;have h3:=Nat.le_of_ble_eq_true hqi.1.2;have h4:m.log.length<100000:=Nat.lt_succ_of_le (Nat.le_of_ble_eq_true hqi.2);simp only[oe]at hf;obtain⟨rfl,rfl⟩:=hf
  exact h.Pm _ _ h1 e1 h2 e2 h3 h4
 ·cases hf
theorem A1.Bp(h:A1 z l k w m x)(m':Co)(x':WS)(hf:m.kE x=some (m',x')):Cs 174 #[ptr (z.wq k),ptr z.c] w (.tuple #[]) λw'=>A1 z l k w' m' x':=by
 unfold Co.kE at hf
 split at hf
 ·cases hf
 ·rename_i r lk hr
  split at hf
  ·rename_i hq
   simp only[Option.some.injEq]at hf;have q:=h.Ik r lk hr hq.1 hq.2.1 (Pl.same_eq hq.2.2);rw[hf]at q
   exact q
  ·cases hf
theorem A1.Jv(h:A1 z l k w m x)(m':Co)(x':WS)(hf:m.sj x=some (m',x')):Cs 179 #[ptr (z.wq k),ptr z.c] w (.tuple #[]) λw'=>A1 z l k w' m' x':=by
 unfold Co.sj at hf
 split at hf
 ·cases hf
 ·rename_i r hr
  split at hf
  ·rename_i hq
   simp only[Option.some.injEq]at hf;have q:=h.Pp r hr hq.1 hq.2.1 (Pl.same_eq hq.2.2);rw[hf]at q
   exact q
  ·cases hf
theorem A1.Jq(h:A1 z l k w m x)(m':Co)(x':WS)(hf:m.rX x=some (m',x')):Cs 175 #[ptr (z.wq k),ptr z.c] w (.tuple #[]) λw'=>A1 z l k w' m' x':=by
 unfold Co.rX at hf
 split at hf
 ·rename_i hq
  simp only[Bool.and_eq_true,decide_eq_true_eq]at hq;have ha:=hq.2;have hqi:m.iter x=true:=hq.1;unfold Co.iter at hqi;simp only[Bool.and_eq_true]at hqi;obtain⟨h1,e1⟩:=Co.aZ hqi.1.1.1;obtain⟨h2,e2⟩:=Co.aZ hqi.1.1.2;have h3:=Nat.le_of_ble_eq_true hqi.1.2;have h4:m.log.length<100000:=Nat.lt_succ_of_le (Nat.le_of_ble_eq_true hqi.2)
  split at hf
  ·rename_i heh
   split at hf
   ·rename_i heb
    simp only[oe]at hf;obtain⟨rfl,rfl⟩:=hf
    exact h.wY _ _ h1 e1 ha e2 heh heb
   ·rename_i heb
    simp only[oe]at hf;obtain⟨rfl,rfl⟩:=hf
    exact h.zq _ _ h1 e1 ha e2 heh (by simpa using heb)
  ·rename_i heh
   have heh:x.eh=false:=by simpa using heh
   split at hf
   ·rename_i hla
    simp only[oe]at hf;obtain⟨rfl,rfl⟩:=hf
    exact h.zo _ _ h1 e1 ha e2 heh hla
   ·rename_i hla
    have hla:(m.Si x.Sa.toNat).last (m.up x.Sa.toNat)=false:=by simpa using hla
    split at hf
    ·rename_i her
     split at hf
     ·rename_i hew
      split at hf
      ·rename_i hok
       simp only[oe]at hf;obtain⟨rfl,rfl⟩:=hf
       exact h.wZ _ _ h1 e1 ha e2 heh hla her hew hok
      ·cases hf
     ·rename_i hew
      simp only[oe]at hf;obtain⟨rfl,rfl⟩:=hf
      exact h.zn _ _ h1 e1 ha e2 heh hla her (by simpa using hew)
    ·cases hf
 ·cases hf
theorem A1.vB(h:A1 z l k w m x)(m':Co)(x':WS)(hf:m.gF x=some (m',x')):Cs 177 #[ptr (z.wq k),ptr z.c] w (.tuple #[]) λw'=>A1 z l k w' m' x':=by
 unfold Co.gF at hf
 split at hf
 ·rename_i hq
  obtain⟨h1,e1⟩:=Co.aZ hq
  exact h.xQ _ h1 e1 m' x' hf
 ·cases hf
theorem A1.Jt(h:A1 z l k w m x)(m':Co)(x':WS)(hf:m.r9 x=some (m',x')):Cs 178 #[ptr (z.wq k),ptr z.c] w (.tuple #[]) λw'=>A1 z l k w' m' x':=by
 unfold Co.r9 at hf
 split at hf
 ·rename_i hq
  obtain⟨h1,e1⟩:=Co.aZ hq
  exact h.Pn _ h1 e1 m' x' hf
 ·cases hf
theorem A1.DU(h:A1 z l k w m x)(m':Co)(x':WS)(hf:m.nA x=some (m',x')):Cs 180 #[ptr (z.wq k),ptr z.c] w (.tuple #[]) λw'=>A1 z l k w' m' x':=by
 unfold Co.nA at hf
 split at hf
 ·rename_i hq
  obtain⟨h1,e1⟩:=Co.aZ hq
  exact h.zQ _ h1 e1 m' x' hf
 ·cases hf
theorem A1.DN(h:A1 z l k w m x)(m':Co)(x':WS)(hf:m.mZ x=some (m',x')):Cs 181 #[ptr (z.wq k),ptr z.c] w (.tuple #[]) λw'=>A1 z l k w' m' x':=by
 unfold Co.mZ at hf
 split at hf
 ·rename_i hq
  simp only[Bool.and_eq_true]at hq;obtain⟨h1,e1⟩:=Co.aZ hq.1;obtain⟨h2,e2⟩:=Co.aZ hq.2;simp only[oe]at hf;obtain⟨rfl,rfl⟩:=hf
  exact h.LH _ _ h1 e1 h2 e2
 ·cases hf
theorem A1.Ju(h:A1 z l k w m x)(m':Co)(x':WS)(hf:m.si x=some (m',x')):Cs 182 #[ptr (z.wq k),ptr z.c] w (.tuple #[]) λw'=>A1 z l k w' m' x':=by
 unfold Co.si at hf
 split at hf
 ·rename_i hq
  simp only[Bool.and_eq_true]at hq;obtain⟨h1,e1⟩:=Co.aZ hq.1;obtain⟨h2,e2⟩:=Co.aZ hq.2;simp only[oe]at hf;obtain⟨rfl,rfl⟩:=hf
  exact h.Po _ _ h1 e1 h2 e2
 ·cases hf
theorem A1.DR(h:A1 z l k w m x)(m':Co)(x':WS)(hf:m.ng x=some (m',x')):Cs 183 #[ptr (z.wq k),ptr z.c] w (.tuple #[]) λw'=>A1 z l k w' m' x':=by
 unfold Co.ng at hf
 split at hf
 ·rename_i hq
  simp only[Bool.and_eq_true]at hq;obtain⟨h1,e1⟩:=Co.aZ hq.1.1.1;obtain⟨h2,e2⟩:=Co.aZ hq.1.1.2;obtain⟨h3,e3⟩:=Co.aZ hq.1.2;have h4:=Nat.le_of_ble_eq_true hq.2;simp only[oe]at hf;obtain⟨rfl,rfl⟩:=hf;have q:=h.LJ _ _ _ h1 e1 h2 e2 h3 e3 U2;rw[<-e1,<-e2]at q
  exact q
 ·cases hf
end Go.Proofs.YteiignfflbmafaaGreat.Tp
