/- TopOne, part 21. -/
import Derived.Test.YteiignfflbmafaaGreatQ18
import Derived.Test.YteiignfflbmafaaGreatQ19
import Derived.Handy
set_option linter.unusedVariables false
set_option linter.unusedSimpArgs false
set_option maxRecDepth 100000
set_option maxHeartbeats 8000000
namespace Go.Proofs.YteiignfflbmafaaGreat.Tp
open Go.Proofs.Tryz
open Go.RowKit Go.Proofs.YteiignfflbmafaaGreat.Tok
theorem Us109 {p:Prop} (h:p:=by
 go_wp2_with fail
 all_goals go_ret
 all_goals first|exact⟨rfl,rfl⟩|(simp_all;done)):p:=h
theorem Us83 {p:Prop} (h:p:=by
 go_wp2_with fail
 all_goals go_ret
 all_goals first|exact⟨rfl,Ba _⟩|(exfalso;simp_all;done)|(refine⟨?_,Ba _⟩;simp_all;done)):p:=h
def fw(n most:Int):Int:=if n=0 then 7 else if most<n then 9 else 0
theorem wI(n most:Int)(w:World):Cs 250 #[n,most] w (.int .i64 (fw n most)) λw'=>w=w':=by
 unfold fw;go_enter func250,ntmps250
 exact Us109
theorem Gq(n most:Int)(w:World):Cs 120 #[n,most] w (.int .i64 (fw n most)) λw'=>w=w':=by
 unfold fw;go_enter func120,ntmps120
 exact Us109
def jy(m n:Int):Int:=if m<0 then 3 else if 256<m then 3 else fw n 16
theorem GR(m n:Int)(w:World):Cs 185 #[m,n] w (.int .i64 (jy m n)) λw'=>w=w':=by
 have c1:=Hd (λw=>wI n 16 w);unfold jy;generalize fw n 16=e at*;go_enter func185,ntmps185
 go_wp2_with (go_at_call 250;refine(c1.o _).r ?_)
 all_goals go_ret
 all_goals first|exact⟨rfl,rfl⟩|(simp_all;done)
def qF(x:Is)(code funcs:Int):Bool:=if x.op=18 then decide (x.a<code)else if x.op=19 then decide (x.b<code)else if x.op=20 then decide (x.a<funcs)else if x.op=22 then decide (x.a<funcs)else true
theorem FD(x:Is)(code funcs:Int)(w:World):Cs 252 #[x.v,code,funcs] w (.bool (qF x code funcs)) λw'=>Below w.heap.size w w':=by
 obtain⟨o,a,b,c⟩:=x;unfold qF Is.v;go_enter func252,ntmps252
 exact Us83
theorem Ku(e:Ev)(w:World):Cs 40 #[.agg #[e.kind,e.loop,e.iter,e.Sc]] w (.int .i64 (iD e)) λw'=>Below w.heap.size w w':=by
 obtain⟨a,b,c,d⟩:=e;unfold iD;go_enter func40,ntmps40
 exact Us83
theorem DJ(n a b:Int)(w:World):Cs 45 #[n,a,b] w (.int .i64 (jc n a b)) λw'=>w=w':=by
 go_enter func45,ntmps45;go_wp2_with fail
 all_goals(go_ret;exact⟨ret_int (by unfold jc;omega),rfl⟩)
theorem Bn(w:World):Cs 18 #[(0:Int),(1:Int),(1:Int)] w (.int .i64 8256) λw'=>w=w':=by
 have c1:=Hd (λn a b w=>DJ n a b w);have e1:jc 0 0 1048576=0:=by decide
 have e2:jc 1 1 64=1:=by decide
 have e3:jc 1 1 1024=1:=by decide
 go_enter func18,ntmps18
 go_wp2_with (go_at_call 45;refine(c1.o _ _ _ _).r ?_)
 all_goals go_ret
 all_goals exact⟨rfl,rfl⟩
def df(c n:Int):Bool:=if c=114 then decide (0<=n)&&decide (n<=7)else if c=102 then decide (0<=n)&&decide (n<=15)else if c=116 then decide (0<=n)&&decide (n<=199)else decide (-32768<=n)&&decide (n<=32767)
theorem JV(c n:Int)(w:World):Cs 286 #[.int .u8 c,n] w (.bool (df c n)) λw'=>w=w':=by
 unfold df;go_enter func286,ntmps286;go_wp2_with fail
 all_goals go_ret
 all_goals first|exact⟨rfl,rfl⟩|(exfalso;simp_all;done)|(simp_all;done)|(simp_all;omega)
theorem BO(x:Is)(w:World):Cs 285 #[x.v] w (.agg #[x.a,x.b,x.c]) λw'=>Below w.heap.size w w':=by
 obtain⟨o,a,b,c⟩:=x;unfold Is.v;go_enter func285,ntmps285;go_wp2_with fail
 exact bodyPost_ret (v:=.agg #[a,b,c]) (by simp[results,results285,go_sem]) rfl ⟨rfl,(by repeat(first|exact Below.refl _ _|refine Below.alloc ?_ U9 _|refine Below.setCell ?_ U9 _))⟩
def gT(op:Int):List UInt8:=if(3<=op/\op<=12)∨op=15∨op=16 then[114,114,114]else if op=2∨op=13∨op=14 then[114,114]else if op=17∨op=23∨op=24 then[114]else if op=1 then[114,110]else if op=19 then[114,116]else if op=18 then[116]else if op=20∨op=22 then[102]else[]
theorem JW(op:Int)(h:0<=op/\op<=25)(w:World):Cs 284 #[op] w (.string ⟨(gT op).toArray⟩) λw'=>w=w':=by
 have q:op=0∨op=1∨op=2∨op=3∨op=4∨op=5∨op=6∨op=7∨op=8∨op=9∨op=10∨op=11∨op=12∨op=13∨op=14∨op=15∨op=16∨op=17∨op=18∨op=19∨op=20∨op=21∨op=22∨op=23∨op=24∨op=25:=by omega
 clear h
 rcases q with rfl|rfl|rfl|rfl|rfl|rfl|rfl|rfl|rfl|rfl|rfl|rfl|rfl|rfl|rfl|rfl|rfl|rfl|rfl|rfl|rfl|rfl|rfl|rfl|rfl|rfl
 all_goals
  go_enter func284,ntmps284;go_wp2_with fail
  go_ret
  exact⟨rfl,rfl⟩
theorem Us88 {p:Prop} (h:p:=by
 go_enter func251,ntmps251;go_wp2_with fail
 go_ret
 exact⟨by rw[E.out];rfl,Ba _⟩):p:=h
theorem Us6 {p:Prop} (h:p:=by
 refine hK.o _ _ (FS.o _ HZ) (λhHeld=>?_);clear hK K;refine hU 6 ?_;refine pz ?_;refine wpAnyH_ready (rs:=[7]) U7 U8 ?_;refine hA (λK hK=>?_)
 (try simp only[List.getElem_toArray,List.getElem_cons_zero,List.getElem_cons_succ])
 rw[if_pos (by rfl)];refine gD 308 (.tmp 4) (.tmp 20) rfl _ _ _ _ HQ rfl rfl Qy rfl (Rn a b c) (λw9 hn9 hk9=>?_);have hb9:=HW.trans (hk9.below (λq e=>by have e:q=_:=e;have:=HG;omega) HW.size);have HZ:=hk9.blk HZ (λe=>by have e:g=_:=e;have:=HG;omega);refine hK.o _ _ (FS.o _ HZ) (λhHeld=>?_);clear hK K;refine pz ?_;refine wpAnyH_done U7 ?_ _;go_wp2_with fail
 go_meet
 exact⟨rfl,_,rfl,hn9,hb9⟩):p:=h
def opsL(x:Is):List Int:=[x.a,x.b,x.c]
def ED:List UInt8->List Int->Bool
 |c::F,n::l=>df c.toNat n&&ED F l
 |_,_=>true
def iV(x:Is):Int:=if x.op<0 then 5 else if 26<=x.op then 5 else if ED (gT x.op) (opsL x)=false then 3 else if((opsL x).drop (gT x.op).length).all (λn=>decide (n=0))=false then 4 else 0
theorem Qy:(prog.info? 308).map (·.size)=some 3:=by kernel_rfl
theorem Rn(a b c:Int):(#[Value.int .i64 a,b,c].all (·.oneCell'))=true:=by simp[Value.oneCell']
theorem Below.drewN{B:Nat}{a w:World}(h:Below B a w)(n:Nat):Below B a (w.drewN n):=⟨h.os,h.tape,h.output,h.size,h.block⟩
theorem af.beside{w:World}{b:Nat}{cs:Array Value}{t:TypeId}(_:af w b cs t)(c:Array Value)(t':TypeId):af (w.alloc (.cells c t')) w.heap.size c t':=af.new w c t' _ rfl
theorem yu(op:Int):gT op=[]∨gT op=[114,110]∨gT op=[114,114]∨gT op=[114,114,114]∨gT op=[114]∨gT op=[114,116]∨gT op=[116]∨gT op=[102]:=by
 unfold gT
 repeat' split
 all_goals simp
theorem vW(x:Is)(h:x.op<0∨26<=x.op)(w:World):Cs 251 #[x.v] w (.int .i64 (iV x)) λw'=>Below w.heap.size w w':=by
 have e:iV x=5:=by
  unfold iV
  rcases h with h|h
  ·rw[if_pos h]
  ·split
   ·rfl
   ·rfl
 have E:=Hd e;obtain⟨o,a,b,c⟩:=x;unfold Is.v;dsimp only at h⊢;clear e
 by_cases h1:o<0
 ·have d1:decide (o<0)=true:=by simp[h1]
  exact Us88
 ·have h2:26<=o:=h.resolve_left h1
  have d1:decide (o<0)=false:=by simp[h1]
  have d2:decide (26<=o)=true:=by simp[h2]
  exact Us88
theorem vX(o a b c:Int)(h:0<=o/\o<=25)(w:World):Cs 251 #[(⟨o,a,b,c⟩:Is).v] w (.int .i64 (iV ⟨o,a,b,c⟩)) λw'=>Below w.heap.size w w':=by
 have d1:decide (o<0)=false:=by simp;omega
 have d2:decide (26<=o)=false:=by simp;omega
 have c1:=Hd (λw=>JW o h w);have c2:=Hd (λw=>BO ⟨o,a,b,c⟩ w);have c3:=Hd (λc n w=>JV c n w);have hE:iV ⟨o,a,b,c⟩=if ED (gT o) [a,b,c]=false then 3 else if([a,b,c].drop (gT o).length).all (λn=>decide (n=0))=false then 4 else 0:=by
  unfold iV;rw[if_neg (by show¬o<0;omega),if_neg (by show¬26<=o;omega)]
  rfl
 have hFL:=Hd (yu o);generalize gT o=FL at*;have HE:=Hd hE;clear hE h;have bx:=af.new w #[o,a,b,c] 109 _ rfl;have B1:Below w.heap.size w (w.alloc (.cells #[o,a,b,c] 109)):=Ba _;unfold Is.v at*;dsimp only at*;go_enter func251,ntmps251;go_upto_region 3 with fail;generalize w.alloc (.cells #[o,a,b,c] 109)=W at*;generalize hg:w.heap.size=g at*;have u0:=bx.c0;have u1:=bx.c1;have u2:=bx.c2;have u3:=bx.c3;have lg:=bx.lt;have BW:Below g w W:=B1;have HB:=Hd bx;have FS:=Hd (λw (h:af w g #[o,a,b,c] 109)=>(⟨h.cell 0,h.cell 1,h.cell 2,h.cell 3⟩:w.cell? ⟨g,0,none⟩=some ↑o/\w.cell? ⟨g,1,none⟩=some ↑a/\w.cell? ⟨g,2,none⟩=some ↑b/\w.cell? ⟨g,3,none⟩=some ↑c));clear bx u0 u1 u2 u3
 go_cut [3,4]from 16 to 20 (λs3 s4 wx=>s3=.string ⟨FL.toArray⟩/\∃q,s4=.pointer (some ⟨q,0,none⟩)/\af wx q #[a,b,c] 308 /\Below W.heap.size W wx)
 case first=>
  refine wp_region_held_drew (S:=(λw'=>w'.cell? ⟨g,0,none⟩=some ↑o/\w'.cell? ⟨g,1,none⟩=some ↑a/\w'.cell? ⟨g,2,none⟩=some ↑b/\w'.cell? ⟨g,3,none⟩=some ↑c)) U7 ?_ (λhHeld=>?_)
  ·exact FS.o _ HB.o.drew
  have HZ:=HB.o.drew;have HW:=(Below.refl W.heap.size W).drew;generalize W.drew=wd at*;refine hU 0 ?_;refine hU 1 ?_;refine hU 3 ?_;refine pz ?_;refine wpAnyH_ready (rs:=[2,5]) U7 U8 ?_;refine AllReadyH.cons (o:=_) rfl (λK hK=>?_) (AllReadyH.cons (o:=_) rfl (λK hK=>?_) (AllReadyH.nil))
  ·(try simp only[List.getElem_toArray,List.getElem_cons_zero,List.getElem_cons_succ])
   go_simp
   go_at_call 284
   refine(c1.o _).mono ?_;rintro ev w1 ⟨rfl,rfl⟩;refine hK.o _ _ (FS.o _ HZ) (λhHeld=>?_);clear hK K;refine pz ?_;refine wpAnyH_ready (rs:=[4,5]) U7 U8 ?_;refine AllReadyH.cons (o:=_) rfl (λK hK=>?_) (AllReadyH.cons (o:=_) rfl (λK hK=>?_) (AllReadyH.nil))
   ·(try simp only[List.getElem_toArray,List.getElem_cons_zero,List.getElem_cons_succ])
    go_simp
    go_at_call 285
    refine(c2.o _).mono ?_;rintro ev w1 ⟨rfl,Sr⟩;have HZ:=HZ.below Sr HZ.lt;have HW:=HW.trans (Sr.mono HW.size);refine hK.o _ _ (FS.o _ HZ) (λhHeld=>?_);clear hK K;refine pz ?_;refine wpAnyH_ready (rs:=[5]) U7 U8 ?_;refine AllReadyH.cons (o:=_) rfl (λK hK=>?_) (AllReadyH.nil)
    ·(try simp only[List.getElem_toArray,List.getElem_cons_zero,List.getElem_cons_succ])
     go_simp
     have HQ:=HZ.beside #[(0:Int),(0:Int),(0:Int)] 308;have HZ:=HZ.alloc (.cells #[(0:Int),(0:Int),(0:Int)] 308);have HG:=HW.size;have HW:=HW.alloc HW.size (.cells #[(0:Int),(0:Int),(0:Int)] 308)
     exact Us6
   ·(try simp only[List.getElem_toArray,List.getElem_cons_zero,List.getElem_cons_succ])
    go_simp
    have HQ:=HZ.beside #[(0:Int),(0:Int),(0:Int)] 308;have HZ:=HZ.alloc (.cells #[(0:Int),(0:Int),(0:Int)] 308);have HG:=HW.size;have HW:=HW.alloc HW.size (.cells #[(0:Int),(0:Int),(0:Int)] 308);refine hK.o _ _ (FS.o _ HZ) (λhHeld=>?_);clear hK K;refine pz ?_;refine wpAnyH_ready (rs:=[4]) U7 U8 ?_;refine AllReadyH.cons (o:=_) rfl (λK hK=>?_) (AllReadyH.nil)
    ·(try simp only[List.getElem_toArray,List.getElem_cons_zero,List.getElem_cons_succ])
     go_simp
     go_at_call 285
     refine(c2.o _).mono ?_;rintro ev w1 ⟨rfl,Sr⟩;have HZ:=HZ.below Sr HZ.lt;have HW:=HW.trans (Sr.mono HW.size);have HQ:=HQ.below Sr HQ.lt
     exact Us6
  ·(try simp only[List.getElem_toArray,List.getElem_cons_zero,List.getElem_cons_succ])
   go_simp
   have HQ:=HZ.beside #[(0:Int),(0:Int),(0:Int)] 308;have HZ:=HZ.alloc (.cells #[(0:Int),(0:Int),(0:Int)] 308);have HG:=HW.size;have HW:=HW.alloc HW.size (.cells #[(0:Int),(0:Int),(0:Int)] 308);refine hK.o _ _ (FS.o _ HZ) (λhHeld=>?_);clear hK K;refine pz ?_;refine wpAnyH_ready (rs:=[2]) U7 U8 ?_;refine AllReadyH.cons (o:=_) rfl (λK hK=>?_) (AllReadyH.nil)
   ·(try simp only[List.getElem_toArray,List.getElem_cons_zero,List.getElem_cons_succ])
    go_simp
    go_at_call 284
    refine(c1.o _).mono ?_;rintro ev w1 ⟨rfl,rfl⟩;refine hK.o _ _ (FS.o _ HZ) (λhHeld=>?_);clear hK K;refine pz ?_;refine wpAnyH_ready (rs:=[4]) U7 U8 ?_;refine AllReadyH.cons (o:=_) rfl (λK hK=>?_) (AllReadyH.nil)
    ·(try simp only[List.getElem_toArray,List.getElem_cons_zero,List.getElem_cons_succ])
     go_simp
     go_at_call 285
     refine(c2.o _).mono ?_;rintro ev w1 ⟨rfl,Sr⟩;have HZ:=HZ.below Sr HZ.lt;have HW:=HW.trans (Sr.mono HW.size);have HQ:=HQ.below Sr HQ.lt
     exact Us6
 case rest=>
  obtain⟨rfl,q,rfl,HQ,hb⟩:=hcut;have BE:=BW.trans (hb.mono (Nat.le_of_lt lg));have z0:=HQ.c0;have z1:=HQ.c1;have z2:=HQ.c2;have zf:=HQ.fz;clear HQ HB FS c1 c2 BW hb B1;generalize wc=w0 at*;have hFL:=hFL.out
  rcases hFL with rfl|rfl|rfl|rfl|rfl|rfl|rfl|rfl
  ·have HE:=Hd (show iV ⟨o,a,b,c⟩=if(true)=false then 3 else if([a,b,c].drop 0).all (λn=>decide (n=0))=false then 4 else 0 from HE.o)
   go_wp2_with fail;refine wp_loop_rounds 1 ?_;rw[rounds_succ];go_wp2_with fail
   all_goals(try(refine wp_loop_rounds 4 ?_))
   iterate 4 (all_goals(try(rw[rounds_succ];go_wp2_with fail)))
   all_goals go_ret
   all_goals(refine⟨?_,by rw[hg];exact BE⟩;rw[HE.o])
   all_goals(clear HE zf z0 z1 z2 BE hg lg c3)
   all_goals(simp_all;done)
  ·have HE:=Hd (show iV ⟨o,a,b,c⟩=if(df 114 a&&(df 110 b&&(true)))=false then 3 else if([a,b,c].drop 2).all (λn=>decide (n=0))=false then 4 else 0 from HE.o)
   generalize hf0:df 114 a=f0 at HE;generalize hf1:df 110 b=f1 at HE;go_wp2_with fail;refine wp_loop_rounds 3 ?_
   iterate 2 (rw[rounds_succ];go_upto_region 7 with fail;go_quiet ((go_at_call 286;refine Calls.quiet_of_same ((c3.o _ _ _).mono (λ_ _ h=>⟨h.1,h.2.symm⟩))));replace z0:(w0.drewN nq).cell? ⟨q,0,none⟩=some ↑a:=z0;replace z1:(w0.drewN nq).cell? ⟨q,1,none⟩=some ↑b:=z1;replace z2:(w0.drewN nq).cell? ⟨q,2,none⟩=some ↑c:=z2;replace zf:∀j,(w0.drewN nq).frozen? ⟨q,j,none⟩=false:=zf;replace BE:=Below.drewN BE nq;generalize w0.drewN nq=w0 at*;clear nq;go_wp2_with fail;rotate_left 1)
   rw[rounds_succ];go_wp2_with fail
   all_goals(try(refine wp_loop_rounds 2 ?_))
   iterate 2 (all_goals(try(rw[rounds_succ];go_wp2_with fail)))
   all_goals go_ret
   all_goals(refine⟨?_,by rw[hg];exact BE⟩;rw[HE.o])
   all_goals(clear HE zf z0 z1 z2 BE hg lg c3)
   all_goals(try simp only[show((⟨#[114,110]⟩:ByteArray)[0])=114 from rfl,show(((114:UInt8).toNat:Nat):Int)=114 from rfl,hf0]at*)
   all_goals(try simp only[show((⟨#[114,110]⟩:ByteArray)[1])=110 from rfl,show(((110:UInt8).toNat:Nat):Int)=110 from rfl,hf1]at*)
   all_goals(simp_all;done)
  ·have HE:=Hd (show iV ⟨o,a,b,c⟩=if(df 114 a&&(df 114 b&&(true)))=false then 3 else if([a,b,c].drop 2).all (λn=>decide (n=0))=false then 4 else 0 from HE.o)
   generalize hf0:df 114 a=f0 at HE;generalize hf1:df 114 b=f1 at HE;go_wp2_with fail;refine wp_loop_rounds 3 ?_
   iterate 2 (rw[rounds_succ];go_upto_region 7 with fail;go_quiet ((go_at_call 286;refine Calls.quiet_of_same ((c3.o _ _ _).mono (λ_ _ h=>⟨h.1,h.2.symm⟩))));replace z0:(w0.drewN nq).cell? ⟨q,0,none⟩=some ↑a:=z0;replace z1:(w0.drewN nq).cell? ⟨q,1,none⟩=some ↑b:=z1;replace z2:(w0.drewN nq).cell? ⟨q,2,none⟩=some ↑c:=z2;replace zf:∀j,(w0.drewN nq).frozen? ⟨q,j,none⟩=false:=zf;replace BE:=Below.drewN BE nq;generalize w0.drewN nq=w0 at*;clear nq;go_wp2_with fail;rotate_left 1)
   rw[rounds_succ];go_wp2_with fail
   all_goals(try(refine wp_loop_rounds 2 ?_))
   iterate 2 (all_goals(try(rw[rounds_succ];go_wp2_with fail)))
   all_goals go_ret
   all_goals(refine⟨?_,by rw[hg];exact BE⟩;rw[HE.o])
   all_goals(clear HE zf z0 z1 z2 BE hg lg c3)
   all_goals(try simp only[show((⟨#[114,114]⟩:ByteArray)[0])=114 from rfl,show(((114:UInt8).toNat:Nat):Int)=114 from rfl,hf0]at*)
   all_goals(try simp only[show((⟨#[114,114]⟩:ByteArray)[1])=114 from rfl,show(((114:UInt8).toNat:Nat):Int)=114 from rfl,hf1]at*)
   all_goals(simp_all;done)
  ·have HE:=Hd (show iV ⟨o,a,b,c⟩=if(df 114 a&&(df 114 b&&(df 114 c&&(true))))=false then 3 else if([a,b,c].drop 3).all (λn=>decide (n=0))=false then 4 else 0 from HE.o)
   generalize hf0:df 114 a=f0 at HE;generalize hf1:df 114 b=f1 at HE;generalize hf2:df 114 c=f2 at HE;go_wp2_with fail;refine wp_loop_rounds 4 ?_
   iterate 3 (rw[rounds_succ];go_upto_region 7 with fail;go_quiet ((go_at_call 286;refine Calls.quiet_of_same ((c3.o _ _ _).mono (λ_ _ h=>⟨h.1,h.2.symm⟩))));replace z0:(w0.drewN nq).cell? ⟨q,0,none⟩=some ↑a:=z0;replace z1:(w0.drewN nq).cell? ⟨q,1,none⟩=some ↑b:=z1;replace z2:(w0.drewN nq).cell? ⟨q,2,none⟩=some ↑c:=z2;replace zf:∀j,(w0.drewN nq).frozen? ⟨q,j,none⟩=false:=zf;replace BE:=Below.drewN BE nq;generalize w0.drewN nq=w0 at*;clear nq;go_wp2_with fail;rotate_left 1)
   rw[rounds_succ];go_wp2_with fail
   all_goals(try(refine wp_loop_rounds 1 ?_))
   iterate 1 (all_goals(try(rw[rounds_succ];go_wp2_with fail)))
   all_goals go_ret
   all_goals(refine⟨?_,by rw[hg];exact BE⟩;rw[HE.o])
   all_goals(clear HE zf z0 z1 z2 BE hg lg c3)
   all_goals(try simp only[show((⟨#[114,114,114]⟩:ByteArray)[0])=114 from rfl,show(((114:UInt8).toNat:Nat):Int)=114 from rfl,hf0]at*)
   all_goals(try simp only[show((⟨#[114,114,114]⟩:ByteArray)[1])=114 from rfl,show(((114:UInt8).toNat:Nat):Int)=114 from rfl,hf1]at*)
   all_goals(try simp only[show((⟨#[114,114,114]⟩:ByteArray)[2])=114 from rfl,show(((114:UInt8).toNat:Nat):Int)=114 from rfl,hf2]at*)
   all_goals(simp_all;done)
  ·have HE:=Hd (show iV ⟨o,a,b,c⟩=if(df 114 a&&(true))=false then 3 else if([a,b,c].drop 1).all (λn=>decide (n=0))=false then 4 else 0 from HE.o)
   generalize hf0:df 114 a=f0 at HE;go_wp2_with fail;refine wp_loop_rounds 2 ?_
   iterate 1 (rw[rounds_succ];go_upto_region 7 with fail;go_quiet ((go_at_call 286;refine Calls.quiet_of_same ((c3.o _ _ _).mono (λ_ _ h=>⟨h.1,h.2.symm⟩))));replace z0:(w0.drewN nq).cell? ⟨q,0,none⟩=some ↑a:=z0;replace z1:(w0.drewN nq).cell? ⟨q,1,none⟩=some ↑b:=z1;replace z2:(w0.drewN nq).cell? ⟨q,2,none⟩=some ↑c:=z2;replace zf:∀j,(w0.drewN nq).frozen? ⟨q,j,none⟩=false:=zf;replace BE:=Below.drewN BE nq;generalize w0.drewN nq=w0 at*;clear nq;go_wp2_with fail;rotate_left 1)
   rw[rounds_succ];go_wp2_with fail
   all_goals(try(refine wp_loop_rounds 3 ?_))
   iterate 3 (all_goals(try(rw[rounds_succ];go_wp2_with fail)))
   all_goals go_ret
   all_goals(refine⟨?_,by rw[hg];exact BE⟩;rw[HE.o])
   all_goals(clear HE zf z0 z1 z2 BE hg lg c3)
   all_goals(try simp only[show((⟨#[114]⟩:ByteArray)[0])=114 from rfl,show(((114:UInt8).toNat:Nat):Int)=114 from rfl,hf0]at*)
   all_goals(simp_all;done)
  ·have HE:=Hd (show iV ⟨o,a,b,c⟩=if(df 114 a&&(df 116 b&&(true)))=false then 3 else if([a,b,c].drop 2).all (λn=>decide (n=0))=false then 4 else 0 from HE.o)
   generalize hf0:df 114 a=f0 at HE;generalize hf1:df 116 b=f1 at HE;go_wp2_with fail;refine wp_loop_rounds 3 ?_
   iterate 2 (rw[rounds_succ];go_upto_region 7 with fail;go_quiet ((go_at_call 286;refine Calls.quiet_of_same ((c3.o _ _ _).mono (λ_ _ h=>⟨h.1,h.2.symm⟩))));replace z0:(w0.drewN nq).cell? ⟨q,0,none⟩=some ↑a:=z0;replace z1:(w0.drewN nq).cell? ⟨q,1,none⟩=some ↑b:=z1;replace z2:(w0.drewN nq).cell? ⟨q,2,none⟩=some ↑c:=z2;replace zf:∀j,(w0.drewN nq).frozen? ⟨q,j,none⟩=false:=zf;replace BE:=Below.drewN BE nq;generalize w0.drewN nq=w0 at*;clear nq;go_wp2_with fail;rotate_left 1)
   rw[rounds_succ];go_wp2_with fail
   all_goals(try(refine wp_loop_rounds 2 ?_))
   iterate 2 (all_goals(try(rw[rounds_succ];go_wp2_with fail)))
   all_goals go_ret
   all_goals(refine⟨?_,by rw[hg];exact BE⟩;rw[HE.o])
   all_goals(clear HE zf z0 z1 z2 BE hg lg c3)
   all_goals(try simp only[show((⟨#[114,116]⟩:ByteArray)[0])=114 from rfl,show(((114:UInt8).toNat:Nat):Int)=114 from rfl,hf0]at*)
   all_goals(try simp only[show((⟨#[114,116]⟩:ByteArray)[1])=116 from rfl,show(((116:UInt8).toNat:Nat):Int)=116 from rfl,hf1]at*)
   all_goals(simp_all;done)
  ·have HE:=Hd (show iV ⟨o,a,b,c⟩=if(df 116 a&&(true))=false then 3 else if([a,b,c].drop 1).all (λn=>decide (n=0))=false then 4 else 0 from HE.o)
   generalize hf0:df 116 a=f0 at HE;go_wp2_with fail;refine wp_loop_rounds 2 ?_
   iterate 1 (rw[rounds_succ];go_upto_region 7 with fail;go_quiet ((go_at_call 286;refine Calls.quiet_of_same ((c3.o _ _ _).mono (λ_ _ h=>⟨h.1,h.2.symm⟩))));replace z0:(w0.drewN nq).cell? ⟨q,0,none⟩=some ↑a:=z0;replace z1:(w0.drewN nq).cell? ⟨q,1,none⟩=some ↑b:=z1;replace z2:(w0.drewN nq).cell? ⟨q,2,none⟩=some ↑c:=z2;replace zf:∀j,(w0.drewN nq).frozen? ⟨q,j,none⟩=false:=zf;replace BE:=Below.drewN BE nq;generalize w0.drewN nq=w0 at*;clear nq;go_wp2_with fail;rotate_left 1)
   rw[rounds_succ];go_wp2_with fail
   all_goals(try(refine wp_loop_rounds 3 ?_))
   iterate 3 (all_goals(try(rw[rounds_succ];go_wp2_with fail)))
   all_goals go_ret
   all_goals(refine⟨?_,by rw[hg];exact BE⟩;rw[HE.o])
   all_goals(clear HE zf z0 z1 z2 BE hg lg c3)
   all_goals(try simp only[show((⟨#[116]⟩:ByteArray)[0])=116 from rfl,show(((116:UInt8).toNat:Nat):Int)=116 from rfl,hf0]at*)
   all_goals(simp_all;done)
  ·have HE:=Hd (show iV ⟨o,a,b,c⟩=if(df 102 a&&(true))=false then 3 else if([a,b,c].drop 1).all (λn=>decide (n=0))=false then 4 else 0 from HE.o)
   generalize hf0:df 102 a=f0 at HE;go_wp2_with fail;refine wp_loop_rounds 2 ?_
   iterate 1 (rw[rounds_succ];go_upto_region 7 with fail;go_quiet ((go_at_call 286;refine Calls.quiet_of_same ((c3.o _ _ _).mono (λ_ _ h=>⟨h.1,h.2.symm⟩))));replace z0:(w0.drewN nq).cell? ⟨q,0,none⟩=some ↑a:=z0;replace z1:(w0.drewN nq).cell? ⟨q,1,none⟩=some ↑b:=z1;replace z2:(w0.drewN nq).cell? ⟨q,2,none⟩=some ↑c:=z2;replace zf:∀j,(w0.drewN nq).frozen? ⟨q,j,none⟩=false:=zf;replace BE:=Below.drewN BE nq;generalize w0.drewN nq=w0 at*;clear nq;go_wp2_with fail;rotate_left 1)
   rw[rounds_succ];go_wp2_with fail
   all_goals(try(refine wp_loop_rounds 3 ?_))
   iterate 3 (all_goals(try(rw[rounds_succ];go_wp2_with fail)))
   all_goals go_ret
   all_goals(refine⟨?_,by rw[hg];exact BE⟩;rw[HE.o])
   all_goals(clear HE zf z0 z1 z2 BE hg lg c3)
   all_goals(try simp only[show((⟨#[102]⟩:ByteArray)[0])=102 from rfl,show(((102:UInt8).toNat:Nat):Int)=102 from rfl,hf0]at*)
   all_goals(simp_all;done)
theorem BU(x:Is)(w:World):Cs 251 #[x.v] w (.int .i64 (iV x)) λw'=>Below w.heap.size w w':=by
 by_cases h:x.op<0∨26<=x.op
 ·exact vW x h w
 have h:0<=x.op/\x.op<=25:=by omega
 obtain⟨o,a,b,c⟩:=x
 exact vX o a b c h w
theorem Us96 {p:Prop} (h:p:=by
 go_wp2_with fail
 go_ret
 exact⟨by rw[EE.out];rfl,HB.o⟩):p:=h
def dL{α:Type}(f:α->Int):List α->Int
 |[]=>0
 |x::l=>if f x=0 then dL f l else f x
theorem jX{α:Type}(f:α->Int):∀(l:List α),(∀x∈l,f x=0)->dL f l=0
 |[],_=>rfl
 |x::l,h=>by
  unfold dL;rw[if_pos (h x (List.mem_cons_self ..))]
  exact jX f l (λy hy=>h y (List.mem_cons_of_mem _ hy))
theorem lT{α:Type}(f:α->Int):∀(l:List α)(k:Nat)(hk:k<l.length),(∀x∈l.take k,f x=0)->f l[k]≠0->dL f l=f l[k]
 |x::l,0,_,_,h=>by
  have h:f x≠0:=h;unfold dL;rw[if_neg h];rfl
 |x::l,k+1,hk,h0,h=>by
  unfold dL;rw[if_pos (h0 x U8)]
  exact lT f l k (by simpa using hk) (λy hy=>h0 y (by simp[hy])) h
theorem wP{α:Type}{P:α->Prop}{l:List α}{k:Nat}(hk:k<l.length)(h:∀x∈l.take k,P x)(hx:P l[k]):∀x∈l.take (k+1),P x:=λx hm=>by
 rw[List.take_add_one,List.getElem?_eq_getElem hk]at hm
 rcases List.mem_append.1 hm with hm|hm
 ·exact h x hm
 ·simp at hm;subst hm;exact hx
def nK(n funcs:Int)(x:Is):Int:=if iV x=0 then(if qF x n funcs=true then 0 else 11)else iV x
def NF(l:List Is):Int:=match l.getLast? with
 |some x=>if x.op=0∨x.op=18∨x.op=25 then 0 else 12
 |none=>12
def jI(funcs:Int)(l:List Is):Int:=if fw l.length 200=0 then(if dL (nK l.length funcs) l=0 then NF l else dL (nK l.length funcs) l)else fw l.length 200
def iY(M:Int)(code:List (List Is)):Int:=if jy M code.length=0 then dL (jI code.length) code else jy M code.length
theorem BP{funcs:Int}{l:List Is}(h:fw l.length 200≠0):jI funcs l=fw l.length 200:=by unfold jI;rw[if_neg h]
theorem nO{n:Nat}{m:Int}(h:fw n m=0):0<n/\(n:Int)<=m:=by
 unfold fw at h
 split at h
 ·cases h
 ·split at h
  ·cases h
  ·omega
theorem dX.cell{w:World}{A:Option Addr}{n cap:Nat}{l:List Is}(h:dX w (.slice A n cap) l)(k:Nat)(hk:k<l.length):∃b o,A=some ⟨b,o,none⟩/\b<w.heap.size/\w.cell? ⟨b,o+k*4,none⟩=some (.int .i64 l[k].op)/\w.cell? ⟨b,o+k*4+1,none⟩=some (.int .i64 l[k].a)/\w.cell? ⟨b,o+k*4+2,none⟩=some (.int .i64 l[k].b)/\w.cell? ⟨b,o+k*4+3,none⟩=some (.int .i64 l[k].c):=by
 obtain⟨A',c',e,h1,h2,h3⟩:=h
 cases e
 obtain⟨b,o,e,q⟩:=h3 U2;have q0:w.cell? ⟨b,o+k*4,none⟩=some (.int .i64 l[k].op):=q k hk 0 U0
 exact⟨b,o,e,bL w _ q0,q0,q k hk 1 U0,q k hk 2 U0,q k hk 3 U0⟩
theorem dX.form{w:World}{v:Value}{l:List Is}(h:dX w v l):∃A cap,v=.slice A l.length cap:=by
 obtain⟨A,c,e,_⟩:=h
 exact⟨A,c,e⟩
theorem KO(w:World)(v:Value)(l:List Is)(funcs:Int)(h:dX w v l):Cs 186 #[v,funcs] w (.int .i64 (jI funcs l)) λw'=>Below w.heap.size w w':=by
 obtain⟨A,cap,rfl⟩:=h.form;have c1:=Hd (λn w=>wI n 200 w);have c2:=Hd (λx w=>BU x w);have c3:=Hd (λx n w=>FD x n funcs w)
 by_cases m0:fw l.length 200=0
 ·obtain⟨l0,l2⟩:=nO m0
  have hsub:wrap64 ((l.length:Int)-1)=((l.length-1:Nat):Int):=(xG _ U2).trans U2;have E0:jI funcs l=if dL (nK l.length funcs) l=0 then NF l else dL (nK l.length funcs) l:=by unfold jI;rw[if_pos m0]
  have E:=Hd E0;clear E0;have C1:=Hd (c1.o l.length w);rw[m0]at C1;have H:=Hd h;clear c1 m0 h;go_enter func186,ntmps186
  go_wp2_with (go_at_call 250;refine C1.out.r ?_)
  go_loopw [17] (λi wr=>∃k:Nat,k<=l.length/\i=.int .i64 k/\Below w.heap.size w wr/\∀x∈l.take k,nK l.length funcs x=0) (λi _=>l.length-(intOf i).toNat)
  case atStart=>exact⟨0,n0 _,rfl,Below.refl _ _,λx hx=>by simp at hx⟩
  case round=>
   obtain⟨k,hk,rfl,hB,hl⟩:=hrel
   by_cases hlt:k<l.length
   ·have hw:wrap64 ((k:Int)+1)=((k+1:Nat):Int):=iN hlt U2
    have hlt':(k:Int)<(l.length:Int):=jJ hlt;obtain⟨b,o,rfl,hb,q0,q1,q2,q3⟩:=(H.o.ai hB).cell k hlt;have HL:=Hd hl;have NX:=Hd (λ(z:nK l.length funcs l[k]=0)=>wP hlt hl z);have HT:=Hd (λ(z:nK l.length funcs l[k]≠0)=>lT (nK l.length funcs) l k hlt hl z);have IF:=Hd (show nK l.length funcs l[k]=if iV l[k]=0 then(if qF l[k] l.length funcs=true then 0 else 11)else iV l[k]from rfl);clear hl H;generalize hX:l[k]=x at*;clear hX;obtain⟨o0,a0,b0,c0⟩:=x;dsimp only at q0 q1 q2 q3;have C2:=Hd (c2.o ⟨o0,a0,b0,c0⟩);have C3:=Hd (c3.o ⟨o0,a0,b0,c0⟩ l.length);unfold Is.v at C2 C3;clear c2 c3;dsimp only at C2 C3;generalize iV ⟨o0,a0,b0,c0⟩=ie at*;generalize qF ⟨o0,a0,b0,c0⟩ l.length funcs=lb at*;generalize nK l.length funcs ⟨o0,a0,b0,c0⟩=fe at*;have bz:=af.new wr #[o0,a0,b0,c0] 109 _ rfl;have B2:=Hd (hB.alloc hB.size (.cells #[o0,a0,b0,c0] 109));have BZ:=Hd bz;have LZ:=Hd (show w.heap.size<=(wr.alloc (.cells #[o0,a0,b0,c0] 109)).heap.size by have:=hB.size;simp;omega);clear bz hB
    by_cases hi:ie=0
    ·subst hi
     cases lb with
     |true=>
      have NX:=Hd (NX.out (IF.out.trans U8));clear HT IF HL
      go_wp2_with (first|(go_at_call 251;refine(C2.out _).q λw1 Sr=> ?_;have z:=BZ.o.below Sr BZ.o.lt;have z0:=z.cell 0;have z1:=z.cell 1;have z2:=z.cell 2;have z3:=z.cell 3;simp only[List.getElem?_toArray,List.getElem?_cons_zero,List.getElem?_cons_succ]at z0 z1 z2 z3;have B3:=Hd (B2.o.trans (Sr.mono LZ.out));have L3:=Hd (nT LZ.out Sr.size);clear Sr z)|(go_at_call 252;refine(C3.out _).q λw2 hb2=> ?_;have B4:=Hd (B3.o.trans (hb2.mono L3.out));clear hb2))
      go_roundw
      case rel=>exact⟨k+1,hlt,by first|rw[hw]|simp,B4.o,NX.out⟩
      case measure=>exact iM hlt
     |false=>
      have e:jI funcs l=11:=by
       have q:dL (nK l.length funcs) l=11:=(HT.o (by rw[IF.out];simp)).trans (by rw[IF.out];simp);rw[E.out,q];rfl
      have EE:=Hd e;clear e HT IF HL NX E
      go_wp2_with (first|(go_at_call 251;refine(C2.out _).q λw1 Sr=> ?_;have z:=BZ.o.below Sr BZ.o.lt;have z0:=z.cell 0;have z1:=z.cell 1;have z2:=z.cell 2;have z3:=z.cell 3;simp only[List.getElem?_toArray,List.getElem?_cons_zero,List.getElem?_cons_succ]at z0 z1 z2 z3;have B3:=Hd (B2.o.trans (Sr.mono LZ.out));have L3:=Hd (nT LZ.out Sr.size);clear Sr z)|(go_at_call 252;refine(C3.out _).q λw2 hb2=> ?_;have B4:=Hd (B3.o.trans (hb2.mono L3.out));clear hb2))
      go_ret
      exact⟨by rw[EE.out];rfl,B4.o⟩
    ·have e:jI funcs l=ie:=by
      have q0:fe=ie:=IF.out.trans (if_neg hi);have q:dL (nK l.length funcs) l=ie:=(HT.o (by rw[q0];exact hi)).trans q0;rw[E.out,q,if_neg hi]
     have EE:=Hd e;clear e HT IF HL NX E
     go_wp2_with (first|(go_at_call 251;refine(C2.out _).q λw1 Sr=> ?_;have B3:=Hd (B2.o.trans (Sr.mono LZ.out));clear Sr))
     go_ret
     exact⟨by rw[EE.out];rfl,B3.o⟩
   ·obtain rfl:k=l.length:=Nat.le_antisymm hk (Nat.le_of_not_lt hlt)
    have hge:¬((l.length:Int)<(l.length:Int)):=Int.lt_irrefl _;have e0:l.length-1<l.length:=Nat.sub_lt l0 U0;obtain⟨b,o,rfl,hb,q0,q1,q2,q3⟩:=(H.o.ai hB).cell (l.length-1) e0;have e1:dL (nK l.length funcs) l=0:=jX _ _ (λx hx=>hl x (by rw[List.take_length];exact hx));have e2:jI funcs l=if(l[l.length-1]'e0).op=0∨(l[l.length-1]'e0).op=18∨(l[l.length-1]'e0).op=25 then 0 else 12:=by
     rw[E.out,if_pos e1];unfold NF;rw[List.getLast?_eq_getElem?,List.getElem?_eq_getElem e0]
    have EE:=Hd e2;have HB:=Hd hB;have lm:(((l.length-1:Nat):Nat):Int)<(l.length:Int):=by omega
    clear E H hl e1 e2 hB q1 q2 q3 c2 c3;generalize(l[l.length-1]'e0).op=op at*;clear e0;generalize l.length=n at*
    by_cases o1:op=0
    ·subst o1
     exact Us96
    by_cases o2:op=18
    ·subst o2
     exact Us96
    by_cases o3:op=25
    ·subst o3
     exact Us96
    go_wp2_with fail
    go_ret
    exact⟨by rw[EE.out,if_neg (by rintro(h|h|h)<;>contradiction)];rfl,HB.o⟩
 ·have E:=Hd (BP (funcs:=funcs) m0)
  have C1:=Hd (c1.o l.length w);clear c1 c2 c3 h;generalize fw l.length 200=e at*;go_enter func186,ntmps186
  go_wp2_with (go_at_call 250;refine C1.out.r ?_)
  go_ret
  exact⟨by rw[E.out];rfl,Below.refl _ _⟩
theorem oz(w:World)(M:Int)(fv:Value)(code:List (List Is))(h:aP w fv code):Cs 112 #[.agg #[M,fv]] w (.int .i64 (iY M code)) λw'=>Below w.heap.size w w':=by
 obtain⟨A,cap,rfl,h1,h2,hc⟩:=h;have c1:=Hd (λw=>GR M code.length w);have c2:=Hd (λw v l h=>KO w v l code.length h);have b1:=af.new w #[M,.slice A code.length cap] 24 _ rfl;have B1:Below w.heap.size w (w.alloc (.cells #[M,.slice A code.length cap] 24)):=Ba _;have HC:=Hd hc
 by_cases m0:jy M code.length=0
 ·have l16:(code.length:Int)<=16:=by
   unfold jy at m0
   split at m0
   ·cases m0
   ·split at m0
    ·cases m0
    ·exact(nO m0).2
  have E:=Hd (show iY M code=dL (jI code.length) code by unfold iY;rw[if_pos m0]);have C1:=Hd (λw=>(by have:=c1.o w;rw[m0]at this;exact this:Cs 185 #[M,code.length] w (.int .i64 0) λw'=>w=w'));clear c1 m0 hc;go_enter func112,ntmps112;go_upto_region 1 with fail;generalize w.alloc (.cells #[M,.slice A code.length cap] 24)=W at*;generalize hg:w.heap.size=g at*;have x0:=b1.c0;have x1:=b1.c1
  go_wp2_with (go_at_call 185;refine(C1.out _).r ?_)
  go_loopw [19] (λi wr=>∃k:Nat,k<=code.length/\i=.int .i64 k/\Below W.heap.size W wr/\∀l∈code.take k,jI code.length l=0) (λi _=>code.length-(intOf i).toNat)
  case atStart=>exact⟨0,n0 _,rfl,Below.refl _ _,λx hx=>by simp at hx⟩
  case round=>
   obtain⟨k,hk,rfl,hB,hl⟩:=hrel
   by_cases hlt:k<code.length
   ·have hw:wrap64 ((k:Int)+1)=((k+1:Nat):Int):=iN hlt U2
    have hlt':(k:Int)<(code.length:Int):=jJ hlt;obtain⟨b,o,rfl,q⟩:=HC.o U2;obtain⟨v',q1,q2⟩:=q k hlt;have q2:=(q2.ai (by rw[hg];exact B1)).ai hB;have q1:=kb hB (show b<W.heap.size by have:=bL w _ q1;have:=b1.lt;have:=B1.size;show b<_;simp only at*;omega) (kb B1 (show b<g by rw[<-hg];exact bL w _ q1) q1);have x1':wr.cell? ⟨g,1,none⟩=some (.slice (some ⟨b,o,none⟩) code.length cap):=kb hB b1.lt x1;have C3:=Hd (c2.o wr v' code[k] q2);obtain⟨A',c',rfl⟩:=q2.form;have HT:=Hd (λ(z:jI code.length code[k]≠0)=>lT (jI code.length) code k hlt hl z);have NX:=Hd (λ(z:jI code.length code[k]=0)=>wP hlt hl z);have M2:=Hd (iM hlt);have K1:k+1<=code.length:=hlt;have HB:=Hd hB;have HBW:=Hd (λw2 (hb:Below wr.heap.size wr w2)=>(show Below g w w2 from by have l:=b1.lt;have:=hB.size;exact B1.trans ((hB.trans (hb.mono hB.size)).mono (Nat.le_of_lt l))));have HBX:=Hd (λw2 (hb:Below wr.heap.size wr w2)=>hB.trans (hb.mono hB.size));clear q2 hl hB HC q c2 h1 h2 l16 hk;generalize hx:code[k]=l at*;clear hx;clear hlt
    by_cases z:jI code.length l=0
    ·have NX:=Hd (NX.out z)
     rw[z]at C3;clear HT z;generalize l.length=n1 at*
     go_wp2_with (go_at_call 186;refine C3.out.q λw1 Sr=> ?_;have B3:=Hd (HBX.o _ Sr);clear Sr)
     go_roundw
     case rel=>exact⟨k+1,K1,by first|rw[hw]|simp,B3.o,NX.out⟩
     case measure=>first|exact M2.out|(rw[hw];simpa using M2.out)
    ·have EE:=Hd (show iY M code=jI code.length l by rw[E.out];exact HT.o z)
     clear HT NX E;generalize jI code.length l=e at*;generalize l.length=n1 at*
     go_wp2_with (go_at_call 186;refine C3.out.q λw1 Sr=> ?_;have B3:=Hd (HBW.o _ Sr);clear Sr)
     go_ret
     exact⟨by rw[EE.out];rfl,by first|exact B3.o|(rw[hg];exact B3.o)⟩
   ·obtain rfl:k=code.length:=Nat.le_antisymm hk (Nat.le_of_not_lt hlt)
    have hge:¬((code.length:Int)<(code.length:Int)):=Int.lt_irrefl _;have e:iY M code=0:=by
     rw[E.out]
     exact jX _ _ (λx hx=>hl x (by rw[List.take_length];exact hx))
    have EE:=Hd e;have HB:=Hd (show Below g w wr from B1.trans (hB.mono (Nat.le_of_lt b1.lt)));clear e E hl hB HC c2;go_wp2_with fail
    go_ret
    exact⟨by rw[EE.out];rfl,by first|exact HB.o|(rw[hg];exact HB.o)⟩
 ·have E:=Hd (show iY M code=jy M code.length by unfold iY;rw[if_neg m0])
  clear hc c2;generalize jy M code.length=e at*;go_enter func112,ntmps112
  go_wp2_with (go_at_call 185;refine(c1.o _).r ?_)
  go_ret
  exact⟨by rw[E.out];rfl,B1⟩
end Go.Proofs.YteiignfflbmafaaGreat.Tp
