/- TopOne, part 4. -/
import Derived.Test.YteiignfflbmafaaGreatQ3
set_option linter.unusedVariables false
set_option linter.unusedSimpArgs false
set_option maxRecDepth 100000
set_option maxHeartbeats 8000000
namespace Go.Proofs.YteiignfflbmafaaGreat.Tp
open Go.Proofs.Tryz
open Go.RowKit Go.Proofs.YteiignfflbmafaaGreat.Tok
structure RW where
 p:Pl
 id:Int
 au:Int
 it:Nat
 cn:Int
 st:Int
 nx:Int
 fm:Int
 Sl:Bool
def RW.arr(r:RW):Array Value:= #[r.p.wk,r.p.fr,r.p.th,r.p.dq,r.id,r.au,r.it,r.cn,r.st,r.nx,r.fm,.bool r.Sl]
theorem EK(b:Bool)(n:Int)(w:World):
  Cs 231 #[.bool b,n] w (.int .i64 (if b=true then n else 3)) λw'=>w=w':=by
 cases b
 all_goals
  go_enter func231,ntmps231
  go_wp2
  go_ret
  exact⟨rfl,rfl⟩
theorem FK(a b c d id au:Int)(it:Nat)(cn:Int)(hit:(it:Int)<=100000000)(w:World):
  Calls prog 228 #[.agg #[a,b,c,d,id,au],it,cn] w λe w'=>
   ∃q,e=.returned (.pointer (some ⟨q,0,none⟩))/\af w' q (RW.arr ⟨⟨a,b,c,d⟩,id,au,it+1,cn,0,0,0,false⟩) 281 /\w.heap.size<=q/\Below w.heap.size w w':=by
 have e1:wrap64 ((it:Int)+1)=((it+1:Nat):Int):=by unfold wrap64;omega
 generalize hj:it+1=j at*;clear hj hit;go_enter func228,ntmps228;go_wp2_with fail
 go_ret
 exact⟨_,rfl,af.new _ _ _ _ U8,by simp,(Ba _).alloc U8 _⟩
theorem KQ(w:World)(q:Nat)(r:RW)(h:af w q r.arr 281):
  Cs 165 #[.pointer (some ⟨q,0,none⟩)] w (.tuple #[r.fm,.bool r.Sl]) λw'=>Below w.heap.size w w':=by
 have h0:=h.c10;have h1:=h.c11;generalize r.fm=f at*;generalize r.Sl=g at*;go_enter func165,ntmps165;go_upto_region 3 with fail
 go_quiet (fail)
 go_wp2_with fail
 go_ret2
 exact⟨rfl,below_drewN (Below.refl _ _) _⟩
def RW.sees(r:RW)(L:List Int):Bool:=iK (L.getD (r.p.wN r.id r.it 1) 0) r.cn&&(L.getD (r.p.wN r.id r.it 1) 0==aA r.au r.it (bZ (L.getD (r.p.wN r.id r.it 1) 0)))
def RW.wins(r:RW)(L:List Int):Bool:=L.getD (r.p.wN r.id r.it 1) 0==aA r.au r.it r.st
def RW.step(r:RW)(L:List Int):RW×List Int:=
 if r.nx=0 then({r with st:=if r.sees L=true then bZ (L.getD (r.p.wN r.id r.it 1) 0)else 0,nx:=if r.sees L=true then 1 else 3},L)
 else if r.nx=1 then({r with nx:=if r.wins L=true then 2 else 3},swp L (r.p.wN r.id r.it 1) (aA r.au r.it r.st) 0)
 else if r.nx=2 then({r with fm:=L.getD (r.p.wN r.id r.it 2) 0,Sl:=true,nx:=3},L)
 else(r,L)
def Two(a b:Nat):Nat->Prop:=λk=>k=a∨k=b
theorem Kept.two{a b:Nat}{w w':World}(h:Kept (One a) w w'):Kept (Two a b) w w':=h.mono (λ_ q=>Or.inl q)
theorem Kept.bT(w:World)(a b k:Nat)(v:Value):Kept (Two a b) w (w.setCell ⟨b,k,none⟩ v):=(Kept.refl (Two a b) w).set (p:=⟨b,k,none⟩) (Or.inl (Or.inr rfl)) v
theorem OY(a b c e id au:Int)(it:Nat)(cn st fm:Int)(Sl:Bool)(hp:(⟨a,b,c,e⟩:Pl).ok)(w:World)(q s d:Nat)(L:List Int)
  (hk:(⟨a,b,c,e⟩:Pl).wN id it 1<L.length) (hS:aD w s d L) (h:af w q #[a,b,c,e,id,au,it,cn,st,(0:Int),fm,.bool Sl] 281) (hqs:q≠s) (hqd:q≠d):
  Calls prog 164 #[.pointer (some ⟨q,0,none⟩),.pointer (some ⟨s,0,none⟩)] w λev w'=>
   ev=.returned (.bool (((⟨⟨a,b,c,e⟩,id,au,it,cn,st,0,fm,Sl⟩:RW).step L).1.nx==3))/\af w' q ((⟨⟨a,b,c,e⟩,id,au,it,cn,st,0,fm,Sl⟩:RW).step L).1.arr 281 /\aD w' s d ((⟨⟨a,b,c,e⟩,id,au,it,cn,st,0,fm,Sl⟩:RW).step L).2/\Kept (Two d q) w w':=by
 have cW:=Hd (λw h=>I1 ⟨a,b,c,e⟩ hp id au it s d L hk w h);have HX:=Hd (show(⟨⟨a,b,c,e⟩,id,au,it,cn,st,0,fm,Sl⟩:RW).step L=({(⟨⟨a,b,c,e⟩,id,au,it,cn,st,0,fm,Sl⟩:RW)with st:=if(⟨⟨a,b,c,e⟩,id,au,it,cn,st,0,fm,Sl⟩:RW).sees L=true then bZ (L.getD ((⟨a,b,c,e⟩:Pl).wN id it 1) 0)else 0,nx:=if(⟨⟨a,b,c,e⟩,id,au,it,cn,st,0,fm,Sl⟩:RW).sees L=true then 1 else 3},L)from rfl);have HS:=Hd (show(⟨⟨a,b,c,e⟩,id,au,it,cn,st,0,fm,Sl⟩:RW).sees L=(iK (L.getD ((⟨a,b,c,e⟩:Pl).wN id it 1) 0) cn&&(L.getD ((⟨a,b,c,e⟩:Pl).wN id it 1) 0==aA au it (bZ (L.getD ((⟨a,b,c,e⟩:Pl).wN id it 1) 0))))from rfl);generalize(⟨⟨a,b,c,e⟩,id,au,it,cn,st,0,fm,Sl⟩:RW).step L=Z at*;generalize(⟨⟨a,b,c,e⟩,id,au,it,cn,st,0,fm,Sl⟩:RW).sees L=ok at*;generalize L.getD ((⟨a,b,c,e⟩:Pl).wN id it 1) 0=t at*;have cM:=Hd (λw=>Kq a b c e id au t it cn w);rw[<-HS.o]at cM;clear HS hp hk;dsimp only at cW;generalize hv:(if ok=true then bZ t else 0)=v at*;clear hv;have l0:=h.lt;have x0:=h.c0;have x1:=h.c1;have x2:=h.c2;have x3:=h.c3;have x4:=h.c4;have x5:=h.c5;have x6:=h.c6;have x7:=h.c7;have x8:=h.c8;have x9:=h.c9;have x10:=h.c10;have x11:=h.c11;go_enter func164,ntmps164;go_upto_region 5 with fail
 go_cut [5,6] (λs5 s6 wx=>s5=.int .i64 v/\s6=.bool ok/\Below w.heap.size w wx)
 case first=>
  go_region_held3 (λw'=>w'.cell? ⟨q,0,none⟩=some ↑a/\w'.cell? ⟨q,1,none⟩=some ↑b/\w'.cell? ⟨q,2,none⟩=some ↑c/\w'.cell? ⟨q,3,none⟩=some ↑e/\w'.cell? ⟨q,4,none⟩=some ↑id/\w'.cell? ⟨q,5,none⟩=some ↑au/\w'.cell? ⟨q,6,none⟩=some ↑it/\w'.cell? ⟨q,7,none⟩=some ↑cn)
   (exact U157)
   (first|(go_at_call 230;refine(cW.o _ U22).q λw1 Sr=> ?_;have l1:=nL l0 Sr.size)|(go_at_call 229;refine(cM.o _).q λw2 hb2=> ?_;have l2:=nL l1 hb2.size))
  all_goals
   have B1:Below w.heap.size w w1:=by first|exact Sr|exact(Below.refl _ _).drew.trans Sr|exact(Below.refl _ _).drew.drew.trans Sr
   have B2:Below w.heap.size w w2:=by first|exact B1.trans (hb2.mono B1.size)|exact B1.drew.trans (hb2.mono B1.size)
   go_wp2_with fail
   go_meet
   exact⟨rfl,rfl,by first|exact B2|exact B2.drew⟩
 case rest=>
  obtain⟨rfl,rfl,hb⟩:=hcut;have bq:=h.below hb l0;have sS:=hS.ai hb;have gz:=bq.fz;clear x0 x1 x2 x3 x4 x5 x6 x7 x8 x9 x10 x11;have x0:=bq.c0;have x1:=bq.c1;have x2:=bq.c2;have x3:=bq.c3;have x4:=bq.c4;have x5:=bq.c5;have x6:=bq.c6;have x7:=bq.c7;have x8:=bq.c8;have x9:=bq.c9;have x10:=bq.c10;have x11:=bq.c11
  cases ok
  all_goals
   go_wp2_with (go_at_call 231;refine(EK _ _ _).r ?_)
   go_ret
   rw[HX.o];refine⟨rfl,?_,(sS.far (λz=>hqs z.symm) (λz=>hqd z.symm) _).far (λz=>hqs z.symm) (λz=>hqd z.symm) _,((Kept.ob hb).trans (Kept.bT _ _ _ _ _)).trans (Kept.bT _ _ _ _ _)⟩
   first
   |exact(bq.set 8 ↑v).set 9 (.int .i64 1)
   |exact(bq.set 8 ↑v).set 9 (.int .i64 3)
structure PW where
 p:Pl
 id:Int
 au:Int
 it:Nat
 st:Int
 nx:Int
 bk:Bool
def PW.arr(r:PW):Array Value:= #[r.p.wk,r.p.fr,r.p.th,r.p.dq,r.id,r.au,r.it,r.st,r.nx,.bool r.bk]
def PW.wins(r:PW)(L:List Int):Bool:=L.getD (r.p.wN r.id r.it 1) 0==aA r.au r.it r.st
def PW.stays(r:PW)(L:List Int):Bool:=decide (r.st<L.getD (r.p.wN r.id (r.it-1) 0) 0)
def PW.step(r:PW)(L:List Int):PW×List Int:=
 if r.nx=0 then({r with nx:=1},L.set (r.p.wN r.id r.it 1) (aA r.au r.it r.st))
 else if r.nx=1 then({r with nx:=if r.stays L=true then 2 else 3},L)
 else if r.nx=2 then({r with bk:=r.wins L,nx:=3},swp L (r.p.wN r.id r.it 1) (aA r.au r.it r.st) 0)
 else(r,L)
structure NW where
 p:Pl
 id:Int
 au:Int
 it:Nat
 at_:Int
 over:Bool
 iG:Bool
def NW.arr(r:NW):Array Value:= #[r.p.wk,r.p.fr,r.p.th,r.p.dq,r.id,r.au,r.it,r.at_,.bool r.over,.bool r.iG]
def NW.rG(r:NW)(looks:Bool):Array Value:= #[r.p.wk,r.p.fr,r.p.th,r.p.dq,r.id,r.au,r.it,r.at_,.bool r.over,.bool r.iG,.bool looks]
theorem I9(w:World)(q:Nat)(n:Int)(o on:Bool)(h7:w.cell? ⟨q,7,none⟩=some ↑n)(h8:w.cell? ⟨q,8,none⟩=some (.bool o))(hf:∀j,w.frozen? ⟨q,j,none⟩=false):
  Cs 277 #[.pointer (some ⟨q,0,none⟩),.bool on] w (.tuple #[]) λw'=>w'=(w.setCell ⟨q,7,none⟩ (.int .i64 (wrap64 (n+1)))).setCell ⟨q,8,none⟩ (.bool (!on)):=by
 go_enter func277,ntmps277;go_wp2_with fail
 go_end0
 exact⟨rfl,rfl⟩
theorem yL(a b c d id au:Int)(it:Nat)(w:World):
  Calls prog 243 #[.agg #[a,b,c,d,id,au],it] w λe w'=>
   ∃q,e=.returned (.pointer (some ⟨q,0,none⟩))/\af w' q (NW.arr ⟨⟨a,b,c,d⟩,id,au,it,0,false,false⟩) 307 /\w.heap.size<=q/\Below w.heap.size w w':=by
 go_enter func243,ntmps243;go_wp2_with fail
 go_ret
 exact⟨_,rfl,af.new _ _ _ _ U8,by simp,(Ba _).alloc U8 _⟩
theorem yI(a b c d id au:Int)(it:Nat)(lk:Bool)(w:World):
  Calls prog 167 #[.agg #[a,b,c,d,id,au],it,.bool lk] w λe w'=>
   ∃q,e=.returned (.pointer (some ⟨q,0,none⟩))/\af w' q (NW.rG ⟨⟨a,b,c,d⟩,id,au,it,0,false,false⟩ lk) 288 /\w.heap.size<=q/\Below w.heap.size w w':=by
 go_enter func167,ntmps167;go_wp2_with fail
 go_ret
 exact⟨_,rfl,af.new _ _ _ _ U8,by simp,(Ba _).alloc U8 _⟩
theorem Gb(w:World)(q:Nat)(r:NW)(h:af w q r.arr 307):
  Cs 245 #[.pointer (some ⟨q,0,none⟩)] w (.bool r.iG) λw'=>w=w':=by
 have h1:=h.c9;generalize r.iG=g at*;go_enter func245,ntmps245;go_wp2_with fail
 go_ret
 exact⟨rfl,rfl⟩
theorem KC(w:World)(q:Nat)(r:NW)(lk:Bool)(h:af w q (r.rG lk) 288):
  Cs 238 #[.pointer (some ⟨q,0,none⟩)] w (.bool r.iG) λw'=>w=w':=by
 have h1:=h.c9;generalize r.iG=g at*;go_enter func238,ntmps238;go_wp2_with fail
 go_ret
 exact⟨rfl,rfl⟩
theorem uh(a b c e id au:Int)(it:Nat)(n:Int)(o wn:Bool)(hp:(⟨a,b,c,e⟩:Pl).ok)(w:World)(q s d:Nat)(cs:Array Value)(t:TypeId)(L:List Int)
  (hk:(⟨a,b,c,e⟩:Pl).nN id<L.length) (hS:aD w s d L) (h:af w q cs t) (hqs:q≠s) (hqd:q≠d) (c0:cs[0]? =some (.int .i64 a)) (c1:cs[1]? =some (.int .i64 b)) (c2:cs[2]? =some (.int .i64 c)) (c3:cs[3]? =some (.int .i64 e)) (c4:cs[4]? =some (.int .i64 id)) (c5:cs[5]? =some (.int .i64 au)) (c6:cs[6]? =some (.int .i64 it)) (c7:cs[7]? =some (.int .i64 n)) (c8:cs[8]? =some (.bool o)) (c9:cs[9]? =some (.bool wn)):
  Calls prog 279 #[.pointer (some ⟨q,0,none⟩),.pointer (some ⟨s,0,none⟩)] w λev w'=>
   ev=.returned (.tuple #[])/\af w' q ((cs.setIfInBounds 9 (.bool (L.getD ((⟨a,b,c,e⟩:Pl).nN id) 0==aA au it 0))).setIfInBounds 8 (.bool true)) t/\aD w' s d (swp L ((⟨a,b,c,e⟩:Pl).nN id) (aA au it 0) 0)/\Kept (Two d q) w w':=by
 have cW:=Hd (λw h=>Gt ⟨a,b,c,e⟩ hp id au it s d L hk w h);generalize(L.getD ((⟨a,b,c,e⟩:Pl).nN id) 0==aA au it 0)=ok at*;generalize swp L ((⟨a,b,c,e⟩:Pl).nN id) (aA au it 0) 0=L' at*;clear hp hk;dsimp only at cW;have l0:=h.lt;have gd:¬One d q:=λz=>hqd z;have gz:=h.fz;have x0:w.cell? ⟨q,0,none⟩=some ↑a:=(h.cell 0).trans c0;have x1:w.cell? ⟨q,1,none⟩=some ↑b:=(h.cell 1).trans c1;have x2:w.cell? ⟨q,2,none⟩=some ↑c:=(h.cell 2).trans c2;have x3:w.cell? ⟨q,3,none⟩=some ↑e:=(h.cell 3).trans c3;have x4:w.cell? ⟨q,4,none⟩=some ↑id:=(h.cell 4).trans c4;have x5:w.cell? ⟨q,5,none⟩=some ↑au:=(h.cell 5).trans c5;have x6:w.cell? ⟨q,6,none⟩=some ↑it:=(h.cell 6).trans c6;have x7:w.cell? ⟨q,7,none⟩=some ↑n:=(h.cell 7).trans c7;have x8:w.cell? ⟨q,8,none⟩=some (.bool o):=(h.cell 8).trans c8;have x9:w.cell? ⟨q,9,none⟩=some (.bool wn):=(h.cell 9).trans c9;have C8:=Hd c8;have C9:=Hd c9;clear c0 c1 c2 c3 c4 c5 c6 c7 c8 c9;go_enter func279,ntmps279;go_upto_region 0 with fail
 go_region_held3 (λw'=>w'.cell? ⟨q,0,none⟩=some ↑a/\w'.cell? ⟨q,1,none⟩=some ↑b/\w'.cell? ⟨q,2,none⟩=some ↑c/\w'.cell? ⟨q,3,none⟩=some ↑e/\w'.cell? ⟨q,4,none⟩=some ↑id/\w'.cell? ⟨q,5,none⟩=some ↑au/\w'.cell? ⟨q,6,none⟩=some ↑it)
  (exact U159)
  (first|(go_at_call 299;refine(cW.o _ U22).mono ?_;rintro ev w1 ⟨rfl,h1,k1⟩;have l1:=nL l0 k1.size;have b1:=(by first|exact k1.blk h gd|exact k1.blk h.drew gd|exact k1.blk h.drew.drew gd:af w1 q cs t);have z1:=b1.fz;have y8:=(b1.cell 8).trans C8.out;have y9:=(b1.cell 9).trans C9.out))
 all_goals
  go_wp2_with fail;have K1:Kept (One d) w w1:=by first|exact k1|exact(Kept.refl _ w).drew.trans k1|exact(Kept.refl _ w).drew.drew.trans k1
  go_end0
  exact⟨rfl,((K1.blk h gd).set 9 (.bool ok)).set 8 (.bool true),(h1.far (λz=>hqs z.symm) (λz=>hqd z.symm) _).far (λz=>hqs z.symm) (λz=>hqd z.symm) _,(K1.two.trans (Kept.bT _ _ _ _ _)).trans (Kept.bT _ _ _ _ _)⟩
theorem kY(w:World)(q:Nat)(n m:Int)(o on b:Bool)(hm:wrap64 (n+1)=m)(hb:(!on)=b)(h7:w.cell? ⟨q,7,none⟩=some ↑n)(h8:w.cell? ⟨q,8,none⟩=some (.bool o))(hf:∀j,w.frozen? ⟨q,j,none⟩=false):
  Cs 277 #[.pointer (some ⟨q,0,none⟩),.bool on] w (.tuple #[]) λw'=>(w.setCell ⟨q,7,none⟩ ↑m).setCell ⟨q,8,none⟩ (.bool b)=w':=by
 subst hm hb
 exact(I9 w q n o on h7 h8 hf).mono λe w' h=>⟨h.1,h.2.symm⟩
def NW.ended(r:NW)(L:List Int):Bool:=L.getD (r.p.wN r.id r.it 3) 0==aA r.au r.it 0
def NW.asleep(r:NW)(L:List Int):Bool:=L.getD (r.p.nN r.id) 0==aA r.au r.it 0
def NW.gI(r:NW)(L:List Int):NW×List Int:=
 if r.over=true then(r,L)
 else if r.at_=0 then({r with at_:=1,over:=false},L.set (r.p.nN r.id) (aA r.au r.it 0))
 else if r.at_=1 then({r with at_:=2,over:= !(r.ended L)},L)
 else({r with iG:=r.asleep L,over:=true},swp L (r.p.nN r.id) (aA r.au r.it 0) 0)
theorem OD(a b c e id au:Int)(it:Nat)(wn:Bool)(hp:(⟨a,b,c,e⟩:Pl).ok)(w:World)(q s d:Nat)(L:List Int)
  (hk:(⟨a,b,c,e⟩:Pl).nN id<L.length) (hS:aD w s d L) (h:af w q #[a,b,c,e,id,au,it,(0:Int),.bool false,.bool wn] 307) (hqs:q≠s) (hqd:q≠d):
  Calls prog 244 #[.pointer (some ⟨q,0,none⟩),.pointer (some ⟨s,0,none⟩)] w λev w'=>
   ev=.returned (.bool (((⟨⟨a,b,c,e⟩,id,au,it,0,false,wn⟩:NW).gI L).1.over))/\af w' q ((⟨⟨a,b,c,e⟩,id,au,it,0,false,wn⟩:NW).gI L).1.arr 307 /\aD w' s d ((⟨⟨a,b,c,e⟩,id,au,it,0,false,wn⟩:NW).gI L).2/\Kept (Two d q) w w':=by
 have cW:=Hd (λw h=>GV ⟨a,b,c,e⟩ hp id au it s d L hk w h);have HX:=Hd (show(⟨⟨a,b,c,e⟩,id,au,it,0,false,wn⟩:NW).gI L=({(⟨⟨a,b,c,e⟩,id,au,it,0,false,wn⟩:NW)with at_:=1,over:=false},L.set ((⟨a,b,c,e⟩:Pl).nN id) (aA au it 0))from rfl);generalize(⟨⟨a,b,c,e⟩,id,au,it,0,false,wn⟩:NW).gI L=Z at*;generalize L.set ((⟨a,b,c,e⟩:Pl).nN id) (aA au it 0)=L' at*;clear hp hk;dsimp only at cW;have l0:=h.lt;have gd:¬One d q:=λz=>hqd z;have gz:=h.fz;have x0:=h.c0;have x1:=h.c1;have x2:=h.c2;have x3:=h.c3;have x4:=h.c4;have x5:=h.c5;have x6:=h.c6;have x7:=h.c7;have x8:=h.c8;have x9:=h.c9;go_enter func244,ntmps244;go_upto_region 5 with fail
 go_region_held3 (λw'=>w'.cell? ⟨q,0,none⟩=some ↑a/\w'.cell? ⟨q,1,none⟩=some ↑b/\w'.cell? ⟨q,2,none⟩=some ↑c/\w'.cell? ⟨q,3,none⟩=some ↑e/\w'.cell? ⟨q,4,none⟩=some ↑id/\w'.cell? ⟨q,5,none⟩=some ↑au/\w'.cell? ⟨q,6,none⟩=some ↑it)
  (exact U159)
  (first|(go_at_call 283;refine(cW.o _ U22).mono ?_;rintro ev w1 ⟨rfl,h1,k1⟩;have l1:=nL l0 k1.size;have b1:=(by first|exact k1.blk h gd|exact k1.blk h.drew gd|exact k1.blk h.drew.drew gd:af w1 q #[a,b,c,e,id,au,it,(0:Int),.bool false,.bool wn] 307);have z1:=b1.fz;have y7:=b1.cell 7;have y8:=b1.cell 8))
 all_goals
  have K1:Kept (One d) w w1:=by first|exact k1|exact(Kept.refl _ w).drew.trans k1|exact(Kept.refl _ w).drew.drew.trans k1
  go_wp2_with (go_at_call 277;refine(kY _ _ 0 1 _ true false (wr _ U2) rfl U6 U6 U6).r ?_)
  go_ret
  rw[HX.o]
  exact⟨rfl,((K1.blk h gd).set 7 (.int .i64 1)).set 8 (.bool false),(h1.far (λz=>hqs z.symm) (λz=>hqd z.symm) _).far (λz=>hqs z.symm) (λz=>hqd z.symm) _,(K1.two.trans (Kept.bT _ _ _ _ _)).trans (Kept.bT _ _ _ _ _)⟩
theorem OE(a b c e id au:Int)(it:Nat)(wn:Bool)(hp:(⟨a,b,c,e⟩:Pl).ok)(w:World)(q s d:Nat)(L:List Int)
  (hk:(⟨a,b,c,e⟩:Pl).wN id it 3<L.length) (hS:aD w s d L) (h:af w q #[a,b,c,e,id,au,it,(1:Int),.bool false,.bool wn] 307) (hqs:q≠s) (hqd:q≠d):
  Calls prog 244 #[.pointer (some ⟨q,0,none⟩),.pointer (some ⟨s,0,none⟩)] w λev w'=>
   ev=.returned (.bool (((⟨⟨a,b,c,e⟩,id,au,it,1,false,wn⟩:NW).gI L).1.over))/\af w' q ((⟨⟨a,b,c,e⟩,id,au,it,1,false,wn⟩:NW).gI L).1.arr 307 /\aD w' s d ((⟨⟨a,b,c,e⟩,id,au,it,1,false,wn⟩:NW).gI L).2/\Kept (Two d q) w w':=by
 have cW:=Hd (λw h=>qx ⟨a,b,c,e⟩ hp id au it s d L hk w h);have HX:=Hd (show(⟨⟨a,b,c,e⟩,id,au,it,1,false,wn⟩:NW).gI L=({(⟨⟨a,b,c,e⟩,id,au,it,1,false,wn⟩:NW)with at_:=2,over:= !((⟨⟨a,b,c,e⟩,id,au,it,1,false,wn⟩:NW).ended L)},L)from rfl);have HS:=Hd (show(⟨⟨a,b,c,e⟩,id,au,it,1,false,wn⟩:NW).ended L=(L.getD ((⟨a,b,c,e⟩:Pl).wN id it 3) 0==aA au it 0)from rfl);rw[<-HS.o]at cW;clear HS;generalize(⟨⟨a,b,c,e⟩,id,au,it,1,false,wn⟩:NW).gI L=Z at*;generalize(⟨⟨a,b,c,e⟩,id,au,it,1,false,wn⟩:NW).ended L=ok at*;clear hp hk;dsimp only at cW;obtain⟨nk,hnk⟩:∃nk,(!ok)=nk:=⟨_,rfl⟩;rw[hnk]at HX;have HN:=Hd hnk;clear hnk;have l0:=h.lt;have gd:¬One d q:=λz=>hqd z;have gz:=h.fz;have x0:=h.c0;have x1:=h.c1;have x2:=h.c2;have x3:=h.c3;have x4:=h.c4;have x5:=h.c5;have x6:=h.c6;have x7:=h.c7;have x8:=h.c8;have x9:=h.c9;go_enter func244,ntmps244;go_upto_region 8 with fail
 go_region_held3 (λw'=>w'.cell? ⟨q,0,none⟩=some ↑a/\w'.cell? ⟨q,1,none⟩=some ↑b/\w'.cell? ⟨q,2,none⟩=some ↑c/\w'.cell? ⟨q,3,none⟩=some ↑e/\w'.cell? ⟨q,4,none⟩=some ↑id/\w'.cell? ⟨q,5,none⟩=some ↑au/\w'.cell? ⟨q,6,none⟩=some ↑it)
  (exact U159)
  (first|(go_at_call 242;refine(cW.o _ U22).q λw1 Sr=> ?_;have l1:=nL l0 Sr.size;have b1:=(by first|exact h.below Sr l0|exact h.drew.below Sr l0|exact h.drew.drew.below Sr l0:af w1 q #[a,b,c,e,id,au,it,(1:Int),.bool false,.bool wn] 307);have z1:=b1.fz;have y7:=b1.cell 7;have y8:=b1.cell 8)|(go_at_call 277;refine(kY _ _ 1 2 _ ok nk (wr _ U2) HN.o U6 U6 U6).r ?_))
 all_goals
  have B1:Below w.heap.size w w1:=by first|exact Sr|exact(Below.refl _ _).drew.trans Sr|exact(Below.refl _ _).drew.drew.trans Sr
  go_wp2_with fail
  go_ret
  rw[HX.o]
  exact⟨rfl,((h.below B1 l0).set 7 (.int .i64 2)).set 8 (.bool nk),((hS.ai B1).far (λz=>hqs z.symm) (λz=>hqd z.symm) _).far (λz=>hqs z.symm) (λz=>hqd z.symm) _,((Kept.ob B1).trans (Kept.bT _ _ _ _ _)).trans (Kept.bT _ _ _ _ _)⟩
theorem OG(a b c e id au:Int)(it:Nat)(wn:Bool)(hp:(⟨a,b,c,e⟩:Pl).ok)(w:World)(q s d:Nat)(L:List Int)
  (hk:(⟨a,b,c,e⟩:Pl).nN id<L.length) (hS:aD w s d L) (h:af w q #[a,b,c,e,id,au,it,(2:Int),.bool false,.bool wn] 307) (hqs:q≠s) (hqd:q≠d):
  Calls prog 244 #[.pointer (some ⟨q,0,none⟩),.pointer (some ⟨s,0,none⟩)] w λev w'=>
   ev=.returned (.bool (((⟨⟨a,b,c,e⟩,id,au,it,2,false,wn⟩:NW).gI L).1.over))/\af w' q ((⟨⟨a,b,c,e⟩,id,au,it,2,false,wn⟩:NW).gI L).1.arr 307 /\aD w' s d ((⟨⟨a,b,c,e⟩,id,au,it,2,false,wn⟩:NW).gI L).2/\Kept (Two d q) w w':=by
 have cW:=Hd (λw h hb=>uh a b c e id au it 2 false wn hp w q s d #[a,b,c,e,id,au,it,(2:Int),.bool false,.bool wn] 307 L hk h hb hqs hqd rfl rfl rfl rfl rfl rfl rfl rfl rfl rfl);have HX:=Hd (show(⟨⟨a,b,c,e⟩,id,au,it,2,false,wn⟩:NW).gI L=({(⟨⟨a,b,c,e⟩,id,au,it,2,false,wn⟩:NW)with iG:=(⟨⟨a,b,c,e⟩,id,au,it,2,false,wn⟩:NW).asleep L,over:=true},swp L ((⟨a,b,c,e⟩:Pl).nN id) (aA au it 0) 0)from rfl);have HS:=Hd (show(⟨⟨a,b,c,e⟩,id,au,it,2,false,wn⟩:NW).asleep L=(L.getD ((⟨a,b,c,e⟩:Pl).nN id) 0==aA au it 0)from rfl);rw[<-HS.o]at cW;clear HS;generalize(⟨⟨a,b,c,e⟩,id,au,it,2,false,wn⟩:NW).gI L=Z at*;generalize(⟨⟨a,b,c,e⟩,id,au,it,2,false,wn⟩:NW).asleep L=ok at*;generalize swp L ((⟨a,b,c,e⟩:Pl).nN id) (aA au it 0) 0=L' at*;clear hp hk;have l0:=h.lt;have gd:¬One d q:=λz=>hqd z;have gz:=h.fz;have x0:=h.c0;have x1:=h.c1;have x2:=h.c2;have x3:=h.c3;have x4:=h.c4;have x5:=h.c5;have x6:=h.c6;have x7:=h.c7;have x8:=h.c8;have x9:=h.c9;go_enter func244,ntmps244
 go_wp2_with (go_at_call 279;refine(cW.o _ hS h).mono ?_;rintro ev w3 ⟨rfl,b3,s3,k3⟩;have y8:=b3.cell 8)
 go_ret
 rw[HX.o]
 exact⟨rfl,b3,s3,k3⟩
def NW.wake(r:NW)(lk:Bool)(L:List Int):NW×List Int:=
 if r.over=true then(r,L)
 else if r.at_=0 then({r with at_:=1,over:= !lk},L.set (r.p.wN r.id r.it 3) (aA r.au r.it 0))
 else if r.at_=1 then({r with at_:=2,over:= !(r.asleep L)},L)
 else({r with iG:=r.asleep L,over:=true},swp L (r.p.nN r.id) (aA r.au r.it 0) 0)
theorem Pz(a b c e id au:Int)(it:Nat)(wn lk:Bool)(hp:(⟨a,b,c,e⟩:Pl).ok)(w:World)(q s d:Nat)(L:List Int)
  (hk:(⟨a,b,c,e⟩:Pl).wN id it 3<L.length) (hS:aD w s d L) (h:af w q #[a,b,c,e,id,au,it,(0:Int),.bool false,.bool wn,.bool lk] 288) (hqs:q≠s) (hqd:q≠d):
  Calls prog 237 #[.pointer (some ⟨q,0,none⟩),.pointer (some ⟨s,0,none⟩)] w λev w'=>
   ev=.returned (.bool (((⟨⟨a,b,c,e⟩,id,au,it,0,false,wn⟩:NW).wake lk L).1.over))/\af w' q (((⟨⟨a,b,c,e⟩,id,au,it,0,false,wn⟩:NW).wake lk L).1.rG lk) 288 /\aD w' s d ((⟨⟨a,b,c,e⟩,id,au,it,0,false,wn⟩:NW).wake lk L).2/\Kept (Two d q) w w':=by
 have cW:=Hd (λw h=>NH ⟨a,b,c,e⟩ hp id au it s d L hk w h);obtain⟨nk,hnk⟩:∃nk,(!lk)=nk:=⟨_,rfl⟩;have HX:=Hd (show(⟨⟨a,b,c,e⟩,id,au,it,0,false,wn⟩:NW).wake lk L=({(⟨⟨a,b,c,e⟩,id,au,it,0,false,wn⟩:NW)with at_:=1,over:= !lk},L.set ((⟨a,b,c,e⟩:Pl).wN id it 3) (aA au it 0))from rfl);rw[hnk]at HX;have HN:=Hd hnk;clear hnk;generalize(⟨⟨a,b,c,e⟩,id,au,it,0,false,wn⟩:NW).wake lk L=Z at*;generalize L.set ((⟨a,b,c,e⟩:Pl).wN id it 3) (aA au it 0)=L' at*;clear hp hk;dsimp only at cW;have l0:=h.lt;have gd:¬One d q:=λz=>hqd z;have gz:=h.fz;have x0:=h.c0;have x1:=h.c1;have x2:=h.c2;have x3:=h.c3;have x4:=h.c4;have x5:=h.c5;have x6:=h.c6;have x7:=h.c7;have x8:=h.c8;have x9:=h.c9;have x10:=h.c10;go_enter func237,ntmps237;go_upto_region 5 with fail
 go_region_held3 (λw'=>w'.cell? ⟨q,0,none⟩=some ↑a/\w'.cell? ⟨q,1,none⟩=some ↑b/\w'.cell? ⟨q,2,none⟩=some ↑c/\w'.cell? ⟨q,3,none⟩=some ↑e/\w'.cell? ⟨q,4,none⟩=some ↑id/\w'.cell? ⟨q,5,none⟩=some ↑au/\w'.cell? ⟨q,6,none⟩=some ↑it)
  (exact U159)
  (first|(go_at_call 276;refine(cW.o _ U22).mono ?_;rintro ev w1 ⟨rfl,h1,k1⟩;have l1:=nL l0 k1.size;have b1:=(by first|exact k1.blk h gd|exact k1.blk h.drew gd|exact k1.blk h.drew.drew gd:af w1 q #[a,b,c,e,id,au,it,(0:Int),.bool false,.bool wn,.bool lk] 288)))
 all_goals
  have K1:Kept (One d) w w1:=by first|exact k1|exact(Kept.refl _ w).drew.trans k1|exact(Kept.refl _ w).drew.drew.trans k1
  have z1:=b1.fz;have y7:=b1.c7;have y8:=b1.c8;have y10:=b1.c10;go_upto_region 6 with fail
  go_region_held3 (λw'=>w'.cell? ⟨q,10,none⟩=some (.bool lk))
   (exact U159)
   (first|(go_at_call 277;refine(kY _ _ 0 1 _ lk nk (wr _ U2) HN.o U6 U6 U6).r ?_))
  go_wp2_with fail
  go_ret
  rw[HX.o];have Q1:=((K1.blk h gd).set 7 (.int .i64 1)).set 8 (.bool nk);have Q2:=(h1.far (a:=⟨q,7,none⟩) (λz=>hqs z.symm) (λz=>hqd z.symm) (.int .i64 1)).far (a:=⟨q,8,none⟩) (λz=>hqs z.symm) (λz=>hqd z.symm) (.bool nk);have Q3:=(K1.two (b:=q).trans (Kept.bT w1 d q 7 (.int .i64 1))).trans (Kept.bT _ d q 8 (.bool nk))
  exact⟨rfl,by first|exact Q1|exact Q1.drew,by first|exact Q2|exact Q2.drew,by first|exact Q3|exact Q3.drew⟩
theorem PD(a b c e id au:Int)(it:Nat)(wn lk:Bool)(hp:(⟨a,b,c,e⟩:Pl).ok)(w:World)(q s d:Nat)(L:List Int)
  (hk:(⟨a,b,c,e⟩:Pl).nN id<L.length) (hS:aD w s d L) (h:af w q #[a,b,c,e,id,au,it,(1:Int),.bool false,.bool wn,.bool lk] 288) (hqs:q≠s) (hqd:q≠d):
  Calls prog 237 #[.pointer (some ⟨q,0,none⟩),.pointer (some ⟨s,0,none⟩)] w λev w'=>
   ev=.returned (.bool (((⟨⟨a,b,c,e⟩,id,au,it,1,false,wn⟩:NW).wake lk L).1.over))/\af w' q (((⟨⟨a,b,c,e⟩,id,au,it,1,false,wn⟩:NW).wake lk L).1.rG lk) 288 /\aD w' s d ((⟨⟨a,b,c,e⟩,id,au,it,1,false,wn⟩:NW).wake lk L).2/\Kept (Two d q) w w':=by
 have cW:=Hd (λw h=>CU ⟨a,b,c,e⟩ hp id au it s d L hk w h);have HX:=Hd (show(⟨⟨a,b,c,e⟩,id,au,it,1,false,wn⟩:NW).wake lk L=({(⟨⟨a,b,c,e⟩,id,au,it,1,false,wn⟩:NW)with at_:=2,over:= !((⟨⟨a,b,c,e⟩,id,au,it,1,false,wn⟩:NW).asleep L)},L)from rfl);have HS:=Hd (show(⟨⟨a,b,c,e⟩,id,au,it,1,false,wn⟩:NW).asleep L=(L.getD ((⟨a,b,c,e⟩:Pl).nN id) 0==aA au it 0)from rfl);rw[<-HS.o]at cW;clear HS;generalize(⟨⟨a,b,c,e⟩,id,au,it,1,false,wn⟩:NW).wake lk L=Z at*;generalize(⟨⟨a,b,c,e⟩,id,au,it,1,false,wn⟩:NW).asleep L=ok at*;clear hp hk;dsimp only at cW;obtain⟨nk,hnk⟩:∃nk,(!ok)=nk:=⟨_,rfl⟩;rw[hnk]at HX;have HN:=Hd hnk;clear hnk;have l0:=h.lt;have gd:¬One d q:=λz=>hqd z;have gz:=h.fz;have x0:=h.c0;have x1:=h.c1;have x2:=h.c2;have x3:=h.c3;have x4:=h.c4;have x5:=h.c5;have x6:=h.c6;have x7:=h.c7;have x8:=h.c8;have x9:=h.c9;have x10:=h.c10;go_enter func237,ntmps237;go_upto_region 9 with fail
 go_region_held3 (λw'=>w'.cell? ⟨q,0,none⟩=some ↑a/\w'.cell? ⟨q,1,none⟩=some ↑b/\w'.cell? ⟨q,2,none⟩=some ↑c/\w'.cell? ⟨q,3,none⟩=some ↑e/\w'.cell? ⟨q,4,none⟩=some ↑id/\w'.cell? ⟨q,5,none⟩=some ↑au/\w'.cell? ⟨q,6,none⟩=some ↑it)
  (exact U159)
  (first|(go_at_call 278;refine(cW.o _ U22).q λw1 Sr=> ?_;have l1:=nL l0 Sr.size;have b1:=(by first|exact h.below Sr l0|exact h.drew.below Sr l0|exact h.drew.drew.below Sr l0:af w1 q #[a,b,c,e,id,au,it,(1:Int),.bool false,.bool wn,.bool lk] 288);have z1:=b1.fz;have y7:=b1.cell 7;have y8:=b1.cell 8)|(go_at_call 277;refine(kY _ _ 1 2 _ ok nk (wr _ U2) HN.o U6 U6 U6).r ?_))
 all_goals
  have B1:Below w.heap.size w w1:=by first|exact Sr|exact(Below.refl _ _).drew.trans Sr|exact(Below.refl _ _).drew.drew.trans Sr
  go_wp2_with fail
  go_ret
  rw[HX.o]
  exact⟨rfl,((h.below B1 l0).set 7 (.int .i64 2)).set 8 (.bool nk),((hS.ai B1).far (λz=>hqs z.symm) (λz=>hqd z.symm) _).far (λz=>hqs z.symm) (λz=>hqd z.symm) _,((Kept.ob B1).trans (Kept.bT _ _ _ _ _)).trans (Kept.bT _ _ _ _ _)⟩
theorem PE(a b c e id au:Int)(it:Nat)(wn lk:Bool)(hp:(⟨a,b,c,e⟩:Pl).ok)(w:World)(q s d:Nat)(L:List Int)
  (hk:(⟨a,b,c,e⟩:Pl).nN id<L.length) (hS:aD w s d L) (h:af w q #[a,b,c,e,id,au,it,(2:Int),.bool false,.bool wn,.bool lk] 288) (hqs:q≠s) (hqd:q≠d):
  Calls prog 237 #[.pointer (some ⟨q,0,none⟩),.pointer (some ⟨s,0,none⟩)] w λev w'=>
   ev=.returned (.bool (((⟨⟨a,b,c,e⟩,id,au,it,2,false,wn⟩:NW).wake lk L).1.over))/\af w' q (((⟨⟨a,b,c,e⟩,id,au,it,2,false,wn⟩:NW).wake lk L).1.rG lk) 288 /\aD w' s d ((⟨⟨a,b,c,e⟩,id,au,it,2,false,wn⟩:NW).wake lk L).2/\Kept (Two d q) w w':=by
 have cW:=Hd (λw h hb=>uh a b c e id au it 2 false wn hp w q s d #[a,b,c,e,id,au,it,(2:Int),.bool false,.bool wn,.bool lk] 288 L hk h hb hqs hqd rfl rfl rfl rfl rfl rfl rfl rfl rfl rfl);have HX:=Hd (show(⟨⟨a,b,c,e⟩,id,au,it,2,false,wn⟩:NW).wake lk L=({(⟨⟨a,b,c,e⟩,id,au,it,2,false,wn⟩:NW)with iG:=(⟨⟨a,b,c,e⟩,id,au,it,2,false,wn⟩:NW).asleep L,over:=true},swp L ((⟨a,b,c,e⟩:Pl).nN id) (aA au it 0) 0)from rfl);have HS:=Hd (show(⟨⟨a,b,c,e⟩,id,au,it,2,false,wn⟩:NW).asleep L=(L.getD ((⟨a,b,c,e⟩:Pl).nN id) 0==aA au it 0)from rfl);rw[<-HS.o]at cW;clear HS;generalize(⟨⟨a,b,c,e⟩,id,au,it,2,false,wn⟩:NW).wake lk L=Z at*;generalize(⟨⟨a,b,c,e⟩,id,au,it,2,false,wn⟩:NW).asleep L=ok at*;generalize swp L ((⟨a,b,c,e⟩:Pl).nN id) (aA au it 0) 0=L' at*;clear hp hk;have l0:=h.lt;have gd:¬One d q:=λz=>hqd z;have gz:=h.fz;have x0:=h.c0;have x1:=h.c1;have x2:=h.c2;have x3:=h.c3;have x4:=h.c4;have x5:=h.c5;have x6:=h.c6;have x7:=h.c7;have x8:=h.c8;have x9:=h.c9;have x10:=h.c10;go_enter func237,ntmps237
 go_wp2_with (go_at_call 279;refine(cW.o _ hS h).mono ?_;rintro ev w3 ⟨rfl,b3,s3,k3⟩;have y8:=b3.cell 8)
 go_ret
 rw[HX.o]
 exact⟨rfl,b3,s3,k3⟩
end Go.Proofs.YteiignfflbmafaaGreat.Tp
