/- TopOne, part 5. -/
import Derived.Test.YteiignfflbmafaaGreatQ4
import Derived.Laws.EntriesVeiled
set_option linter.unusedVariables false
set_option linter.unusedSimpArgs false
set_option maxRecDepth 100000
set_option maxHeartbeats 8000000
namespace Go.Proofs.YteiignfflbmafaaGreat.Tp
open Go.Proofs.Tryz
open Go.RowKit Go.Proofs.YteiignfflbmafaaGreat.Tok
inductive Th where
 |again
 |first
inductive Nx where
 |room
 |lay
 |grow
 |less
 |looks
 |takes
 |aX
 |ask (t:Th)
 |mine (t:Th)
 |aW
 |aI
 |puts
 |leave (k:Bool)
 |first
 |claims
 |finds
 |aS
 |carries
 |fin
def Th.nx:Th->Nx
 | .again=> .aW
 | .first=> .first
def Nx.ends:Nx->Bool
 | .fin=>true
 |_=>false
structure DW where
 p:Pl
 Sk:Int
 t:Int
 x:Int
 h:Int
 ta:Nat
 tn:Int
 nx:Nx
 Sl:Bool
 Sn:Bool
def DW.arr(r:DW)(v:Value):Array Value:= #[r.p.wk,r.p.fr,r.p.th,r.p.dq,r.Sk,r.t,r.x,r.h,r.ta,r.tn,v,.bool r.Sl,.bool r.Sn]
def Pl.bN(p:Pl)(Sk n:Int):Nat:=(p.base Sk+n).toNat
def Pl.sN(p:Pl)(Sk n:Int):Nat:=(p.slot Sk n).toNat
def DW.step(r:DW)(L:List Int):DW×List Int:=
 match r.nx with
 | .room=>if decide (wrap64 (r.p.dq-1)<=wrap64 (r.t-L.getD (r.p.bN r.Sk 0) 0))=true then({r with Sn:=true,nx:=.fin},L)else({r with nx:=.lay},L)
 | .lay=>({r with nx:=.grow},L.set (r.p.sN r.Sk r.t) r.x)
 | .grow=>({r with t:=wrap64 (r.t+1),nx:=.fin},L.set (r.p.bN r.Sk 1) (wrap64 (r.t+1)))
 | .less=>({r with nx:=.looks},L.set (r.p.bN r.Sk 1) (wrap64 (r.t-1)))
 | .looks=>if decide (L.getD (r.p.bN r.Sk 0) 0<=wrap64 (r.t-1))=true then({r with nx:=.takes},L)else({r with nx:=.aX},L)
 | .takes=>({r with t:=wrap64 (r.t-1),x:=L.getD (r.p.sN r.Sk (wrap64 (r.t-1))) 0,Sl:=true,nx:=.fin},L)
 | .aX=>({r with nx:=.ask .again},L.set (r.p.bN r.Sk 1) r.t)
 | .ask t=>({r with ta:=r.p.bN r.Sk 2,tn:=L.getD (r.p.bN r.Sk 2) 0,nx:=.mine t},L.set (r.p.bN r.Sk 2) (wrap64 (L.getD (r.p.bN r.Sk 2) 0+1)))
 | .mine t=>if(L.getD (r.ta+1) 0==r.tn)=true then({r with nx:=t.nx},L)else(r,L)
 | .aW=>({r with nx:=.aI},L.set (r.p.bN r.Sk 1) (wrap64 (r.t-1)))
 | .aI=>if decide (L.getD (r.p.bN r.Sk 0) 0<=wrap64 (r.t-1))=true then({r with nx:=.leave true},L)else({r with nx:=.puts},L)
 | .puts=>({r with nx:=.leave false},L.set (r.p.bN r.Sk 1) r.t)
 | .leave k=>({r with nx:=if k=true then .takes else .fin},L.set (r.ta+1) (wrap64 (r.tn+1)))
 | .first=>({r with h:=L.getD (r.p.bN r.Sk 0) 0,nx:=.claims},L)
 | .claims=>({r with nx:=.finds},L.set (r.p.bN r.Sk 0) (wrap64 (r.h+1)))
 | .finds=>if decide (wrap64 (r.h+1)<=L.getD (r.p.bN r.Sk 1) 0)=true then({r with nx:=.carries},L)else({r with nx:=.aS},L)
 | .aS=>({r with nx:=.leave false},L.set (r.p.bN r.Sk 0) r.h)
 | .carries=>({r with x:=L.getD (r.p.sN r.Sk r.h) 0,Sl:=true,nx:=.leave false},L)
 | .fin=>(r,L)
theorem mD(p:Pl)(h:p.ok)(k n:Int)(hn:0<=n/\n<=3):wrap64 (p.base k+n)=(p.bN k n:Int):=by
 have q1:=iw p h k;unfold Pl.bN;rw[Int.toNat_of_nonneg U2]
 exact wr _ U2
theorem nD(p:Pl)(h:p.ok)(k n:Int)(hn:0<=n/\n<=3):IntKind.i64.wrap (p.base k+n)=(p.bN k n:Int):=by
 have q1:=iw p h k;unfold Pl.bN;rw[Int.toNat_of_nonneg U2]
 exact rU _ U2
theorem dQ(n:Int):IntKind.i64.wrap n=wrap64 n:=by rw[IntKind.wrap_i64];unfold wrap64;omega
theorem GX(p:Pl)(h:p.ok)(k n:Int):p.slot k n=(p.sN k n:Int):=by
 have q1:=iw p h k;have q2:=Int.emod_nonneg (max n 0) (show p.dq≠0 by unfold Pl.ok at h;omega);unfold Pl.sN;rw[Int.toNat_of_nonneg];unfold Pl.slot
 omega
theorem qQ(p:Pl)(hp:p.ok)(k n:Int)(hn:0<=n)(w:World):
  Cs 300 #[.agg #[p.wk,p.fr,p.th,p.dq],k,n] w (.int .i64 (p.sN k n)) λw'=>Below w.heap.size w w':=by
 obtain⟨m,rfl⟩:=Int.eq_ofNat_of_zero_le hn;rw[<-GX p hp]
 exact K8 p hp k m w
theorem sD(p:Pl)(h:p.ok)(k:Int):p.base k+p.wide<=p.size:=by
 have q1:=lJ k 0 (p.wk-1) U25;have q2:=jB p h;have q3:=gB p h;have q4:jc k 0 (p.wk-1)*p.wide<=(p.wk-1)*p.wide:=Int.mul_le_mul_of_nonneg_right q1.2 q2.1;have q5:(p.wk-1)*p.wide=p.wk*p.wide-p.wide:=by rw[Int.sub_mul];omega
 have q6:0<=p.fr*p.room:=Int.mul_nonneg U25 q3.1;unfold Pl.base Pl.size
 omega
theorem vo(p:Pl)(h:p.ok)(k n:Int)(hn:0<=n/\n<=3)(L:List Int)(hL:(L.length:Int)=p.size):p.bN k n<L.length:=by
 have q1:=iw p h k;have q2:=sD p h k;have q3:6<=p.wide:=by unfold Pl.ok at h;unfold Pl.wide;omega
 unfold Pl.bN
 omega
theorem GA(p:Pl)(h:p.ok)(k n:Int)(L:List Int)(hL:(L.length:Int)=p.size):p.sN k n<L.length:=by
 have q1:=iw p h k;have q2:=sD p h k;have q3:p.wide=4+p.dq:=rfl;have q4:=Int.emod_nonneg (max n 0) (show p.dq≠0 by unfold Pl.ok at h;omega);have q5:=Int.emod_lt_of_pos (max n 0) (show 0<p.dq by unfold Pl.ok at h;omega);unfold Pl.sN Pl.slot
 omega
theorem mR(p:Pl)(h:p.ok):0<=p.size/\p.size<=1000000:=by
 have q1:=jo (x:=p.wk) (y:=p.wide) (X:=64) (Y:=260) U25 (jB p h);have q2:=jo (x:=p.fr) (y:=p.room) (X:=256) (Y:=262) U25 (gB p h);unfold Pl.size
 omega
def Shut(w w':World):Prop:=∀b cs t,af w b cs t->(t= 120 ∨t= 224)->af w' b cs t
theorem Shut.refl(w:World):Shut w w:=λ_ _ _ h _=>h
theorem Shut.trans{a b c:World}(h:Shut a b)(k:Shut b c):Shut a c:=λx cs t hx ht=>k x cs t (h x cs t hx ht) ht
theorem Shut.alloc{a w:World}(h:Shut a w)(o:Obj):Shut a (w.alloc o):=λx cs t hx ht=>(h x cs t hx ht).alloc o
theorem Shut.drew{a w:World}(h:Shut a w):Shut a w.drew:=λx cs t hx ht=>h x cs t hx ht
theorem Shut.ai{w w':World}(h:Below w.heap.size w w'):Shut w w':=λx cs t hx _=>hx.below h hx.lt
theorem af.type{w:World}{b:Nat}{cs cs':Array Value}{t t':TypeId}(h:af w b cs t)(h':af w b cs' t'):t=t':=by
 unfold af at h h';rw[h]at h'
 simp at h'
 exact h'.2
theorem af.ne{w:World}{b b':Nat}{cs cs':Array Value}{t t':TypeId}(h:af w b cs t)(h':af w b' cs' t')(ht:t≠t'):b≠b':=λz=>ht (by subst z;exact h.type h')
theorem Shut.kept{S:Nat->Prop}{w w':World}(h:Kept S w w')(hs:∀b,S b->∃cs t,af w b cs t/\t≠ 120 /\t≠ 224):Shut w w':=λx cs t hx ht=>h.blk hx (λq=>by
 obtain⟨cs',t',k,h1,h2⟩:=hs x q;have e:=hx.type k;subst e
 rcases ht with r|r
 ·exact h1 r
 ·exact h2 r)
abbrev mv(f q:Nat):Value:=.func (.func f) #[.pointer (some ⟨q,0,none⟩)] #[]
def Th.val(q:Nat):Th->Value
 | .again=>mv 307 q
 | .first=>mv 132 q
def keeps(q:Nat)(k:Bool):Value:=if k=true then mv 303 q else .nilFunc
def Nx.V(w:World)(q:Nat):Nx->Value->Prop
 | .room,v=>v=mv 268 q
 | .lay,v=>v=mv 293 q
 | .grow,v=>v=mv 305 q
 | .less,v=>v=mv 264 q
 | .looks,v=>v=mv 291 q
 | .takes,v=>v=mv 303 q
 | .aX,v=>v=mv 304 q
 | .aW,v=>v=mv 307 q
 | .aI,v=>v=mv 308 q
 | .first,v=>v=mv 132 q
 | .claims,v=>v=mv 209 q
 | .finds,v=>v=mv 260 q
 | .carries,v=>v=mv 288 q
 | .fin,v=>v=.nilFunc
 | .ask t,v=>∃bw bt,v=.func (.func 204) #[] #[.pointer (some ⟨bw,0,none⟩),.pointer (some ⟨bt,0,none⟩)]/\af w bw #[.pointer (some ⟨q,0,none⟩)] 120 /\af w bt #[t.val q] 224
 | .mine t,v=>∃bw bt,v=.func (.func 206) #[] #[.pointer (some ⟨bw,0,none⟩),.pointer (some ⟨bt,0,none⟩)]/\af w bw #[.pointer (some ⟨q,0,none⟩)] 120 /\af w bt #[t.val q] 224
 | .leave k,v=>∃bw bt,v=.func (.func 301) #[] #[.pointer (some ⟨bw,0,none⟩),.pointer (some ⟨bt,0,none⟩)]/\af w bw #[.pointer (some ⟨q,0,none⟩)] 120 /\af w bt #[keeps q k] 224
 | .puts,v=>∃bw,v=.func (.func 309) #[] #[.pointer (some ⟨bw,0,none⟩)]/\af w bw #[.pointer (some ⟨q,0,none⟩)] 120
 | .aS,v=>∃bw,v=.func (.func 289) #[] #[.pointer (some ⟨bw,0,none⟩)]/\af w bw #[.pointer (some ⟨q,0,none⟩)] 120
theorem Nx.V.shut{w w':World}{q:Nat}{n:Nx}{v:Value}(h:n.V w q v)(k:Shut w w'):n.V w' q v:=by
 cases n<;>first|exact h|(obtain⟨bw,bt,e,h1,h2⟩:=h;exact⟨bw,bt,e,k _ _ _ h1 (Or.inl rfl),k _ _ _ h2 (Or.inr rfl)⟩)|(obtain⟨bw,e,h1⟩:=h;exact⟨bw,e,k _ _ _ h1 (Or.inl rfl)⟩)
theorem Nx.V.nil{w:World}{q:Nat}{n:Nx}{v:Value}(h:n.V w q v)(W:World):Sem.run prog (binOp BinOp.eql 224 v Value.nilFunc) W=.ok (.bool n.ends) W:=by
 cases n
 case ask t=>obtain⟨bw,bt,rfl,h1,h2⟩:=h;kernel_rfl
 case mine t=>obtain⟨bw,bt,rfl,h1,h2⟩:=h;kernel_rfl
 case leave t=>obtain⟨bw,bt,rfl,h1,h2⟩:=h;kernel_rfl
 case puts=>obtain⟨bw,rfl,h1⟩:=h;kernel_rfl
 case aS=>obtain⟨bw,rfl,h1⟩:=h;kernel_rfl
 all_goals
  obtain rfl:=h
  kernel_rfl
def dw(w:World)(q:Nat)(r:DW):Prop:=∃v,af w q (r.arr v) 229 /\r.nx.V w q v
theorem jU(a b c e Sk t x h:Int)(ta:Nat)(tn:Int)(v:Value)(Sl Sn:Bool)(n:Int)(hn:0<=n/\n<=3)(hp:(⟨a,b,c,e⟩:Pl).ok)(w:World)(q s d:Nat)(L:List Int)(hL:(L.length:Int)=(⟨a,b,c,e⟩:Pl).size)(hS:aD w s d L)(hq:af w q #[a,b,c,e,Sk,t,x,h,ta,tn,v,.bool Sl,.bool Sn] 229)(hqs:q≠s)(hqd:q≠d):
  Cs 208 #[.pointer (some ⟨q,0,none⟩),.pointer (some ⟨s,0,none⟩),n] w (.int .i64 (L.getD ((⟨a,b,c,e⟩:Pl).bN Sk n) 0)) λw'=>Below w.heap.size w w':=by
 have cB:=Hd (λw=>kK (⟨a,b,c,e⟩:Pl) hp Sk w);have cL:=Hd (λw h=>fI w s d L ((⟨a,b,c,e⟩:Pl).bN Sk n) (vo _ hp Sk n hn L hL) h);have e1:=mD (⟨a,b,c,e⟩:Pl) hp Sk n hn;have e2:=nD (⟨a,b,c,e⟩:Pl) hp Sk n hn;generalize(⟨a,b,c,e⟩:Pl).bN Sk n=k at*;generalize L.getD k 0=u at*;generalize(⟨a,b,c,e⟩:Pl).base Sk=bs at*;clear hp hL hn;have l0:=hq.lt;have x0:=hq.c0;have x1:=hq.c1;have x2:=hq.c2;have x3:=hq.c3;have x4:=hq.c4;clear hq;go_enter func208,ntmps208;go_upto_region 1 with fail
 go_region_held3 (λw'=>w'.cell? ⟨q,0,none⟩=some ↑a/\w'.cell? ⟨q,1,none⟩=some ↑b/\w'.cell? ⟨q,2,none⟩=some ↑c/\w'.cell? ⟨q,3,none⟩=some ↑e/\w'.cell? ⟨q,4,none⟩=some ↑Sk)
  (exact U159)
  (first|(go_at_call 161;refine(cB.o _).q λw1 Sr=> ?_;have l1:=nL l0 Sr.size)|(go_at_call 160;(first|rw[e1]|rw[e2]|skip);refine(cL.o _ U33).r ?_))
 all_goals
  have B1:Below w.heap.size w w1:=by first|exact Sr|exact(Below.refl _ _).drew.trans Sr|exact(Below.refl _ _).drew.drew.trans Sr
  go_wp2_with fail
  go_ret
  exact⟨rfl,by first|exact B1|exact B1.drew⟩
theorem jg(a b c e Sk t x h:Int)(ta:Nat)(tn:Int)(v:Value)(Sl Sn:Bool)(n m:Int)(hn:0<=n/\n<=3)(hp:(⟨a,b,c,e⟩:Pl).ok)(w:World)(q s d:Nat)(L:List Int)(hL:(L.length:Int)=(⟨a,b,c,e⟩:Pl).size)(hS:aD w s d L)(hq:af w q #[a,b,c,e,Sk,t,x,h,ta,tn,v,.bool Sl,.bool Sn] 229)(hqs:q≠s)(hqd:q≠d):
  Cs 259 #[.pointer (some ⟨q,0,none⟩),.pointer (some ⟨s,0,none⟩),n,m] w (.tuple #[]) λw'=>aD w' s d (L.set ((⟨a,b,c,e⟩:Pl).bN Sk n) m)/\Kept (One d) w w':=by
 have cB:=Hd (λw=>kK (⟨a,b,c,e⟩:Pl) hp Sk w);have cL:=Hd (λw h=>dN w s d L ((⟨a,b,c,e⟩:Pl).bN Sk n) (vo _ hp Sk n hn L hL) m h);have e1:=mD (⟨a,b,c,e⟩:Pl) hp Sk n hn;have e2:=nD (⟨a,b,c,e⟩:Pl) hp Sk n hn;generalize(⟨a,b,c,e⟩:Pl).bN Sk n=k at*;generalize L.set k m=L' at*;generalize(⟨a,b,c,e⟩:Pl).base Sk=bs at*;clear hp hL hn;have l0:=hq.lt;have x0:=hq.c0;have x1:=hq.c1;have x2:=hq.c2;have x3:=hq.c3;have x4:=hq.c4;clear hq;go_enter func259,ntmps259;go_upto_region 0 with fail
 go_region_held3 (λw'=>w'.cell? ⟨q,0,none⟩=some ↑a/\w'.cell? ⟨q,1,none⟩=some ↑b/\w'.cell? ⟨q,2,none⟩=some ↑c/\w'.cell? ⟨q,3,none⟩=some ↑e/\w'.cell? ⟨q,4,none⟩=some ↑Sk)
  (exact U159)
  (first|(go_at_call 161;refine(cB.o _).q λw1 Sr=> ?_;have l1:=nL l0 Sr.size)|(go_at_call 84;(first|rw[e1]|rw[e2]|skip);refine(cL.o _ U33).mono ?_;rintro ev w2 ⟨rfl,h2,k2⟩))
 all_goals
  have B1:Below w.heap.size w w1:=by first|exact Sr|exact(Below.refl _ _).drew.trans Sr|exact(Below.refl _ _).drew.drew.trans Sr
  have K2:Kept (One d) w w2:=by first|exact(Kept.ob B1).trans k2|exact(Kept.ob B1).drew.trans k2
  go_wp2_with fail
  go_end0
  exact⟨rfl,by first|exact h2|exact h2.drew,by first|exact K2|exact K2.drew⟩
theorem uu(w:World)(q:Nat)(cs:Array Value)(v:Value)(h:af w q cs 229)(h10:cs[10]? =some v):
  Cs 292 #[.pointer (some ⟨q,0,none⟩)] w (.tuple #[]) λw'=>w.setCell ⟨q,10,none⟩ .nilFunc=w':=by
 have x10:w.cell? ⟨q,10,none⟩=some v:=(h.cell 10).trans h10;have gz:=h.fz;go_enter func292,ntmps292;go_wp2_with fail
 go_end0
 exact⟨rfl,rfl⟩
theorem xW(w:World)(q:Nat)(cs:Array Value)(h:af w q cs 229)(h10:cs[10]? =some .nilFunc):
  Cs 133 #[.pointer (some ⟨q,0,none⟩)] w (.bool true) λw'=>w=w':=by
 have x10:w.cell? ⟨q,10,none⟩=some .nilFunc:=(h.cell 10).trans h10;have hn:∀w,Sem.run prog (binOp BinOp.eql 224 .nilFunc Value.nilFunc) w=.ok (.bool true) w:=λ_=>by kernel_rfl
 go_enter func133,ntmps133;go_wp2_with fail
 go_ret
 exact⟨rfl,rfl⟩
theorem eB(w:World)(q:Nat)(cs:Array Value)(fn:Fn)(f c:Array Value)(h:af w q cs 229)(h10:cs[10]? =some (.func fn f c)):
  Cs 133 #[.pointer (some ⟨q,0,none⟩)] w (.bool false) λw'=>w=w':=by
 have x10:w.cell? ⟨q,10,none⟩=some (.func fn f c):=(h.cell 10).trans h10;have hn:∀w,Sem.run prog (binOp BinOp.eql 224 (.func fn f c) Value.nilFunc) w=.ok (.bool false) w:=λ_=>by kernel_rfl
 go_enter func133,ntmps133;go_wp2_with fail
 go_ret
 exact⟨rfl,rfl⟩
theorem sJ(w:World)(q:Nat)(fn:Fn)(f c:Array Value):
  Calls prog 131 #[.pointer (some ⟨q,0,none⟩),.func fn f c] w λev w'=>∃bw bt,ev=.returned (.func (.func 204) #[] #[.pointer (some ⟨bw,0,none⟩),.pointer (some ⟨bt,0,none⟩)])/\af w' bw #[.pointer (some ⟨q,0,none⟩)] 120 /\af w' bt #[.func fn f c] 224 /\Below w.heap.size w w':=by
 have hmf:=fD;go_enter func131,ntmps131;go_wp2_with fail
 go_ret
 exact⟨_,_,rfl,(af.new _ _ _ _ rfl).alloc _,af.new _ _ _ _ U8,(Ba _).alloc U8 _⟩
theorem jT(w:World)(q:Nat):
  Calls prog 290 #[.pointer (some ⟨q,0,none⟩),.nilFunc] w λev w'=>∃bw bt,ev=.returned (.func (.func 301) #[] #[.pointer (some ⟨bw,0,none⟩),.pointer (some ⟨bt,0,none⟩)])/\af w' bw #[.pointer (some ⟨q,0,none⟩)] 120 /\af w' bt #[.nilFunc] 224 /\Below w.heap.size w w':=by
 have hmf:=fD;go_enter func290,ntmps290;go_wp2_with fail
 go_ret
 exact⟨_,_,rfl,(af.new _ _ _ _ rfl).alloc _,af.new _ _ _ _ U8,(Ba _).alloc U8 _⟩
theorem mH(w:World)(q:Nat)(fn:Fn)(f c:Array Value):
  Calls prog 290 #[.pointer (some ⟨q,0,none⟩),.func fn f c] w λev w'=>∃bw bt,ev=.returned (.func (.func 301) #[] #[.pointer (some ⟨bw,0,none⟩),.pointer (some ⟨bt,0,none⟩)])/\af w' bw #[.pointer (some ⟨q,0,none⟩)] 120 /\af w' bt #[.func fn f c] 224 /\Below w.heap.size w w':=by
 have hmf:=fD;go_enter func290,ntmps290;go_wp2_with fail
 go_ret
 exact⟨_,_,rfl,(af.new _ _ _ _ rfl).alloc _,af.new _ _ _ _ U8,(Ba _).alloc U8 _⟩
theorem Qb(a b c e Sk t x h:Int)(ta:Nat)(tn:Int)(v:Value)(Sl Sn:Bool)(hp:(⟨a,b,c,e⟩:Pl).ok)(w:World)(q s d:Nat)(L:List Int)(hL:(L.length:Int)=(⟨a,b,c,e⟩:Pl).size)(hS:aD w s d L)(hq:af w q #[a,b,c,e,Sk,t,x,h,ta,tn,v,.bool Sl,.bool Sn] 229)(hqs:q≠s)(hqd:q≠d)(ht:0<=t):
  Cs 293 #[.pointer (some ⟨q,0,none⟩),.pointer (some ⟨s,0,none⟩)] w (.tuple #[]) λw'=>dw w' q ((⟨⟨a,b,c,e⟩,Sk,t,x,h,ta,tn,.lay,Sl,Sn⟩:DW).step L).1/\aD w' s d ((⟨⟨a,b,c,e⟩,Sk,t,x,h,ta,tn,.lay,Sl,Sn⟩:DW).step L).2/\Kept (Two d q) w w':=by
 have hmf:=fD;have cS:=Hd (λw=>qQ (⟨a,b,c,e⟩:Pl) hp Sk t ht w);have cT:=Hd (λw h=>dN w s d L ((⟨a,b,c,e⟩:Pl).sN Sk t) (GA _ hp Sk t L hL) x h);have HX:=Hd (show(⟨⟨a,b,c,e⟩,Sk,t,x,h,ta,tn,.lay,Sl,Sn⟩:DW).step L=((⟨⟨a,b,c,e⟩,Sk,t,x,h,ta,tn,.grow,Sl,Sn⟩:DW),L.set ((⟨a,b,c,e⟩:Pl).sN Sk t) x)from rfl);generalize(⟨⟨a,b,c,e⟩,Sk,t,x,h,ta,tn,.lay,Sl,Sn⟩:DW).step L=Z at*;generalize L.set ((⟨a,b,c,e⟩:Pl).sN Sk t) x=L' at*;generalize(⟨a,b,c,e⟩:Pl).sN Sk t=k at*;clear hp hL;have l0:=hq.lt;have gd:¬One d q:=λz=>hqd z;have gz:=hq.fz;have x0:=hq.c0;have x1:=hq.c1;have x2:=hq.c2;have x3:=hq.c3;have x4:=hq.c4;have x5:=hq.c5;have x6:=hq.c6;have x7:=hq.c7;have x8:=hq.c8;have x9:=hq.c9;have x10:=hq.c10;have x11:=hq.c11;have x12:=hq.c12;go_enter func293,ntmps293;go_upto_region 0 with fail
 go_region_held3 (λw'=>w'.cell? ⟨q,0,none⟩=some ↑a/\w'.cell? ⟨q,1,none⟩=some ↑b/\w'.cell? ⟨q,2,none⟩=some ↑c/\w'.cell? ⟨q,3,none⟩=some ↑e/\w'.cell? ⟨q,4,none⟩=some ↑Sk/\w'.cell? ⟨q,5,none⟩=some ↑t/\w'.cell? ⟨q,6,none⟩=some ↑x)
  (exact U159)
  (first|(go_at_call 300;refine(cS.o _).q λw1 Sr=> ?_;have l1:=nL l0 Sr.size)|(go_at_call 84;refine(cT.o _ U33).mono ?_;rintro ev w2 ⟨rfl,h2,k2⟩))
 all_goals
  have B1:Below w.heap.size w w1:=by first|exact Sr|exact(Below.refl _ _).drew.trans Sr|exact(Below.refl _ _).drew.drew.trans Sr
  have K2:Kept (One d) w w2:=by first|exact(Kept.ob B1).trans k2|exact(Kept.ob B1).drew.trans k2|exact(Kept.ob B1).drew.drew.trans k2
  have b2:=K2.blk hq gd;have z2:=b2.fz;have y10:=b2.c10;go_wp2_with fail
  go_end0
  rw[HX.o];have Q1:=b2.set 10 (mv 305 q);have Q2:=h2.far (a:=⟨q,10,none⟩) (λz=>hqs z.symm) (λz=>hqd z.symm) (mv 305 q);have Q3:=K2.two.trans (Kept.bT w2 d q 10 (mv 305 q))
  exact⟨rfl,⟨_,by first|exact Q1|exact Q1.drew,rfl⟩,by first|exact Q2|exact Q2.drew,by first|exact Q3|exact Q3.drew⟩
theorem Nu(a b c e Sk t x h:Int)(ta:Nat)(tn:Int)(v:Value)(Sl Sn:Bool)(hp:(⟨a,b,c,e⟩:Pl).ok)(w:World)(q s d:Nat)(L:List Int)(hL:(L.length:Int)=(⟨a,b,c,e⟩:Pl).size)(hS:aD w s d L)(hq:af w q #[a,b,c,e,Sk,t,x,h,ta,tn,v,.bool Sl,.bool Sn] 229)(hqs:q≠s)(hqd:q≠d):
  Cs 264 #[.pointer (some ⟨q,0,none⟩),.pointer (some ⟨s,0,none⟩)] w (.tuple #[]) λw'=>dw w' q ((⟨⟨a,b,c,e⟩,Sk,t,x,h,ta,tn,.less,Sl,Sn⟩:DW).step L).1/\aD w' s d ((⟨⟨a,b,c,e⟩,Sk,t,x,h,ta,tn,.less,Sl,Sn⟩:DW).step L).2/\Kept (Two d q) w w':=by
 have hmf:=fD;have e1:wrap64 (t-1)=wrap64 (t-1):=rfl;generalize hT:wrap64 (t-1)=t1 at e1;have cP:=Hd (λw hS hq=>jg a b c e Sk t x h ta tn v Sl Sn 1 t1 U0 hp w q s d L hL hS hq hqs hqd);have HX:=Hd (show(⟨⟨a,b,c,e⟩,Sk,t,x,h,ta,tn,.less,Sl,Sn⟩:DW).step L=((⟨⟨a,b,c,e⟩,Sk,t,x,h,ta,tn,.looks,Sl,Sn⟩:DW),L.set ((⟨a,b,c,e⟩:Pl).bN Sk 1) (wrap64 (t-1)))from rfl);generalize(⟨⟨a,b,c,e⟩,Sk,t,x,h,ta,tn,.less,Sl,Sn⟩:DW).step L=Z at*;rw[hT]at HX;generalize L.set ((⟨a,b,c,e⟩:Pl).bN Sk 1) t1=L' at*;clear hp hL;have l0:=hq.lt;have gd:¬One d q:=λz=>hqd z;have gz:=hq.fz;have x0:=hq.c0;have x1:=hq.c1;have x2:=hq.c2;have x3:=hq.c3;have x4:=hq.c4;have x5:=hq.c5;have x6:=hq.c6;have x7:=hq.c7;have x8:=hq.c8;have x9:=hq.c9;have x10:=hq.c10;have x11:=hq.c11;have x12:=hq.c12;go_enter func264,ntmps264
 go_wp2_with (go_at_call 259;refine(cP.o _ hS hq).mono ?_;rintro ev w1 ⟨rfl,h1,k1⟩;have b1:=k1.blk hq gd;have z1:=b1.fz;have y10:w1.cell? ⟨q,10,none⟩=some v:=b1.cell 10)
 go_end0
 rw[HX.o]
 exact⟨rfl,⟨_,b1.set 10 _,rfl⟩,h1.far (λz=>hqs z.symm) (λz=>hqd z.symm) _,k1.two.trans (Kept.bT _ _ _ _ _)⟩
theorem vE(a b c e Sk t x h:Int)(ta:Nat)(tn:Int)(v:Value)(Sl Sn:Bool)(hp:(⟨a,b,c,e⟩:Pl).ok)(w:World)(q s d:Nat)(L:List Int)(hL:(L.length:Int)=(⟨a,b,c,e⟩:Pl).size)(hS:aD w s d L)(hq:af w q #[a,b,c,e,Sk,t,x,h,ta,tn,v,.bool Sl,.bool Sn] 229)(hqs:q≠s)(hqd:q≠d):
  Cs 307 #[.pointer (some ⟨q,0,none⟩),.pointer (some ⟨s,0,none⟩)] w (.tuple #[]) λw'=>dw w' q ((⟨⟨a,b,c,e⟩,Sk,t,x,h,ta,tn,.aW,Sl,Sn⟩:DW).step L).1/\aD w' s d ((⟨⟨a,b,c,e⟩,Sk,t,x,h,ta,tn,.aW,Sl,Sn⟩:DW).step L).2/\Kept (Two d q) w w':=by
 have hmf:=fD;have e1:wrap64 (t-1)=wrap64 (t-1):=rfl;generalize hT:wrap64 (t-1)=t1 at e1;have cP:=Hd (λw hS hq=>jg a b c e Sk t x h ta tn v Sl Sn 1 t1 U0 hp w q s d L hL hS hq hqs hqd);have HX:=Hd (show(⟨⟨a,b,c,e⟩,Sk,t,x,h,ta,tn,.aW,Sl,Sn⟩:DW).step L=((⟨⟨a,b,c,e⟩,Sk,t,x,h,ta,tn,.aI,Sl,Sn⟩:DW),L.set ((⟨a,b,c,e⟩:Pl).bN Sk 1) (wrap64 (t-1)))from rfl);generalize(⟨⟨a,b,c,e⟩,Sk,t,x,h,ta,tn,.aW,Sl,Sn⟩:DW).step L=Z at*;rw[hT]at HX;generalize L.set ((⟨a,b,c,e⟩:Pl).bN Sk 1) t1=L' at*;clear hp hL;have l0:=hq.lt;have gd:¬One d q:=λz=>hqd z;have gz:=hq.fz;have x0:=hq.c0;have x1:=hq.c1;have x2:=hq.c2;have x3:=hq.c3;have x4:=hq.c4;have x5:=hq.c5;have x6:=hq.c6;have x7:=hq.c7;have x8:=hq.c8;have x9:=hq.c9;have x10:=hq.c10;have x11:=hq.c11;have x12:=hq.c12;go_enter func307,ntmps307
 go_wp2_with (go_at_call 259;refine(cP.o _ hS hq).mono ?_;rintro ev w1 ⟨rfl,h1,k1⟩;have b1:=k1.blk hq gd;have z1:=b1.fz;have y10:w1.cell? ⟨q,10,none⟩=some v:=b1.cell 10)
 go_end0
 rw[HX.o]
 exact⟨rfl,⟨_,b1.set 10 _,rfl⟩,h1.far (λz=>hqs z.symm) (λz=>hqd z.symm) _,k1.two.trans (Kept.bT _ _ _ _ _)⟩
theorem Ec(a b c e Sk t x h:Int)(ta:Nat)(tn:Int)(v:Value)(Sl Sn:Bool)(hp:(⟨a,b,c,e⟩:Pl).ok)(w:World)(q s d:Nat)(L:List Int)(hL:(L.length:Int)=(⟨a,b,c,e⟩:Pl).size)(hS:aD w s d L)(hq:af w q #[a,b,c,e,Sk,t,x,h,ta,tn,v,.bool Sl,.bool Sn] 229)(hqs:q≠s)(hqd:q≠d):
  Cs 209 #[.pointer (some ⟨q,0,none⟩),.pointer (some ⟨s,0,none⟩)] w (.tuple #[]) λw'=>dw w' q ((⟨⟨a,b,c,e⟩,Sk,t,x,h,ta,tn,.claims,Sl,Sn⟩:DW).step L).1/\aD w' s d ((⟨⟨a,b,c,e⟩,Sk,t,x,h,ta,tn,.claims,Sl,Sn⟩:DW).step L).2/\Kept (Two d q) w w':=by
 have hmf:=fD;have e1:wrap64 (h+1)=wrap64 (h+1):=rfl;generalize hT:wrap64 (h+1)=t1 at e1;have cP:=Hd (λw hS hq=>jg a b c e Sk t x h ta tn v Sl Sn 0 t1 U0 hp w q s d L hL hS hq hqs hqd);have HX:=Hd (show(⟨⟨a,b,c,e⟩,Sk,t,x,h,ta,tn,.claims,Sl,Sn⟩:DW).step L=((⟨⟨a,b,c,e⟩,Sk,t,x,h,ta,tn,.finds,Sl,Sn⟩:DW),L.set ((⟨a,b,c,e⟩:Pl).bN Sk 0) (wrap64 (h+1)))from rfl);generalize(⟨⟨a,b,c,e⟩,Sk,t,x,h,ta,tn,.claims,Sl,Sn⟩:DW).step L=Z at*;rw[hT]at HX;generalize L.set ((⟨a,b,c,e⟩:Pl).bN Sk 0) t1=L' at*;clear hp hL;have l0:=hq.lt;have gd:¬One d q:=λz=>hqd z;have gz:=hq.fz;have x0:=hq.c0;have x1:=hq.c1;have x2:=hq.c2;have x3:=hq.c3;have x4:=hq.c4;have x5:=hq.c5;have x6:=hq.c6;have x7:=hq.c7;have x8:=hq.c8;have x9:=hq.c9;have x10:=hq.c10;have x11:=hq.c11;have x12:=hq.c12;go_enter func209,ntmps209
 go_wp2_with (go_at_call 259;refine(cP.o _ hS hq).mono ?_;rintro ev w1 ⟨rfl,h1,k1⟩;have b1:=k1.blk hq gd;have z1:=b1.fz;have y10:w1.cell? ⟨q,10,none⟩=some v:=b1.cell 10)
 go_end0
 rw[HX.o]
 exact⟨rfl,⟨_,b1.set 10 _,rfl⟩,h1.far (λz=>hqs z.symm) (λz=>hqd z.symm) _,k1.two.trans (Kept.bT _ _ _ _ _)⟩
theorem Nt(a b c e Sk t x h:Int)(ta:Nat)(tn:Int)(v:Value)(Sl Sn:Bool)(hp:(⟨a,b,c,e⟩:Pl).ok)(w:World)(q s d:Nat)(L:List Int)(hL:(L.length:Int)=(⟨a,b,c,e⟩:Pl).size)(hS:aD w s d L)(hq:af w q #[a,b,c,e,Sk,t,x,h,ta,tn,v,.bool Sl,.bool Sn] 229)(hqs:q≠s)(hqd:q≠d):
  Cs 305 #[.pointer (some ⟨q,0,none⟩),.pointer (some ⟨s,0,none⟩)] w (.tuple #[]) λw'=>dw w' q ((⟨⟨a,b,c,e⟩,Sk,t,x,h,ta,tn,.grow,Sl,Sn⟩:DW).step L).1/\aD w' s d ((⟨⟨a,b,c,e⟩,Sk,t,x,h,ta,tn,.grow,Sl,Sn⟩:DW).step L).2/\Kept (Two d q) w w':=by
 have hmf:=fD;have e1:wrap64 (t+1)=wrap64 (t+1):=rfl;generalize hT:wrap64 (t+1)=t1 at e1;have cP:=Hd (λw hS hq=>jg a b c e Sk t1 x h ta tn v Sl Sn 1 t1 U0 hp w q s d L hL hS hq hqs hqd);have HX:=Hd (show(⟨⟨a,b,c,e⟩,Sk,t,x,h,ta,tn,.grow,Sl,Sn⟩:DW).step L=((⟨⟨a,b,c,e⟩,Sk,wrap64 (t+1),x,h,ta,tn,.fin,Sl,Sn⟩:DW),L.set ((⟨a,b,c,e⟩:Pl).bN Sk 1) (wrap64 (t+1)))from rfl);generalize(⟨⟨a,b,c,e⟩,Sk,t,x,h,ta,tn,.grow,Sl,Sn⟩:DW).step L=Z at*;rw[hT]at HX;generalize L.set ((⟨a,b,c,e⟩:Pl).bN Sk 1) t1=L' at*;clear hp hL;have l0:=hq.lt;have gd:¬One d q:=λz=>hqd z;have gz:=hq.fz;have x0:=hq.c0;have x1:=hq.c1;have x2:=hq.c2;have x3:=hq.c3;have x4:=hq.c4;have x5:=hq.c5;have x6:=hq.c6;have x7:=hq.c7;have x8:=hq.c8;have x9:=hq.c9;have x10:=hq.c10;have x11:=hq.c11;have x12:=hq.c12;go_enter func305,ntmps305;go_upto_region 1 with fail;have b0:=hq.set 5 ↑t1;have s0:=hS.far (a:=⟨q,5,none⟩) (λz=>hqs z.symm) (λz=>hqd z.symm) ↑t1;have k0:=Kept.bT w d q 5 ↑t1;have y5:=b0.cell 5;generalize w.setCell ⟨q,5,none⟩ ↑t1=W at*
 go_upto_region 2 with(go_at_call 259;refine(cP.o _ s0 b0).mono ?_;rintro ev w1 ⟨rfl,h1,k1⟩;have b1:=k1.blk b0 gd;have z1:=b1.fz;have y10:w1.cell? ⟨q,10,none⟩=some v:=b1.cell 10)
 go_wp2_with (go_at_call 292;refine(uu _ _ _ _ b1 rfl).r ?_)
 go_end0
 rw[HX.o]
 exact⟨rfl,⟨_,b1.set 10 _,rfl⟩,h1.far (λz=>hqs z.symm) (λz=>hqd z.symm) _,(k0.trans k1.two).trans (Kept.bT _ _ _ _ _)⟩
theorem JJ(a b c e Sk t x h:Int)(ta:Nat)(tn:Int)(v:Value)(Sl Sn:Bool)(hp:(⟨a,b,c,e⟩:Pl).ok)(w:World)(q s d:Nat)(L:List Int)(hL:(L.length:Int)=(⟨a,b,c,e⟩:Pl).size)(hS:aD w s d L)(hq:af w q #[a,b,c,e,Sk,t,x,h,ta,tn,v,.bool Sl,.bool Sn] 229)(hqs:q≠s)(hqd:q≠d):
  Cs 291 #[.pointer (some ⟨q,0,none⟩),.pointer (some ⟨s,0,none⟩)] w (.tuple #[]) λw'=>dw w' q ((⟨⟨a,b,c,e⟩,Sk,t,x,h,ta,tn,.looks,Sl,Sn⟩:DW).step L).1/\aD w' s d ((⟨⟨a,b,c,e⟩,Sk,t,x,h,ta,tn,.looks,Sl,Sn⟩:DW).step L).2/\Kept (Two d q) w w':=by
 have hmf:=fD;have cL:=Hd (λw hS hq=>jU a b c e Sk t x h ta tn v Sl Sn 0 U0 hp w q s d L hL hS hq hqs hqd);have HX:=Hd (show(⟨⟨a,b,c,e⟩,Sk,t,x,h,ta,tn,.looks,Sl,Sn⟩:DW).step L=if decide (L.getD ((⟨a,b,c,e⟩:Pl).bN Sk 0) 0<=wrap64 (t-1))=true then((⟨⟨a,b,c,e⟩,Sk,t,x,h,ta,tn,.takes,Sl,Sn⟩:DW),L)else((⟨⟨a,b,c,e⟩,Sk,t,x,h,ta,tn,.aX,Sl,Sn⟩:DW),L)from rfl);generalize(⟨⟨a,b,c,e⟩,Sk,t,x,h,ta,tn,.looks,Sl,Sn⟩:DW).step L=Z at*;generalize L.getD ((⟨a,b,c,e⟩:Pl).bN Sk 0) 0=u at*;generalize hT0:wrap64 (t-1)=t0 at*;have hK0:IntKind.i64.wrap (t-1)=t0:=(dQ _).trans hT0;clear hp hL;have l0:=hq.lt;have gd:¬One d q:=λz=>hqd z;have gz:=hq.fz;have x5:=hq.c5
 by_cases hu:u<=t0
 ·rw[decide_eq_true hu]at HX
  obtain rfl:Z=((⟨⟨a,b,c,e⟩,Sk,t,x,h,ta,tn,.takes,Sl,Sn⟩:DW),L):=HX.o;clear HX;go_enter func291,ntmps291;go_upto_region 0 with fail
  go_region_held3 (λw'=>w'.cell? ⟨q,5,none⟩=some ↑t)
   (exact U159)
   (first|(go_at_call 208;refine(cL.o _ U22 U38).q λw1 Sr=> ?_;have l1:=nL l0 Sr.size))
  all_goals
   have B1:Below w.heap.size w w1:=by first|exact Sr|exact(Below.refl _ _).drew.trans Sr|exact(Below.refl _ _).drew.drew.trans Sr
   have b1:=hq.below B1 l0;have z1:=b1.fz;have y10:=b1.c10;go_wp2_with fail
   (try simp only[Exit.inBlock,Exit.then]);refine bodyPost_ret (results_none rfl _ _ _) rfl ?_
   have Q1:=b1.set 10 (mv 303 q);have Q2:=(hS.ai B1).far (a:=⟨q,10,none⟩) (λz=>hqs z.symm) (λz=>hqd z.symm) (mv 303 q);have Q3:=(Kept.ob B1).trans (Kept.bT w1 d q 10 (mv 303 q))
   exact⟨rfl,⟨_,by first|exact Q1|exact Q1.drew,rfl⟩,by first|exact Q2|exact Q2.drew,by first|exact Q3|exact Q3.drew⟩
 ·rw[decide_eq_false hu]at HX
  obtain rfl:Z=((⟨⟨a,b,c,e⟩,Sk,t,x,h,ta,tn,.aX,Sl,Sn⟩:DW),L):=HX.o;clear HX;go_enter func291,ntmps291;go_upto_region 0 with fail
  go_region_held3 (λw'=>w'.cell? ⟨q,5,none⟩=some ↑t)
   (exact U159)
   (first|(go_at_call 208;refine(cL.o _ U22 U38).q λw1 Sr=> ?_;have l1:=nL l0 Sr.size))
  all_goals
   have B1:Below w.heap.size w w1:=by first|exact Sr|exact(Below.refl _ _).drew.trans Sr|exact(Below.refl _ _).drew.drew.trans Sr
   have b1:=hq.below B1 l0;have z1:=b1.fz;have y10:=b1.c10;go_wp2_with fail
   go_end0
   have Q1:=b1.set 10 (mv 304 q);have Q2:=(hS.ai B1).far (a:=⟨q,10,none⟩) (λz=>hqs z.symm) (λz=>hqd z.symm) (mv 304 q);have Q3:=(Kept.ob B1).trans (Kept.bT w1 d q 10 (mv 304 q))
   exact⟨rfl,⟨_,by first|exact Q1|exact Q1.drew,rfl⟩,by first|exact Q2|exact Q2.drew,by first|exact Q3|exact Q3.drew⟩
theorem Ny(a b c e Sk t x h:Int)(ta:Nat)(tn:Int)(v:Value)(Sl Sn:Bool)(hp:(⟨a,b,c,e⟩:Pl).ok)(w:World)(q s d:Nat)(L:List Int)(hL:(L.length:Int)=(⟨a,b,c,e⟩:Pl).size)(hS:aD w s d L)(hq:af w q #[a,b,c,e,Sk,t,x,h,ta,tn,v,.bool Sl,.bool Sn] 229)(hqs:q≠s)(hqd:q≠d):
  Cs 268 #[.pointer (some ⟨q,0,none⟩),.pointer (some ⟨s,0,none⟩)] w (.tuple #[]) λw'=>dw w' q ((⟨⟨a,b,c,e⟩,Sk,t,x,h,ta,tn,.room,Sl,Sn⟩:DW).step L).1/\aD w' s d ((⟨⟨a,b,c,e⟩,Sk,t,x,h,ta,tn,.room,Sl,Sn⟩:DW).step L).2/\Kept (Two d q) w w':=by
 have hmf:=fD;have cL:=Hd (λw hS hq=>jU a b c e Sk t x h ta tn v Sl Sn 0 U0 hp w q s d L hL hS hq hqs hqd);have HX:=Hd (show(⟨⟨a,b,c,e⟩,Sk,t,x,h,ta,tn,.room,Sl,Sn⟩:DW).step L=if decide (wrap64 (e-1)<=wrap64 (t-L.getD ((⟨a,b,c,e⟩:Pl).bN Sk 0) 0))=true then((⟨⟨a,b,c,e⟩,Sk,t,x,h,ta,tn,.fin,Sl,true⟩:DW),L)else((⟨⟨a,b,c,e⟩,Sk,t,x,h,ta,tn,.lay,Sl,Sn⟩:DW),L)from rfl);generalize(⟨⟨a,b,c,e⟩,Sk,t,x,h,ta,tn,.room,Sl,Sn⟩:DW).step L=Z at*;generalize L.getD ((⟨a,b,c,e⟩:Pl).bN Sk 0) 0=u at*;generalize hT0:wrap64 (e-1)=t0 at*;have hK0:IntKind.i64.wrap (e-1)=t0:=(dQ _).trans hT0;generalize hT1:wrap64 (t-u)=t1 at*;have hK1:IntKind.i64.wrap (t-u)=t1:=(dQ _).trans hT1;clear hp hL;have l0:=hq.lt;have gd:¬One d q:=λz=>hqd z;have gz:=hq.fz;have x3:=hq.c3;have x5:=hq.c5
 by_cases hu:t0<=t1
 ·rw[decide_eq_true hu]at HX
  obtain rfl:Z=((⟨⟨a,b,c,e⟩,Sk,t,x,h,ta,tn,.fin,Sl,true⟩:DW),L):=HX.o;clear HX;go_enter func268,ntmps268;go_upto_region 0 with fail
  go_region_held3 (λw'=>w'.cell? ⟨q,3,none⟩=some ↑e/\w'.cell? ⟨q,5,none⟩=some ↑t)
   (exact U159)
   (first|(go_at_call 208;refine(cL.o _ U22 U38).q λw1 Sr=> ?_;have l1:=nL l0 Sr.size))
  all_goals
   have B1:Below w.heap.size w w1:=by first|exact Sr|exact(Below.refl _ _).drew.trans Sr|exact(Below.refl _ _).drew.drew.trans Sr
   have b1:=hq.below B1 l0;have z1:=b1.fz;have y10:=b1.c10;have y12:=b1.c12;go_upto_region 2 with fail;have b2:=b1.set 12 (.bool true)
   go_wp2_with (go_at_call 292;refine(uu _ _ _ v (by first|exact b2|exact b2.drew) rfl).r ?_)
   (try simp only[Exit.inBlock,Exit.then]);refine bodyPost_ret (results_none rfl _ _ _) rfl ?_
   have Q1:=(b1.set 12 (.bool true)).set 10 .nilFunc;have Q2:=((hS.ai B1).far (a:=⟨q,12,none⟩) (λz=>hqs z.symm) (λz=>hqd z.symm) (.bool true)).far (a:=⟨q,10,none⟩) (λz=>hqs z.symm) (λz=>hqd z.symm) .nilFunc;have Q3:=((Kept.ob B1).trans (Kept.bT w1 d q 12 (.bool true))).trans (Kept.bT _ d q 10 .nilFunc)
   exact⟨rfl,⟨_,by first|exact Q1|exact Q1.drew,rfl⟩,by first|exact Q2|exact Q2.drew,by first|exact Q3|exact Q3.drew⟩
 ·rw[decide_eq_false hu]at HX
  obtain rfl:Z=((⟨⟨a,b,c,e⟩,Sk,t,x,h,ta,tn,.lay,Sl,Sn⟩:DW),L):=HX.o;clear HX;go_enter func268,ntmps268;go_upto_region 0 with fail
  go_region_held3 (λw'=>w'.cell? ⟨q,3,none⟩=some ↑e/\w'.cell? ⟨q,5,none⟩=some ↑t)
   (exact U159)
   (first|(go_at_call 208;refine(cL.o _ U22 U38).q λw1 Sr=> ?_;have l1:=nL l0 Sr.size))
  all_goals
   have B1:Below w.heap.size w w1:=by first|exact Sr|exact(Below.refl _ _).drew.trans Sr|exact(Below.refl _ _).drew.drew.trans Sr
   have b1:=hq.below B1 l0;have z1:=b1.fz;have y10:=b1.c10;go_wp2_with fail
   go_end0
   have Q1:=b1.set 10 (mv 293 q);have Q2:=(hS.ai B1).far (a:=⟨q,10,none⟩) (λz=>hqs z.symm) (λz=>hqd z.symm) (mv 293 q);have Q3:=(Kept.ob B1).trans (Kept.bT w1 d q 10 (mv 293 q))
   exact⟨rfl,⟨_,by first|exact Q1|exact Q1.drew,rfl⟩,by first|exact Q2|exact Q2.drew,by first|exact Q3|exact Q3.drew⟩
theorem JK(a b c e Sk t x h:Int)(ta:Nat)(tn:Int)(v:Value)(Sl Sn:Bool)(hp:(⟨a,b,c,e⟩:Pl).ok)(w:World)(q s d:Nat)(L:List Int)(hL:(L.length:Int)=(⟨a,b,c,e⟩:Pl).size)(hS:aD w s d L)(hq:af w q #[a,b,c,e,Sk,t,x,h,ta,tn,v,.bool Sl,.bool Sn] 229)(hqs:q≠s)(hqd:q≠d)(ht:0<=wrap64 (t-1)):
  Cs 303 #[.pointer (some ⟨q,0,none⟩),.pointer (some ⟨s,0,none⟩)] w (.tuple #[]) λw'=>dw w' q ((⟨⟨a,b,c,e⟩,Sk,t,x,h,ta,tn,.takes,Sl,Sn⟩:DW).step L).1/\aD w' s d ((⟨⟨a,b,c,e⟩,Sk,t,x,h,ta,tn,.takes,Sl,Sn⟩:DW).step L).2/\Kept (Two d q) w w':=by
 have hmf:=fD;have e1:wrap64 (t-1)=wrap64 (t-1):=rfl;generalize hT:wrap64 (t-1)=t1 at e1;rw[hT]at ht;have cS:=Hd (λw=>qQ (⟨a,b,c,e⟩:Pl) hp Sk t1 ht w);have cT:=Hd (λw h=>fI w s d L ((⟨a,b,c,e⟩:Pl).sN Sk t1) (GA _ hp Sk t1 L hL) h);have HX:=Hd (show(⟨⟨a,b,c,e⟩,Sk,t,x,h,ta,tn,.takes,Sl,Sn⟩:DW).step L=((⟨⟨a,b,c,e⟩,Sk,wrap64 (t-1),L.getD ((⟨a,b,c,e⟩:Pl).sN Sk (wrap64 (t-1))) 0,h,ta,tn,.fin,true,Sn⟩:DW),L)from rfl);generalize(⟨⟨a,b,c,e⟩,Sk,t,x,h,ta,tn,.takes,Sl,Sn⟩:DW).step L=Z at*;rw[hT]at HX;generalize L.getD ((⟨a,b,c,e⟩:Pl).sN Sk t1) 0=u at*;generalize(⟨a,b,c,e⟩:Pl).sN Sk t1=k at*;clear hp hL;have l0:=hq.lt;have gd:¬One d q:=λz=>hqd z;have gz:=hq.fz;have x0:=hq.c0;have x1:=hq.c1;have x2:=hq.c2;have x3:=hq.c3;have x4:=hq.c4;have x5:=hq.c5;have x6:=hq.c6;have x7:=hq.c7;have x8:=hq.c8;have x9:=hq.c9;have x10:=hq.c10;have x11:=hq.c11;have x12:=hq.c12;go_enter func303,ntmps303;go_upto_region 1 with fail;have b0:=hq.set 5 ↑t1;have s0:=hS.far (a:=⟨q,5,none⟩) (λz=>hqs z.symm) (λz=>hqd z.symm) ↑t1;have k0:=Kept.bT w d q 5 ↑t1;have m0:=b0.lt;clear l0 gz;have z0:=b0.fz;clear x0 x1 x2 x3 x4 x5 x6 x7 x8 x9 x10 x11 x12;have x0:(w.setCell ⟨q,5,none⟩ ↑t1).cell? ⟨q,0,none⟩=some ↑a:=b0.cell 0;have x1:(w.setCell ⟨q,5,none⟩ ↑t1).cell? ⟨q,1,none⟩=some ↑b:=b0.cell 1;have x2:(w.setCell ⟨q,5,none⟩ ↑t1).cell? ⟨q,2,none⟩=some ↑c:=b0.cell 2;have x3:(w.setCell ⟨q,5,none⟩ ↑t1).cell? ⟨q,3,none⟩=some ↑e:=b0.cell 3;have x4:(w.setCell ⟨q,5,none⟩ ↑t1).cell? ⟨q,4,none⟩=some ↑Sk:=b0.cell 4
 have x5:(w.setCell ⟨q,5,none⟩ ↑t1).cell? ⟨q,5,none⟩=some ↑t1:=b0.cell 5;generalize w.setCell ⟨q,5,none⟩ ↑t1=W at*
 go_region_held3 (λw'=>w'.cell? ⟨q,0,none⟩=some ↑a/\w'.cell? ⟨q,1,none⟩=some ↑b/\w'.cell? ⟨q,2,none⟩=some ↑c/\w'.cell? ⟨q,3,none⟩=some ↑e/\w'.cell? ⟨q,4,none⟩=some ↑Sk/\w'.cell? ⟨q,5,none⟩=some ↑t1)
  (exact U159)
  (first|(go_at_call 300;refine(cS.o _).q λw1 Sr=> ?_;have l1:=nL m0 Sr.size)|(go_at_call 160;refine(cT.o _ (by first|exact s0.ai Sr|exact s0.drew.ai Sr|exact s0.drew.drew.ai Sr)).r ?_;have b1:=(by first|exact b0.below Sr m0|exact b0.drew.below Sr m0|exact b0.drew.drew.below Sr m0:af w1 q #[a,b,c,e,Sk,t1,x,h,ta,tn,v,.bool Sl,.bool Sn] 229);have z1:=b1.fz;have y6:=b1.cell 6))
 all_goals
  have B1:Below W.heap.size W w1:=by first|exact Sr|exact(Below.refl _ _).drew.trans Sr|exact(Below.refl _ _).drew.drew.trans Sr
  have c2:=(b1.set 6 ↑u).set 11 (.bool true);have y10:=b1.c10;have y11:=b1.c11
  go_wp2_with (go_at_call 292;refine(uu _ _ _ v (by first|exact c2|exact c2.drew) rfl).r ?_)
  go_end0
  rw[HX.o];have Q1:=c2.set 10 .nilFunc;have Q2:=(((s0.ai B1).far (a:=⟨q,6,none⟩) (λz=>hqs z.symm) (λz=>hqd z.symm) ↑u).far (a:=⟨q,11,none⟩) (λz=>hqs z.symm) (λz=>hqd z.symm) (.bool true)).far (a:=⟨q,10,none⟩) (λz=>hqs z.symm) (λz=>hqd z.symm) .nilFunc;have Q3:=(((k0.trans (Kept.ob B1)).trans (Kept.bT w1 d q 6 ↑u)).trans (Kept.bT _ d q 11 (.bool true))).trans (Kept.bT _ d q 10 .nilFunc)
  exact⟨rfl,⟨_,by first|exact Q1|exact Q1.drew,rfl⟩,by first|exact Q2|exact Q2.drew,by first|exact Q3|exact Q3.drew⟩
theorem xU(a b c e Sk t x h:Int)(ta:Nat)(tn:Int)(v:Value)(Sl Sn:Bool)(hp:(⟨a,b,c,e⟩:Pl).ok)(w:World)(q s d:Nat)(L:List Int)(hL:(L.length:Int)=(⟨a,b,c,e⟩:Pl).size)(hS:aD w s d L)(hq:af w q #[a,b,c,e,Sk,t,x,h,ta,tn,v,.bool Sl,.bool Sn] 229)(hqs:q≠s)(hqd:q≠d):
  Cs 304 #[.pointer (some ⟨q,0,none⟩),.pointer (some ⟨s,0,none⟩)] w (.tuple #[]) λw'=>dw w' q ((⟨⟨a,b,c,e⟩,Sk,t,x,h,ta,tn,.aX,Sl,Sn⟩:DW).step L).1/\aD w' s d ((⟨⟨a,b,c,e⟩,Sk,t,x,h,ta,tn,.aX,Sl,Sn⟩:DW).step L).2/\Kept (Two d q) w w':=by
 have hmf:=fD;have cP:=Hd (λw hS hq=>jg a b c e Sk t x h ta tn v Sl Sn 1 t U0 hp w q s d L hL hS hq hqs hqd);have cA:=Hd (λw=>sJ w q (.func 307) #[.pointer (some ⟨q,0,none⟩)] #[]);have HX:=Hd (show(⟨⟨a,b,c,e⟩,Sk,t,x,h,ta,tn,.aX,Sl,Sn⟩:DW).step L=((⟨⟨a,b,c,e⟩,Sk,t,x,h,ta,tn,.ask .again,Sl,Sn⟩:DW),L.set ((⟨a,b,c,e⟩:Pl).bN Sk 1) t)from rfl);generalize(⟨⟨a,b,c,e⟩,Sk,t,x,h,ta,tn,.aX,Sl,Sn⟩:DW).step L=Z at*;generalize L.set ((⟨a,b,c,e⟩:Pl).bN Sk 1) t=L' at*;clear hp hL;have l0:=hq.lt;have gd:¬One d q:=λz=>hqd z;have gz:=hq.fz;have x0:=hq.c0;have x1:=hq.c1;have x2:=hq.c2;have x3:=hq.c3;have x4:=hq.c4;have x5:=hq.c5;have x6:=hq.c6;have x7:=hq.c7;have x8:=hq.c8;have x9:=hq.c9;have x10:=hq.c10;have x11:=hq.c11;have x12:=hq.c12;go_enter func304,ntmps304
 go_upto_region 1 with(go_at_call 259;refine(cP.o _ hS hq).mono ?_;rintro ev w1 ⟨rfl,h1,k1⟩;have b1:=k1.blk hq gd)
 go_wp2_with (go_at_call 131;refine(cA.o _).mono ?_;rintro ev w2 ⟨bw,bt,rfl,bbw,bbt,hb2⟩;have b2:=b1.below hb2 b1.lt;have z2:=b2.fz;have y10:w2.cell? ⟨q,10,none⟩=some v:=b2.cell 10)
 go_end0
 rw[HX.o]
 exact⟨rfl,⟨_,b2.set 10 _,bw,bt,rfl,bbw.far (bbw.ne b2 U0) _,bbt.far (bbt.ne b2 U0) _⟩,(h1.ai hb2).far (λz=>hqs z.symm) (λz=>hqd z.symm) _,(k1.two.trans (Kept.ob hb2)).trans (Kept.bT _ _ _ _ _)⟩
theorem JH(a b c e Sk t x h:Int)(ta:Nat)(tn:Int)(v:Value)(Sl Sn:Bool)(hp:(⟨a,b,c,e⟩:Pl).ok)(w:World)(q s d:Nat)(L:List Int)(hL:(L.length:Int)=(⟨a,b,c,e⟩:Pl).size)(hS:aD w s d L)(hq:af w q #[a,b,c,e,Sk,t,x,h,ta,tn,v,.bool Sl,.bool Sn] 229)(hqs:q≠s)(hqd:q≠d):
  Cs 132 #[.pointer (some ⟨q,0,none⟩),.pointer (some ⟨s,0,none⟩)] w (.tuple #[]) λw'=>dw w' q ((⟨⟨a,b,c,e⟩,Sk,t,x,h,ta,tn,.first,Sl,Sn⟩:DW).step L).1/\aD w' s d ((⟨⟨a,b,c,e⟩,Sk,t,x,h,ta,tn,.first,Sl,Sn⟩:DW).step L).2/\Kept (Two d q) w w':=by
 have hmf:=fD;have cL:=Hd (λw hS hq=>jU a b c e Sk t x h ta tn v Sl Sn 0 U0 hp w q s d L hL hS hq hqs hqd);have HX:=Hd (show(⟨⟨a,b,c,e⟩,Sk,t,x,h,ta,tn,.first,Sl,Sn⟩:DW).step L=((⟨⟨a,b,c,e⟩,Sk,t,x,L.getD ((⟨a,b,c,e⟩:Pl).bN Sk 0) 0,ta,tn,.claims,Sl,Sn⟩:DW),L)from rfl);generalize(⟨⟨a,b,c,e⟩,Sk,t,x,h,ta,tn,.first,Sl,Sn⟩:DW).step L=Z at*;generalize L.getD ((⟨a,b,c,e⟩:Pl).bN Sk 0) 0=u at*;clear hp hL;have l0:=hq.lt;have gd:¬One d q:=λz=>hqd z;have gz:=hq.fz;have x0:=hq.c0;have x1:=hq.c1;have x2:=hq.c2;have x3:=hq.c3;have x4:=hq.c4;have x5:=hq.c5;have x6:=hq.c6;have x7:=hq.c7;have x8:=hq.c8;have x9:=hq.c9;have x10:=hq.c10;have x11:=hq.c11;have x12:=hq.c12;go_enter func132,ntmps132
 go_wp2_with (go_at_call 208;refine(cL.o _ hS hq).q λw1 Sr=> ?_;have b1:=hq.below Sr l0;have z1:=b1.fz;have y7:=b1.c7;have y10:w1.cell? ⟨q,10,none⟩=some v:=b1.cell 10)
 go_end0
 rw[HX.o]
 exact⟨rfl,⟨_,(b1.set 7 _).set 10 _,rfl⟩,((hS.ai Sr).far (λz=>hqs z.symm) (λz=>hqd z.symm) _).far (λz=>hqs z.symm) (λz=>hqd z.symm) _,((Kept.ob Sr).trans (Kept.bT _ _ _ _ _)).trans (Kept.bT _ _ _ _ _)⟩
theorem Bz(a b c e Sk t x h:Int)(ta:Nat)(tn:Int)(v:Value)(Sl Sn:Bool)(hp:(⟨a,b,c,e⟩:Pl).ok)(w:World)(q s d:Nat)(L:List Int)(hL:(L.length:Int)=(⟨a,b,c,e⟩:Pl).size)(hS:aD w s d L)(hq:af w q #[a,b,c,e,Sk,t,x,h,ta,tn,v,.bool Sl,.bool Sn] 229)(hqs:q≠s)(hqd:q≠d)(hh:0<=h):
  Cs 288 #[.pointer (some ⟨q,0,none⟩),.pointer (some ⟨s,0,none⟩)] w (.tuple #[]) λw'=>dw w' q ((⟨⟨a,b,c,e⟩,Sk,t,x,h,ta,tn,.carries,Sl,Sn⟩:DW).step L).1/\aD w' s d ((⟨⟨a,b,c,e⟩,Sk,t,x,h,ta,tn,.carries,Sl,Sn⟩:DW).step L).2/\Kept (Two d q) w w':=by
 have hmf:=fD;have cS:=Hd (λw=>qQ (⟨a,b,c,e⟩:Pl) hp Sk h hh w);have cT:=Hd (λw hs=>fI w s d L ((⟨a,b,c,e⟩:Pl).sN Sk h) (GA _ hp Sk h L hL) hs);have cA:=Hd (λw=>jT w q);have HX:=Hd (show(⟨⟨a,b,c,e⟩,Sk,t,x,h,ta,tn,.carries,Sl,Sn⟩:DW).step L=((⟨⟨a,b,c,e⟩,Sk,t,L.getD ((⟨a,b,c,e⟩:Pl).sN Sk h) 0,h,ta,tn,.leave false,true,Sn⟩:DW),L)from rfl);generalize(⟨⟨a,b,c,e⟩,Sk,t,x,h,ta,tn,.carries,Sl,Sn⟩:DW).step L=Z at*;generalize L.getD ((⟨a,b,c,e⟩:Pl).sN Sk h) 0=u at*;generalize(⟨a,b,c,e⟩:Pl).sN Sk h=k at*;clear hp hL;have l0:=hq.lt;have gd:¬One d q:=λz=>hqd z;have gz:=hq.fz;have x0:=hq.c0;have x1:=hq.c1;have x2:=hq.c2;have x3:=hq.c3;have x4:=hq.c4;have x5:=hq.c5;have x6:=hq.c6;have x7:=hq.c7;have x8:=hq.c8;have x9:=hq.c9;have x10:=hq.c10;have x11:=hq.c11;have x12:=hq.c12;go_enter func288,ntmps288;go_upto_region 0 with fail
 go_region_held3 (λw'=>w'.cell? ⟨q,0,none⟩=some ↑a/\w'.cell? ⟨q,1,none⟩=some ↑b/\w'.cell? ⟨q,2,none⟩=some ↑c/\w'.cell? ⟨q,3,none⟩=some ↑e/\w'.cell? ⟨q,4,none⟩=some ↑Sk/\w'.cell? ⟨q,7,none⟩=some ↑h)
  (exact U159)
  (first|(go_at_call 300;refine(cS.o _).q λw1 Sr=> ?_;have l1:=nL l0 Sr.size)|(go_at_call 160;refine(cT.o _ U33).r ?_;have b1:=(by first|exact hq.below Sr l0|exact hq.drew.below Sr l0|exact hq.drew.drew.below Sr l0:af w1 q #[a,b,c,e,Sk,t,x,h,ta,tn,v,.bool Sl,.bool Sn] 229);have z1:=b1.fz;have y6:=b1.cell 6))
 all_goals
  have B1:Below w.heap.size w w1:=by first|exact Sr|exact(Below.refl _ _).drew.trans Sr|exact(Below.refl _ _).drew.drew.trans Sr
  have c2:=(b1.set 6 ↑u).set 11 (.bool true);have y11:=b1.c11;have Q2:=((hS.ai B1).far (a:=⟨q,6,none⟩) (λz=>hqs z.symm) (λz=>hqd z.symm) ↑u).far (a:=⟨q,11,none⟩) (λz=>hqs z.symm) (λz=>hqd z.symm) (.bool true);have Q3:=((Kept.ob B1).trans (Kept.bT w1 d q 6 ↑u)).trans (Kept.bT _ d q 11 (.bool true));go_upto_region 2 with fail
  go_wp2_with (go_at_call 290;refine(cA.o _).mono ?_;rintro ev w3 ⟨bw,bt,rfl,bbw,bbt,hb3⟩;have b2:=(by first|exact c2.below hb3 c2.lt|exact c2.drew.below hb3 c2.lt:af w3 q _ 229);have z3:=b2.fz;have y10:w3.cell? ⟨q,10,none⟩=some v:=b2.cell 10)
  go_end0
  rw[HX.o]
  exact⟨rfl,⟨_,b2.set 10 _,bw,bt,rfl,bbw.far (bbw.ne b2 U0) _,bbt.far (bbt.ne b2 U0) _⟩,(by first|exact Q2.ai hb3|exact Q2.drew.ai hb3:aD w3 s d L).far (λz=>hqs z.symm) (λz=>hqd z.symm) _,((by first|exact Q3.trans (Kept.ob hb3)|exact Q3.drew.trans (Kept.ob hb3)):Kept (Two d q) w w3).trans (Kept.bT _ _ _ _ _)⟩
theorem uq(a b c e Sk t x h:Int)(ta:Nat)(tn:Int)(v:Value)(Sl Sn:Bool)(hp:(⟨a,b,c,e⟩:Pl).ok)(w:World)(q s d:Nat)(L:List Int)(hL:(L.length:Int)=(⟨a,b,c,e⟩:Pl).size)(hS:aD w s d L)(hq:af w q #[a,b,c,e,Sk,t,x,h,ta,tn,v,.bool Sl,.bool Sn] 229)(hqs:q≠s)(hqd:q≠d):
  Cs 308 #[.pointer (some ⟨q,0,none⟩),.pointer (some ⟨s,0,none⟩)] w (.tuple #[]) λw'=>dw w' q ((⟨⟨a,b,c,e⟩,Sk,t,x,h,ta,tn,.aI,Sl,Sn⟩:DW).step L).1/\aD w' s d ((⟨⟨a,b,c,e⟩,Sk,t,x,h,ta,tn,.aI,Sl,Sn⟩:DW).step L).2/\Kept (Two d q) w w':=by
 have hmf:=fD;have cL:=Hd (λw hS hq=>jU a b c e Sk t x h ta tn v Sl Sn 0 U0 hp w q s d L hL hS hq hqs hqd);have cA:=Hd (λw=>mH w q (.func 303) #[.pointer (some ⟨q,0,none⟩)] #[]);have HX:=Hd (show(⟨⟨a,b,c,e⟩,Sk,t,x,h,ta,tn,.aI,Sl,Sn⟩:DW).step L=if decide (L.getD ((⟨a,b,c,e⟩:Pl).bN Sk 0) 0<=wrap64 (t-1))=true then((⟨⟨a,b,c,e⟩,Sk,t,x,h,ta,tn,.leave true,Sl,Sn⟩:DW),L)else((⟨⟨a,b,c,e⟩,Sk,t,x,h,ta,tn,.puts,Sl,Sn⟩:DW),L)from rfl);generalize(⟨⟨a,b,c,e⟩,Sk,t,x,h,ta,tn,.aI,Sl,Sn⟩:DW).step L=Z at*;generalize L.getD ((⟨a,b,c,e⟩:Pl).bN Sk 0) 0=u at*;generalize hT0:wrap64 (t-1)=t0 at*;have hK0:IntKind.i64.wrap (t-1)=t0:=(dQ _).trans hT0;clear hp hL;have b0:=hq.alloc (.cells #[.pointer (some ⟨q,0,none⟩)] 120);have bg:=af.new w #[.pointer (some ⟨q,0,none⟩)] 120 _ rfl;have s0:=hS.alloc (.cells #[.pointer (some ⟨q,0,none⟩)] 120);have k0:Kept (Two d q) w (w.alloc (.cells #[.pointer (some ⟨q,0,none⟩)] 120)):=(Kept.refl _ _).alloc _
 by_cases hu:u<=t0
 ·rw[decide_eq_true hu]at HX
  obtain rfl:Z=((⟨⟨a,b,c,e⟩,Sk,t,x,h,ta,tn,.leave true,Sl,Sn⟩:DW),L):=HX.o;clear HX;go_enter func308,ntmps308;go_upto_region 1 with fail;generalize w.alloc (.cells #[.pointer (some ⟨q,0,none⟩)] 120)=W at*;generalize w.heap.size=g at*;have x0:=bg.c0;have x5:=b0.c5;have l0:=b0.lt;have lg:=bg.lt
  go_region_held3 (λw'=>w'.cell? ⟨g,0,none⟩=some (.pointer (some ⟨q,0,none⟩))/\w'.cell? ⟨q,5,none⟩=some ↑t)
   (exact U159)
   (first|(go_at_call 208;refine(cL.o _ U49 U50).q λw1 Sr=> ?_;have l1:=nL l0 Sr.size;have lg1:=nL lg Sr.size))
  all_goals
   have B1:Below W.heap.size W w1:=by first|exact Sr|exact(Below.refl _ _).drew.trans Sr|exact(Below.refl _ _).drew.drew.trans Sr
   have b1:=b0.below B1 l0;have g1:=bg.below B1 lg;have z1:=b1.fz;have y10:=b1.c10;have yg:=g1.c0;have S1:=s0.ai B1;have K1:Kept (Two d q) w w1:=k0.trans (Kept.ob B1);go_upto_region 2 with fail;have W1:=(Below.refl w1.heap.size w1)
   go_region_held3 (λw'=>w'.cell? ⟨g,0,none⟩=some (.pointer (some ⟨q,0,none⟩)))
    (exact U159)
    (first|(go_at_call 290;refine(cA.o _).mono ?_;rintro ev w3 ⟨bw,bt,rfl,bbw,bbt,hb3⟩;have lg3:=nL g1.lt hb3.size;have b2:=(by first|exact b1.below hb3 b1.lt|exact b1.drew.below hb3 b1.lt|exact b1.drew.drew.below hb3 b1.lt:af w3 q #[a,b,c,e,Sk,t,x,h,ta,tn,v,.bool Sl,.bool Sn] 229);have z3:=b2.fz;have y10:w3.cell? ⟨q,10,none⟩=some v:=b2.cell 10))
   all_goals
    have B3:Below w1.heap.size w1 w3:=by first|exact hb3|exact(Below.refl _ _).drew.trans hb3|exact(Below.refl _ _).drew.drew.trans hb3
    go_wp2_with fail
    (try simp only[Exit.inBlock,Exit.then]);refine bodyPost_ret (results_none rfl _ _ _) rfl ?_
    have Q1:=b2.set 10 (.func (.func 301) #[] #[.pointer (some ⟨bw,0,none⟩),.pointer (some ⟨bt,0,none⟩)]);have Q2:=(S1.ai B3).far (a:=⟨q,10,none⟩) (λz=>hqs z.symm) (λz=>hqd z.symm) (.func (.func 301) #[] #[.pointer (some ⟨bw,0,none⟩),.pointer (some ⟨bt,0,none⟩)]);have Q3:=(K1.trans (Kept.ob B3)).trans (Kept.bT w3 d q 10 (.func (.func 301) #[] #[.pointer (some ⟨bw,0,none⟩),.pointer (some ⟨bt,0,none⟩)]));have Q4:=bbw.far (a:=⟨q,10,none⟩) (bbw.ne b2 U0) (.func (.func 301) #[] #[.pointer (some ⟨bw,0,none⟩),.pointer (some ⟨bt,0,none⟩)]);have Q5:=bbt.far (a:=⟨q,10,none⟩) (bbt.ne b2 U0) (.func (.func 301) #[] #[.pointer (some ⟨bw,0,none⟩),.pointer (some ⟨bt,0,none⟩)])
    exact⟨rfl,⟨_,by first|exact Q1|exact Q1.drew,bw,bt,rfl,by first|exact Q4|exact Q4.drew,by first|exact Q5|exact Q5.drew⟩,by first|exact Q2|exact Q2.drew,by first|exact Q3|exact Q3.drew⟩
 ·rw[decide_eq_false hu]at HX
  obtain rfl:Z=((⟨⟨a,b,c,e⟩,Sk,t,x,h,ta,tn,.puts,Sl,Sn⟩:DW),L):=HX.o;clear HX;go_enter func308,ntmps308;go_upto_region 1 with fail;generalize w.alloc (.cells #[.pointer (some ⟨q,0,none⟩)] 120)=W at*;generalize w.heap.size=g at*;have x0:=bg.c0;have x5:=b0.c5;have l0:=b0.lt;have lg:=bg.lt
  go_region_held3 (λw'=>w'.cell? ⟨g,0,none⟩=some (.pointer (some ⟨q,0,none⟩))/\w'.cell? ⟨q,5,none⟩=some ↑t)
   (exact U159)
   (first|(go_at_call 208;refine(cL.o _ U49 U50).q λw1 Sr=> ?_;have l1:=nL l0 Sr.size;have lg1:=nL lg Sr.size))
  all_goals
   have B1:Below W.heap.size W w1:=by first|exact Sr|exact(Below.refl _ _).drew.trans Sr|exact(Below.refl _ _).drew.drew.trans Sr
   have b1:=b0.below B1 l0;have g1:=bg.below B1 lg;have z1:=b1.fz;have y10:=b1.c10;have yg:=g1.c0;have S1:=s0.ai B1;have K1:Kept (Two d q) w w1:=k0.trans (Kept.ob B1);go_wp2_with fail
   go_end0
   have Q1:=b1.set 10 (.func (.func 309) #[] #[.pointer (some ⟨g,0,none⟩)]);have Q2:=S1.far (a:=⟨q,10,none⟩) (λz=>hqs z.symm) (λz=>hqd z.symm) (.func (.func 309) #[] #[.pointer (some ⟨g,0,none⟩)]);have Q3:=K1.trans (Kept.bT w1 d q 10 (.func (.func 309) #[] #[.pointer (some ⟨g,0,none⟩)]));have G1:=g1.far (a:=⟨q,10,none⟩) (g1.ne b1 U0) (.func (.func 309) #[] #[.pointer (some ⟨g,0,none⟩)])
   exact⟨rfl,⟨_,by first|exact Q1|exact Q1.drew,g,rfl,by first|exact G1|exact G1.drew⟩,by first|exact Q2|exact Q2.drew,by first|exact Q3|exact Q3.drew⟩
theorem JG(a b c e Sk t x h:Int)(ta:Nat)(tn:Int)(v:Value)(Sl Sn:Bool)(hp:(⟨a,b,c,e⟩:Pl).ok)(w:World)(q s d:Nat)(L:List Int)(hL:(L.length:Int)=(⟨a,b,c,e⟩:Pl).size)(hS:aD w s d L)(hq:af w q #[a,b,c,e,Sk,t,x,h,ta,tn,v,.bool Sl,.bool Sn] 229)(hqs:q≠s)(hqd:q≠d):
  Cs 260 #[.pointer (some ⟨q,0,none⟩),.pointer (some ⟨s,0,none⟩)] w (.tuple #[]) λw'=>dw w' q ((⟨⟨a,b,c,e⟩,Sk,t,x,h,ta,tn,.finds,Sl,Sn⟩:DW).step L).1/\aD w' s d ((⟨⟨a,b,c,e⟩,Sk,t,x,h,ta,tn,.finds,Sl,Sn⟩:DW).step L).2/\Kept (Two d q) w w':=by
 have hmf:=fD;have cL:=Hd (λw hS hq=>jU a b c e Sk t x h ta tn v Sl Sn 1 U0 hp w q s d L hL hS hq hqs hqd);have cA:=Hd (λw=>mH w q (.func 303) #[.pointer (some ⟨q,0,none⟩)] #[]);have HX:=Hd (show(⟨⟨a,b,c,e⟩,Sk,t,x,h,ta,tn,.finds,Sl,Sn⟩:DW).step L=if decide (wrap64 (h+1)<=L.getD ((⟨a,b,c,e⟩:Pl).bN Sk 1) 0)=true then((⟨⟨a,b,c,e⟩,Sk,t,x,h,ta,tn,.carries,Sl,Sn⟩:DW),L)else((⟨⟨a,b,c,e⟩,Sk,t,x,h,ta,tn,.aS,Sl,Sn⟩:DW),L)from rfl);generalize(⟨⟨a,b,c,e⟩,Sk,t,x,h,ta,tn,.finds,Sl,Sn⟩:DW).step L=Z at*;generalize L.getD ((⟨a,b,c,e⟩:Pl).bN Sk 1) 0=u at*;generalize hT0:wrap64 (h+1)=t0 at*;have hK0:IntKind.i64.wrap (h+1)=t0:=(dQ _).trans hT0;clear hp hL;have b0:=hq.alloc (.cells #[.pointer (some ⟨q,0,none⟩)] 120);have bg:=af.new w #[.pointer (some ⟨q,0,none⟩)] 120 _ rfl;have s0:=hS.alloc (.cells #[.pointer (some ⟨q,0,none⟩)] 120);have k0:Kept (Two d q) w (w.alloc (.cells #[.pointer (some ⟨q,0,none⟩)] 120)):=(Kept.refl _ _).alloc _
 by_cases hu:t0<=u
 ·rw[decide_eq_true hu]at HX
  obtain rfl:Z=((⟨⟨a,b,c,e⟩,Sk,t,x,h,ta,tn,.carries,Sl,Sn⟩:DW),L):=HX.o;clear HX;go_enter func260,ntmps260;go_upto_region 1 with fail;generalize w.alloc (.cells #[.pointer (some ⟨q,0,none⟩)] 120)=W at*;generalize w.heap.size=g at*;have x0:=bg.c0;have x7:=b0.c7;have l0:=b0.lt;have lg:=bg.lt
  go_region_held3 (λw'=>w'.cell? ⟨g,0,none⟩=some (.pointer (some ⟨q,0,none⟩))/\w'.cell? ⟨q,7,none⟩=some ↑h)
   (exact U159)
   (first|(go_at_call 208;refine(cL.o _ U49 U50).q λw1 Sr=> ?_;have l1:=nL l0 Sr.size;have lg1:=nL lg Sr.size))
  all_goals
   have B1:Below W.heap.size W w1:=by first|exact Sr|exact(Below.refl _ _).drew.trans Sr|exact(Below.refl _ _).drew.drew.trans Sr
   have b1:=b0.below B1 l0;have g1:=bg.below B1 lg;have z1:=b1.fz;have y10:=b1.c10;have yg:=g1.c0;have S1:=s0.ai B1;have K1:Kept (Two d q) w w1:=k0.trans (Kept.ob B1);go_wp2_with fail
   (try simp only[Exit.inBlock,Exit.then]);refine bodyPost_ret (results_none rfl _ _ _) rfl ?_
   have Q1:=b1.set 10 (mv 288 q);have Q2:=S1.far (a:=⟨q,10,none⟩) (λz=>hqs z.symm) (λz=>hqd z.symm) (mv 288 q);have Q3:=K1.trans (Kept.bT w1 d q 10 (mv 288 q));have G1:=g1.far (a:=⟨q,10,none⟩) (g1.ne b1 U0) (mv 288 q)
   exact⟨rfl,⟨_,by first|exact Q1|exact Q1.drew,rfl⟩,by first|exact Q2|exact Q2.drew,by first|exact Q3|exact Q3.drew⟩
 ·rw[decide_eq_false hu]at HX
  obtain rfl:Z=((⟨⟨a,b,c,e⟩,Sk,t,x,h,ta,tn,.aS,Sl,Sn⟩:DW),L):=HX.o;clear HX;go_enter func260,ntmps260;go_upto_region 1 with fail;generalize w.alloc (.cells #[.pointer (some ⟨q,0,none⟩)] 120)=W at*;generalize w.heap.size=g at*;have x0:=bg.c0;have x7:=b0.c7;have l0:=b0.lt;have lg:=bg.lt
  go_region_held3 (λw'=>w'.cell? ⟨g,0,none⟩=some (.pointer (some ⟨q,0,none⟩))/\w'.cell? ⟨q,7,none⟩=some ↑h)
   (exact U159)
   (first|(go_at_call 208;refine(cL.o _ U49 U50).q λw1 Sr=> ?_;have l1:=nL l0 Sr.size;have lg1:=nL lg Sr.size))
  all_goals
   have B1:Below W.heap.size W w1:=by first|exact Sr|exact(Below.refl _ _).drew.trans Sr|exact(Below.refl _ _).drew.drew.trans Sr
   have b1:=b0.below B1 l0;have g1:=bg.below B1 lg;have z1:=b1.fz;have y10:=b1.c10;have yg:=g1.c0;have S1:=s0.ai B1;have K1:Kept (Two d q) w w1:=k0.trans (Kept.ob B1);go_wp2_with fail
   go_end0
   have Q1:=b1.set 10 (.func (.func 289) #[] #[.pointer (some ⟨g,0,none⟩)]);have Q2:=S1.far (a:=⟨q,10,none⟩) (λz=>hqs z.symm) (λz=>hqd z.symm) (.func (.func 289) #[] #[.pointer (some ⟨g,0,none⟩)]);have Q3:=K1.trans (Kept.bT w1 d q 10 (.func (.func 289) #[] #[.pointer (some ⟨g,0,none⟩)]));have G1:=g1.far (a:=⟨q,10,none⟩) (g1.ne b1 U0) (.func (.func 289) #[] #[.pointer (some ⟨g,0,none⟩)])
   exact⟨rfl,⟨_,by first|exact Q1|exact Q1.drew,g,rfl,by first|exact G1|exact G1.drew⟩,by first|exact Q2|exact Q2.drew,by first|exact Q3|exact Q3.drew⟩
theorem Nw(a b c e Sk t x h:Int)(ta:Nat)(tn:Int)(v:Value)(Sl Sn:Bool)(hp:(⟨a,b,c,e⟩:Pl).ok)(w:World)(q s d:Nat)(L:List Int)(hL:(L.length:Int)=(⟨a,b,c,e⟩:Pl).size)(hS:aD w s d L)(hq:af w q #[a,b,c,e,Sk,t,x,h,ta,tn,v,.bool Sl,.bool Sn] 229)(hqs:q≠s)(hqd:q≠d)(g:Nat)(bg:af w g #[.pointer (some ⟨q,0,none⟩)] 120):
  Cs 309 #[.pointer (some ⟨s,0,none⟩),.pointer (some ⟨g,0,none⟩)] w (.tuple #[]) λw'=>dw w' q ((⟨⟨a,b,c,e⟩,Sk,t,x,h,ta,tn,.puts,Sl,Sn⟩:DW).step L).1/\aD w' s d ((⟨⟨a,b,c,e⟩,Sk,t,x,h,ta,tn,.puts,Sl,Sn⟩:DW).step L).2/\Kept (Two d q) w w':=by
 have hmf:=fD;have cP:=Hd (λw hS hq=>jg a b c e Sk t x h ta tn v Sl Sn 1 t U0 hp w q s d L hL hS hq hqs hqd);have cA:=Hd (λw=>jT w q);have HX:=Hd (show(⟨⟨a,b,c,e⟩,Sk,t,x,h,ta,tn,.puts,Sl,Sn⟩:DW).step L=((⟨⟨a,b,c,e⟩,Sk,t,x,h,ta,tn,.leave false,Sl,Sn⟩:DW),L.set ((⟨a,b,c,e⟩:Pl).bN Sk 1) t)from rfl);generalize(⟨⟨a,b,c,e⟩,Sk,t,x,h,ta,tn,.puts,Sl,Sn⟩:DW).step L=Z at*;generalize L.set ((⟨a,b,c,e⟩:Pl).bN Sk 1) t=L' at*;clear hp hL;have gd:¬One d q:=λz=>hqd z;have ggd:¬One d g:=λz=>bg.ne hS.ws U0 z;have l0:=hq.lt;have lg:=bg.lt;have x0:=bg.c0;have x5:=hq.c5;go_enter func309,ntmps309;go_upto_region 0 with fail
 go_region_held3 (λw'=>w'.cell? ⟨g,0,none⟩=some (.pointer (some ⟨q,0,none⟩))/\w'.cell? ⟨q,5,none⟩=some ↑t)
  (exact U159)
  (first|(go_at_call 259;refine(cP.o _ U22 U38).mono ?_;rintro ev w1 ⟨rfl,h1,k1⟩;have l1:=nL l0 k1.size;have lg1:=nL lg k1.size))
 all_goals
  have K1:Kept (One d) w w1:=by first|exact k1|exact(Kept.refl _ w).drew.trans k1|exact(Kept.refl _ w).drew.drew.trans k1
  have b1:=K1.blk hq gd;have g1:=K1.blk bg ggd;have yg:=g1.c0;go_upto_region 1 with fail
  go_region_held3 (λw'=>w'.cell? ⟨g,0,none⟩=some (.pointer (some ⟨q,0,none⟩)))
   (exact U159)
   (first|(go_at_call 290;refine(cA.o _).mono ?_;rintro ev w3 ⟨bw,bt,rfl,bbw,bbt,hb3⟩;have lg3:=nL g1.lt hb3.size;have b2:=(by first|exact b1.below hb3 b1.lt|exact b1.drew.below hb3 b1.lt|exact b1.drew.drew.below hb3 b1.lt:af w3 q #[a,b,c,e,Sk,t,x,h,ta,tn,v,.bool Sl,.bool Sn] 229);have z3:=b2.fz;have y10:w3.cell? ⟨q,10,none⟩=some v:=b2.cell 10))
  all_goals
   have B3:Below w1.heap.size w1 w3:=by first|exact hb3|exact(Below.refl _ _).drew.trans hb3|exact(Below.refl _ _).drew.drew.trans hb3
   go_wp2_with fail
   go_end0
   rw[HX.o];have Q1:=b2.set 10 (.func (.func 301) #[] #[.pointer (some ⟨bw,0,none⟩),.pointer (some ⟨bt,0,none⟩)]);have Q2:=(h1.ai B3).far (a:=⟨q,10,none⟩) (λz=>hqs z.symm) (λz=>hqd z.symm) (.func (.func 301) #[] #[.pointer (some ⟨bw,0,none⟩),.pointer (some ⟨bt,0,none⟩)]);have Q3:=(K1.two.trans (Kept.ob B3)).trans (Kept.bT w3 d q 10 (.func (.func 301) #[] #[.pointer (some ⟨bw,0,none⟩),.pointer (some ⟨bt,0,none⟩)]));have Q4:=bbw.far (a:=⟨q,10,none⟩) (bbw.ne b2 U0) (.func (.func 301) #[] #[.pointer (some ⟨bw,0,none⟩),.pointer (some ⟨bt,0,none⟩)]);have Q5:=bbt.far (a:=⟨q,10,none⟩) (bbt.ne b2 U0) (.func (.func 301) #[] #[.pointer (some ⟨bw,0,none⟩),.pointer (some ⟨bt,0,none⟩)])
   exact⟨rfl,⟨_,by first|exact Q1|exact Q1.drew,bw,bt,rfl,by first|exact Q4|exact Q4.drew,by first|exact Q5|exact Q5.drew⟩,by first|exact Q2|exact Q2.drew,by first|exact Q3|exact Q3.drew⟩
theorem BD(a b c e Sk t x h:Int)(ta:Nat)(tn:Int)(v:Value)(Sl Sn:Bool)(hp:(⟨a,b,c,e⟩:Pl).ok)(w:World)(q s d:Nat)(L:List Int)(hL:(L.length:Int)=(⟨a,b,c,e⟩:Pl).size)(hS:aD w s d L)(hq:af w q #[a,b,c,e,Sk,t,x,h,ta,tn,v,.bool Sl,.bool Sn] 229)(hqs:q≠s)(hqd:q≠d)(g:Nat)(bg:af w g #[.pointer (some ⟨q,0,none⟩)] 120):
  Cs 289 #[.pointer (some ⟨s,0,none⟩),.pointer (some ⟨g,0,none⟩)] w (.tuple #[]) λw'=>dw w' q ((⟨⟨a,b,c,e⟩,Sk,t,x,h,ta,tn,.aS,Sl,Sn⟩:DW).step L).1/\aD w' s d ((⟨⟨a,b,c,e⟩,Sk,t,x,h,ta,tn,.aS,Sl,Sn⟩:DW).step L).2/\Kept (Two d q) w w':=by
 have hmf:=fD;have cP:=Hd (λw hS hq=>jg a b c e Sk t x h ta tn v Sl Sn 0 h U0 hp w q s d L hL hS hq hqs hqd);have cA:=Hd (λw=>jT w q);have HX:=Hd (show(⟨⟨a,b,c,e⟩,Sk,t,x,h,ta,tn,.aS,Sl,Sn⟩:DW).step L=((⟨⟨a,b,c,e⟩,Sk,t,x,h,ta,tn,.leave false,Sl,Sn⟩:DW),L.set ((⟨a,b,c,e⟩:Pl).bN Sk 0) h)from rfl);generalize(⟨⟨a,b,c,e⟩,Sk,t,x,h,ta,tn,.aS,Sl,Sn⟩:DW).step L=Z at*;generalize L.set ((⟨a,b,c,e⟩:Pl).bN Sk 0) h=L' at*;clear hp hL;have gd:¬One d q:=λz=>hqd z;have ggd:¬One d g:=λz=>bg.ne hS.ws U0 z;have l0:=hq.lt;have lg:=bg.lt;have x0:=bg.c0;have x7:=hq.c7;go_enter func289,ntmps289;go_upto_region 0 with fail
 go_region_held3 (λw'=>w'.cell? ⟨g,0,none⟩=some (.pointer (some ⟨q,0,none⟩))/\w'.cell? ⟨q,7,none⟩=some ↑h)
  (exact U159)
  (first|(go_at_call 259;refine(cP.o _ U22 U38).mono ?_;rintro ev w1 ⟨rfl,h1,k1⟩;have l1:=nL l0 k1.size;have lg1:=nL lg k1.size))
 all_goals
  have K1:Kept (One d) w w1:=by first|exact k1|exact(Kept.refl _ w).drew.trans k1|exact(Kept.refl _ w).drew.drew.trans k1
  have b1:=K1.blk hq gd;have g1:=K1.blk bg ggd;have yg:=g1.c0;go_upto_region 1 with fail
  go_region_held3 (λw'=>w'.cell? ⟨g,0,none⟩=some (.pointer (some ⟨q,0,none⟩)))
   (exact U159)
   (first|(go_at_call 290;refine(cA.o _).mono ?_;rintro ev w3 ⟨bw,bt,rfl,bbw,bbt,hb3⟩;have lg3:=nL g1.lt hb3.size;have b2:=(by first|exact b1.below hb3 b1.lt|exact b1.drew.below hb3 b1.lt|exact b1.drew.drew.below hb3 b1.lt:af w3 q #[a,b,c,e,Sk,t,x,h,ta,tn,v,.bool Sl,.bool Sn] 229);have z3:=b2.fz;have y10:w3.cell? ⟨q,10,none⟩=some v:=b2.cell 10))
  all_goals
   have B3:Below w1.heap.size w1 w3:=by first|exact hb3|exact(Below.refl _ _).drew.trans hb3|exact(Below.refl _ _).drew.drew.trans hb3
   go_wp2_with fail
   go_end0
   rw[HX.o];have Q1:=b2.set 10 (.func (.func 301) #[] #[.pointer (some ⟨bw,0,none⟩),.pointer (some ⟨bt,0,none⟩)]);have Q2:=(h1.ai B3).far (a:=⟨q,10,none⟩) (λz=>hqs z.symm) (λz=>hqd z.symm) (.func (.func 301) #[] #[.pointer (some ⟨bw,0,none⟩),.pointer (some ⟨bt,0,none⟩)]);have Q3:=(K1.two.trans (Kept.ob B3)).trans (Kept.bT w3 d q 10 (.func (.func 301) #[] #[.pointer (some ⟨bw,0,none⟩),.pointer (some ⟨bt,0,none⟩)]));have Q4:=bbw.far (a:=⟨q,10,none⟩) (bbw.ne b2 U0) (.func (.func 301) #[] #[.pointer (some ⟨bw,0,none⟩),.pointer (some ⟨bt,0,none⟩)]);have Q5:=bbt.far (a:=⟨q,10,none⟩) (bbt.ne b2 U0) (.func (.func 301) #[] #[.pointer (some ⟨bw,0,none⟩),.pointer (some ⟨bt,0,none⟩)])
   exact⟨rfl,⟨_,by first|exact Q1|exact Q1.drew,bw,bt,rfl,by first|exact Q4|exact Q4.drew,by first|exact Q5|exact Q5.drew⟩,by first|exact Q2|exact Q2.drew,by first|exact Q3|exact Q3.drew⟩
theorem Qa(th:Th)(a b c e Sk t x h:Int)(ta:Nat)(tn:Int)(v:Value)(Sl Sn:Bool)(hp:(⟨a,b,c,e⟩:Pl).ok)(w:World)(q s d:Nat)(L:List Int)(hL:(L.length:Int)=(⟨a,b,c,e⟩:Pl).size)(hS:aD w s d L)(hq:af w q #[a,b,c,e,Sk,t,x,h,ta,tn,v,.bool Sl,.bool Sn] 229)(hqs:q≠s)(hqd:q≠d)(g gt:Nat)(bg:af w g #[.pointer (some ⟨q,0,none⟩)] 120)(bh:af w gt #[th.val q] 224):
  Cs 204 #[.pointer (some ⟨s,0,none⟩),.pointer (some ⟨g,0,none⟩),.pointer (some ⟨gt,0,none⟩)] w (.tuple #[]) λw'=>dw w' q ((⟨⟨a,b,c,e⟩,Sk,t,x,h,ta,tn,.ask th,Sl,Sn⟩:DW).step L).1/\aD w' s d ((⟨⟨a,b,c,e⟩,Sk,t,x,h,ta,tn,.ask th,Sl,Sn⟩:DW).step L).2/\Kept (Two d q) w w':=by
 have hmf:=fD;have cB:=Hd (λw=>kK (⟨a,b,c,e⟩:Pl) hp Sk w);have cT:=Hd (λw h=>Nf w s d L ((⟨a,b,c,e⟩:Pl).bN Sk 2) (vo _ hp Sk 2 U0 L hL) h);have e1:=mD (⟨a,b,c,e⟩:Pl) hp Sk 2 U0;have e2:=nD (⟨a,b,c,e⟩:Pl) hp Sk 2 U0;have HX:=Hd (show(⟨⟨a,b,c,e⟩,Sk,t,x,h,ta,tn,.ask th,Sl,Sn⟩:DW).step L=((⟨⟨a,b,c,e⟩,Sk,t,x,h,(⟨a,b,c,e⟩:Pl).bN Sk 2,L.getD ((⟨a,b,c,e⟩:Pl).bN Sk 2) 0,.mine th,Sl,Sn⟩:DW),L.set ((⟨a,b,c,e⟩:Pl).bN Sk 2) (wrap64 (L.getD ((⟨a,b,c,e⟩:Pl).bN Sk 2) 0+1)))from rfl);generalize(⟨⟨a,b,c,e⟩,Sk,t,x,h,ta,tn,.ask th,Sl,Sn⟩:DW).step L=Z at*;generalize L.set ((⟨a,b,c,e⟩:Pl).bN Sk 2) (wrap64 (L.getD ((⟨a,b,c,e⟩:Pl).bN Sk 2) 0+1))=L' at*;generalize L.getD ((⟨a,b,c,e⟩:Pl).bN Sk 2) 0=u at*;generalize(⟨a,b,c,e⟩:Pl).bN Sk 2=k at*;generalize(⟨a,b,c,e⟩:Pl).base Sk=bs at*;clear hp hL;have gd:¬One d q:=λz=>hqd z;have ggd:¬One d g:=λz=>bg.ne hS.ws U0 z;have ghd:¬One d gt:=λz=>bh.ne hS.ws U0 z;have l0:=hq.lt;have lg:=bg.lt;have lt:=bh.lt;have xg:=bg.c0;have x0:=hq.c0;have x1:=hq.c1;have x2:=hq.c2;have x3:=hq.c3;have x4:=hq.c4;go_enter func204,ntmps204;go_upto_region 0 with fail
 go_region_held3 (λw'=>w'.cell? ⟨g,0,none⟩=some (.pointer (some ⟨q,0,none⟩))/\w'.cell? ⟨q,0,none⟩=some ↑a/\w'.cell? ⟨q,1,none⟩=some ↑b/\w'.cell? ⟨q,2,none⟩=some ↑c/\w'.cell? ⟨q,3,none⟩=some ↑e/\w'.cell? ⟨q,4,none⟩=some ↑Sk)
  (exact U159)
  (first|(go_at_call 161;refine(cB.o _).q λw1 Sr=> ?_;have l1:=nL l0 Sr.size;have lg1:=nL lg Sr.size)|(go_at_call 205;(first|rw[e1]|rw[e2]|skip);refine(cT.o _ U33).mono ?_;rintro ev w2 ⟨rfl,h2,k2⟩;have l2:=nL l1 k2.size;have lg2:=nL lg1 k2.size;have b2:=k2.blk (by first|exact hq.below Sr l0|exact hq.drew.below Sr l0|exact hq.drew.drew.below Sr l0:af w1 q #[a,b,c,e,Sk,t,x,h,ta,tn,v,.bool Sl,.bool Sn] 229) gd;have z2:=b2.fz;have y8:=b2.cell 8;have y9:=b2.cell 9))
 all_goals
  have B1:Below w.heap.size w w1:=by first|exact Sr|exact(Below.refl _ _).drew.trans Sr|exact(Below.refl _ _).drew.drew.trans Sr
  have K2:Kept (One d) w w2:=by first|exact(Kept.ob B1).trans k2|exact(Kept.ob B1).drew.trans k2|exact(Kept.ob B1).drew.drew.trans k2
  have g2:=K2.blk bg ggd;have t2:=K2.blk bh ghd;have yg:=g2.c0;have y10:=b2.c10;have ngq:g≠q:=g2.ne b2 U0;go_wp2_with fail
  go_end0
  rw[HX.o];have Q1:=((b2.set 8 ↑k).set 9 ↑u).set 10 (.func (.func 206) #[] #[.pointer (some ⟨g,0,none⟩),.pointer (some ⟨gt,0,none⟩)]);have Q2:=((h2.far (a:=⟨q,8,none⟩) (λz=>hqs z.symm) (λz=>hqd z.symm) ↑k).far (a:=⟨q,9,none⟩) (λz=>hqs z.symm) (λz=>hqd z.symm) ↑u).far (a:=⟨q,10,none⟩) (λz=>hqs z.symm) (λz=>hqd z.symm) (.func (.func 206) #[] #[.pointer (some ⟨g,0,none⟩),.pointer (some ⟨gt,0,none⟩)]);have Q3:=((K2.two.trans (Kept.bT w2 d q 8 ↑k)).trans (Kept.bT _ d q 9 ↑u)).trans (Kept.bT _ d q 10 (.func (.func 206) #[] #[.pointer (some ⟨g,0,none⟩),.pointer (some ⟨gt,0,none⟩)]));have Q4:=((g2.far (a:=⟨q,8,none⟩) (g2.ne b2 U0) ↑k).far (a:=⟨q,9,none⟩) (g2.ne b2 U0) ↑u).far (a:=⟨q,10,none⟩) (g2.ne b2 U0) (.func (.func 206) #[] #[.pointer (some ⟨g,0,none⟩),.pointer (some ⟨gt,0,none⟩)]);have Q5:=((t2.far (a:=⟨q,8,none⟩) (t2.ne b2 U0) ↑k).far (a:=⟨q,9,none⟩) (t2.ne b2 U0) ↑u).far (a:=⟨q,10,none⟩) (t2.ne b2 U0) (.func (.func 206) #[] #[.pointer (some ⟨g,0,none⟩),.pointer (some ⟨gt,0,none⟩)])
  exact⟨rfl,⟨_,by first|exact Q1|exact Q1.drew,g,gt,rfl,by first|exact Q4|exact Q4.drew,by first|exact Q5|exact Q5.drew⟩,by first|exact Q2|exact Q2.drew,by first|exact Q3|exact Q3.drew⟩
theorem Nv(th:Th)(a b c e Sk t x h:Int)(ta:Nat)(tn:Int)(v:Value)(Sl Sn:Bool)(hp:(⟨a,b,c,e⟩:Pl).ok)(w:World)(q s d:Nat)(L:List Int)(hL:(L.length:Int)=(⟨a,b,c,e⟩:Pl).size)(hS:aD w s d L)(hq:af w q #[a,b,c,e,Sk,t,x,h,ta,tn,v,.bool Sl,.bool Sn] 229)(hqs:q≠s)(hqd:q≠d)(hta:ta+1<L.length)(g gt:Nat)(bg:af w g #[.pointer (some ⟨q,0,none⟩)] 120)(bh:af w gt #[th.val q] 224)(hv:v=.func (.func 206) #[] #[.pointer (some ⟨g,0,none⟩),.pointer (some ⟨gt,0,none⟩)]):
  Cs 206 #[.pointer (some ⟨s,0,none⟩),.pointer (some ⟨g,0,none⟩),.pointer (some ⟨gt,0,none⟩)] w (.tuple #[]) λw'=>dw w' q ((⟨⟨a,b,c,e⟩,Sk,t,x,h,ta,tn,.mine th,Sl,Sn⟩:DW).step L).1/\aD w' s d ((⟨⟨a,b,c,e⟩,Sk,t,x,h,ta,tn,.mine th,Sl,Sn⟩:DW).step L).2/\Kept (Two d q) w w':=by
 have hmf:=fD;have cT:=Hd (λw h=>Kr w s d L ta hta (by rw[hL];exact(mR _ hp).2) tn h);have HX:=Hd (show(⟨⟨a,b,c,e⟩,Sk,t,x,h,ta,tn,.mine th,Sl,Sn⟩:DW).step L=if(L.getD (ta+1) 0==tn)=true then((⟨⟨a,b,c,e⟩,Sk,t,x,h,ta,tn,th.nx,Sl,Sn⟩:DW),L)else((⟨⟨a,b,c,e⟩,Sk,t,x,h,ta,tn,.mine th,Sl,Sn⟩:DW),L)from rfl);generalize(⟨⟨a,b,c,e⟩,Sk,t,x,h,ta,tn,.mine th,Sl,Sn⟩:DW).step L=Z at*;generalize L.getD (ta+1) 0=u at*;clear hp hL hta;have HV:=Hd hv;clear hv;have gd:¬One d q:=λz=>hqd z;have l0:=hq.lt;have lg:=bg.lt;have xg:=bg.c0;have x8:=hq.c8;have x9:=hq.c9
 cases hu:(u==tn)
 ·rw[hu]at cT HX
  obtain rfl:Z=((⟨⟨a,b,c,e⟩,Sk,t,x,h,ta,tn,.mine th,Sl,Sn⟩:DW),L):=HX.o;clear HX hu;go_enter func206,ntmps206
  go_wp2_with (go_at_call 207;refine(cT.o _ hS).q λw1 Sr=> ?_)
  go_end0
  exact⟨rfl,⟨v,hq.below Sr l0,g,gt,HV.o,bg.below Sr bg.lt,bh.below Sr bh.lt⟩,hS.ai Sr,Kept.ob Sr⟩
 ·rw[hu]at cT HX
  obtain rfl:Z=((⟨⟨a,b,c,e⟩,Sk,t,x,h,ta,tn,th.nx,Sl,Sn⟩:DW),L):=HX.o;clear HX hu
  cases th
  all_goals
   dsimp only[Th.val]at bh;go_enter func206,ntmps206
   go_wp2_with (go_at_call 207;refine(cT.o _ hS).q λw1 Sr=> ?_;have g1:=bg.below Sr bg.lt;have t1:=bh.below Sr bh.lt;have b1:=hq.below Sr l0;have yg:w1.cell? ⟨g,0,none⟩=some (.pointer (some ⟨q,0,none⟩)):=g1.cell 0;have yt:=t1.cell 0;have z1:=b1.fz;have y10:w1.cell? ⟨q,10,none⟩=some v:=b1.cell 10)
   go_end0
   exact⟨rfl,⟨_,b1.set 10 _,rfl⟩,(hS.ai Sr).far (λz=>hqs z.symm) (λz=>hqd z.symm) _,(Kept.ob Sr).trans (Kept.bT _ _ _ _ _)⟩
theorem JI(kp:Bool)(a b c e Sk t x h:Int)(ta:Nat)(tn:Int)(v:Value)(Sl Sn:Bool)(hp:(⟨a,b,c,e⟩:Pl).ok)(w:World)(q s d:Nat)(L:List Int)(hL:(L.length:Int)=(⟨a,b,c,e⟩:Pl).size)(hS:aD w s d L)(hq:af w q #[a,b,c,e,Sk,t,x,h,ta,tn,v,.bool Sl,.bool Sn] 229)(hqs:q≠s)(hqd:q≠d)(hta:ta+1<L.length)(g gt:Nat)(bg:af w g #[.pointer (some ⟨q,0,none⟩)] 120)(bh:af w gt #[keeps q kp] 224):
  Cs 301 #[.pointer (some ⟨s,0,none⟩),.pointer (some ⟨g,0,none⟩),.pointer (some ⟨gt,0,none⟩)] w (.tuple #[]) λw'=>dw w' q ((⟨⟨a,b,c,e⟩,Sk,t,x,h,ta,tn,.leave kp,Sl,Sn⟩:DW).step L).1/\aD w' s d ((⟨⟨a,b,c,e⟩,Sk,t,x,h,ta,tn,.leave kp,Sl,Sn⟩:DW).step L).2/\Kept (Two d q) w w':=by
 have hmf:=fD;have cT:=Hd (λw h=>De w s d L ta hta (by rw[hL];exact(mR _ hp).2) tn h);have HX:=Hd (show(⟨⟨a,b,c,e⟩,Sk,t,x,h,ta,tn,.leave kp,Sl,Sn⟩:DW).step L=((⟨⟨a,b,c,e⟩,Sk,t,x,h,ta,tn,if kp=true then .takes else .fin,Sl,Sn⟩:DW),L.set (ta+1) (wrap64 (tn+1)))from rfl);generalize(⟨⟨a,b,c,e⟩,Sk,t,x,h,ta,tn,.leave kp,Sl,Sn⟩:DW).step L=Z at*;generalize L.set (ta+1) (wrap64 (tn+1))=L' at*;clear hp hL hta;have gd:¬One d q:=λz=>hqd z;have ggd:¬One d g:=λz=>bg.ne hS.ws U0 z;have ghd:¬One d gt:=λz=>bh.ne hS.ws U0 z;have l0:=hq.lt;have xg:=bg.c0;have x8:=hq.c8;have x9:=hq.c9
 cases kp
 all_goals
  dsimp only[keeps]at bh;simp only[if_true,if_false,Bool.false_eq_true,reduceIte]at bh HX;go_enter func301,ntmps301
  go_wp2_with (go_at_call 302;refine(cT.o _ hS).mono ?_;rintro ev w1 ⟨rfl,h1,k1⟩;have g1:=k1.blk bg ggd;have t1:=k1.blk bh ghd;have b1:=k1.blk hq gd;have yg:w1.cell? ⟨g,0,none⟩=some (.pointer (some ⟨q,0,none⟩)):=g1.cell 0;have yt:=t1.cell 0;have z1:=b1.fz;have y10:w1.cell? ⟨q,10,none⟩=some v:=b1.cell 10)
  go_end0
  rw[HX.o]
  exact⟨rfl,⟨_,b1.set 10 _,rfl⟩,h1.far (λz=>hqs z.symm) (λz=>hqd z.symm) _,k1.two.trans (Kept.bT _ _ _ _ _)⟩
def DW.safe(r:DW)(L:List Int):Prop:=
 match r.nx with
 | .lay=>0<=r.t
 | .takes=>0<=wrap64 (r.t-1)
 | .carries=>0<=r.h
 | .mine _=>r.ta+1<L.length
 | .leave _=>r.ta+1<L.length
 |_=>True
theorem aR(w:World)(q:Nat)(r:DW)(h:dw w q r):
  Cs 133 #[.pointer (some ⟨q,0,none⟩)] w (.bool r.nx.ends) λw'=>w=w':=by
 obtain⟨v,hb,hv⟩:=h;obtain⟨p,Sk,t,x,h,ta,tn,nx,Sl,Sn⟩:=r;dsimp only at*
 cases nx
 case fin=>obtain rfl:=hv;exact xW w q _ hb rfl
 case ask t=>obtain⟨bw,bt,rfl,h1,h2⟩:=hv;exact eB w q _ _ _ _ hb rfl
 case mine t=>obtain⟨bw,bt,rfl,h1,h2⟩:=hv;exact eB w q _ _ _ _ hb rfl
 case leave t=>obtain⟨bw,bt,rfl,h1,h2⟩:=hv;exact eB w q _ _ _ _ hb rfl
 case puts=>obtain⟨bw,rfl,h1⟩:=hv;exact eB w q _ _ _ _ hb rfl
 case aS=>obtain⟨bw,rfl,h1⟩:=hv;exact eB w q _ _ _ _ hb rfl
 all_goals
  obtain rfl:=hv
  exact eB w q _ _ _ _ hb rfl
theorem Er(w:World)(q:Nat)(r:DW)(h:dw w q r):
  Cs 136 #[.pointer (some ⟨q,0,none⟩)] w ↑r.t λw'=>w=w':=by
 obtain⟨v,hb,hv⟩:=h;have x5:=hb.c5;generalize r.t=t at*;go_enter func136,ntmps136;go_wp2_with fail
 go_ret
 exact⟨rfl,rfl⟩
theorem Ed(w:World)(q:Nat)(r:DW)(h:dw w q r):
  Cs 137 #[.pointer (some ⟨q,0,none⟩)] w (.bool r.Sn) λw'=>w=w':=by
 obtain⟨v,hb,hv⟩:=h;have x12:=hb.c12;generalize r.Sn=t at*;go_enter func137,ntmps137;go_wp2_with fail
 go_ret
 exact⟨rfl,rfl⟩
theorem JL(w:World)(q:Nat)(r:DW)(h:dw w q r)(he:r.nx.ends=true):
  Cs 134 #[.pointer (some ⟨q,0,none⟩)] w (.tuple #[.int .i64 (if r.Sl=true then r.x else 0),.bool r.Sl]) λw'=>w=w':=by
 have cE:=Hd (λw h=>aR w q r h);rw[he]at cE;have h0:=h;obtain⟨v,hb,hv⟩:=h;have x11:=hb.c11;have x6:=hb.c6;clear he hb hv;generalize r.Sl=g at*;generalize r.x=x at*
 cases g
 all_goals
  simp only[if_true,if_false,Bool.false_eq_true,reduceIte];go_enter func134,ntmps134
  go_wp2_with (go_at_call 133;refine(cE.o _ h0).r ?_)
  go_ret2
  exact⟨rfl,rfl⟩
theorem yo(a b c e Sk t x h:Int)(ta:Nat)(tn:Int)(Sl Sn:Bool)(hp:(⟨a,b,c,e⟩:Pl).ok)(w:World)(q s d:Nat)(L:List Int)(hL:(L.length:Int)=(⟨a,b,c,e⟩:Pl).size)(hS:aD w s d L)(hI:dw w q (⟨⟨a,b,c,e⟩,Sk,t,x,h,ta,tn,.room,Sl,Sn⟩:DW))(hqs:q≠s)(hqd:q≠d):
  Cs 92 #[.pointer (some ⟨q,0,none⟩),.pointer (some ⟨s,0,none⟩)] w (.bool ((⟨⟨a,b,c,e⟩,Sk,t,x,h,ta,tn,.room,Sl,Sn⟩:DW).step L).1.nx.ends) λw'=>dw w' q ((⟨⟨a,b,c,e⟩,Sk,t,x,h,ta,tn,.room,Sl,Sn⟩:DW).step L).1/\aD w' s d ((⟨⟨a,b,c,e⟩,Sk,t,x,h,ta,tn,.room,Sl,Sn⟩:DW).step L).2/\Kept (Two d q) w w':=by
 have cE:=Hd (λw r h=>aR w q r h);have h0:=hI;obtain⟨v,hb,hv⟩:=hI;obtain rfl:=hv;have cK:=Hd (Ny a b c e Sk t x h ta tn _ Sl Sn hp w q s d L hL hS hb hqs hqd);generalize(⟨⟨a,b,c,e⟩,Sk,t,x,h,ta,tn,.room,Sl,Sn⟩:DW).step L=Z at*;obtain⟨r',L'⟩:=Z;have x10:=hb.cell 10;dsimp only[DW.arr,List.getElem?_toArray,List.getElem?_cons_succ,List.getElem?_cons_zero]at x10;clear hb hp hL;go_enter func92,ntmps92
 go_wp2_with (first|(go_at_call 133;refine(cE.o _ _ U24).r ?_)|(go_at_call 268;refine cK.o.mono ?_;rintro ev w2 ⟨rfl,h2,s2,k2⟩))
 go_ret
 exact⟨rfl,h2,s2,k2⟩
theorem BK(a b c e Sk t x h:Int)(ta:Nat)(tn:Int)(Sl Sn:Bool)(hp:(⟨a,b,c,e⟩:Pl).ok)(w:World)(q s d:Nat)(L:List Int)(hL:(L.length:Int)=(⟨a,b,c,e⟩:Pl).size)(hS:aD w s d L)(hI:dw w q (⟨⟨a,b,c,e⟩,Sk,t,x,h,ta,tn,.lay,Sl,Sn⟩:DW))(hqs:q≠s)(hqd:q≠d)(hs:0<=t):
  Cs 92 #[.pointer (some ⟨q,0,none⟩),.pointer (some ⟨s,0,none⟩)] w (.bool ((⟨⟨a,b,c,e⟩,Sk,t,x,h,ta,tn,.lay,Sl,Sn⟩:DW).step L).1.nx.ends) λw'=>dw w' q ((⟨⟨a,b,c,e⟩,Sk,t,x,h,ta,tn,.lay,Sl,Sn⟩:DW).step L).1/\aD w' s d ((⟨⟨a,b,c,e⟩,Sk,t,x,h,ta,tn,.lay,Sl,Sn⟩:DW).step L).2/\Kept (Two d q) w w':=by
 have cE:=Hd (λw r h=>aR w q r h);have h0:=hI;obtain⟨v,hb,hv⟩:=hI;obtain rfl:=hv;have cK:=Hd (Qb a b c e Sk t x h ta tn _ Sl Sn hp w q s d L hL hS hb hqs hqd hs);generalize(⟨⟨a,b,c,e⟩,Sk,t,x,h,ta,tn,.lay,Sl,Sn⟩:DW).step L=Z at*;obtain⟨r',L'⟩:=Z;have x10:=hb.cell 10;dsimp only[DW.arr,List.getElem?_toArray,List.getElem?_cons_succ,List.getElem?_cons_zero]at x10;clear hb hp hL hs;go_enter func92,ntmps92
 go_wp2_with (first|(go_at_call 133;refine(cE.o _ _ U24).r ?_)|(go_at_call 293;refine cK.o.mono ?_;rintro ev w2 ⟨rfl,h2,s2,k2⟩))
 go_ret
 exact⟨rfl,h2,s2,k2⟩
theorem yc(a b c e Sk t x h:Int)(ta:Nat)(tn:Int)(Sl Sn:Bool)(hp:(⟨a,b,c,e⟩:Pl).ok)(w:World)(q s d:Nat)(L:List Int)(hL:(L.length:Int)=(⟨a,b,c,e⟩:Pl).size)(hS:aD w s d L)(hI:dw w q (⟨⟨a,b,c,e⟩,Sk,t,x,h,ta,tn,.grow,Sl,Sn⟩:DW))(hqs:q≠s)(hqd:q≠d):
  Cs 92 #[.pointer (some ⟨q,0,none⟩),.pointer (some ⟨s,0,none⟩)] w (.bool ((⟨⟨a,b,c,e⟩,Sk,t,x,h,ta,tn,.grow,Sl,Sn⟩:DW).step L).1.nx.ends) λw'=>dw w' q ((⟨⟨a,b,c,e⟩,Sk,t,x,h,ta,tn,.grow,Sl,Sn⟩:DW).step L).1/\aD w' s d ((⟨⟨a,b,c,e⟩,Sk,t,x,h,ta,tn,.grow,Sl,Sn⟩:DW).step L).2/\Kept (Two d q) w w':=by
 have cE:=Hd (λw r h=>aR w q r h);have h0:=hI;obtain⟨v,hb,hv⟩:=hI;obtain rfl:=hv;have cK:=Hd (Nt a b c e Sk t x h ta tn _ Sl Sn hp w q s d L hL hS hb hqs hqd);generalize(⟨⟨a,b,c,e⟩,Sk,t,x,h,ta,tn,.grow,Sl,Sn⟩:DW).step L=Z at*;obtain⟨r',L'⟩:=Z;have x10:=hb.cell 10;dsimp only[DW.arr,List.getElem?_toArray,List.getElem?_cons_succ,List.getElem?_cons_zero]at x10;clear hb hp hL;go_enter func92,ntmps92
 go_wp2_with (first|(go_at_call 133;refine(cE.o _ _ U24).r ?_)|(go_at_call 305;refine cK.o.mono ?_;rintro ev w2 ⟨rfl,h2,s2,k2⟩))
 go_ret
 exact⟨rfl,h2,s2,k2⟩
theorem yj(a b c e Sk t x h:Int)(ta:Nat)(tn:Int)(Sl Sn:Bool)(hp:(⟨a,b,c,e⟩:Pl).ok)(w:World)(q s d:Nat)(L:List Int)(hL:(L.length:Int)=(⟨a,b,c,e⟩:Pl).size)(hS:aD w s d L)(hI:dw w q (⟨⟨a,b,c,e⟩,Sk,t,x,h,ta,tn,.less,Sl,Sn⟩:DW))(hqs:q≠s)(hqd:q≠d):
  Cs 92 #[.pointer (some ⟨q,0,none⟩),.pointer (some ⟨s,0,none⟩)] w (.bool ((⟨⟨a,b,c,e⟩,Sk,t,x,h,ta,tn,.less,Sl,Sn⟩:DW).step L).1.nx.ends) λw'=>dw w' q ((⟨⟨a,b,c,e⟩,Sk,t,x,h,ta,tn,.less,Sl,Sn⟩:DW).step L).1/\aD w' s d ((⟨⟨a,b,c,e⟩,Sk,t,x,h,ta,tn,.less,Sl,Sn⟩:DW).step L).2/\Kept (Two d q) w w':=by
 have cE:=Hd (λw r h=>aR w q r h);have h0:=hI;obtain⟨v,hb,hv⟩:=hI;obtain rfl:=hv;have cK:=Hd (Nu a b c e Sk t x h ta tn _ Sl Sn hp w q s d L hL hS hb hqs hqd);generalize(⟨⟨a,b,c,e⟩,Sk,t,x,h,ta,tn,.less,Sl,Sn⟩:DW).step L=Z at*;obtain⟨r',L'⟩:=Z;have x10:=hb.cell 10;dsimp only[DW.arr,List.getElem?_toArray,List.getElem?_cons_succ,List.getElem?_cons_zero]at x10;clear hb hp hL;go_enter func92,ntmps92
 go_wp2_with (first|(go_at_call 133;refine(cE.o _ _ U24).r ?_)|(go_at_call 264;refine cK.o.mono ?_;rintro ev w2 ⟨rfl,h2,s2,k2⟩))
 go_ret
 exact⟨rfl,h2,s2,k2⟩
theorem vK(a b c e Sk t x h:Int)(ta:Nat)(tn:Int)(Sl Sn:Bool)(hp:(⟨a,b,c,e⟩:Pl).ok)(w:World)(q s d:Nat)(L:List Int)(hL:(L.length:Int)=(⟨a,b,c,e⟩:Pl).size)(hS:aD w s d L)(hI:dw w q (⟨⟨a,b,c,e⟩,Sk,t,x,h,ta,tn,.looks,Sl,Sn⟩:DW))(hqs:q≠s)(hqd:q≠d):
  Cs 92 #[.pointer (some ⟨q,0,none⟩),.pointer (some ⟨s,0,none⟩)] w (.bool ((⟨⟨a,b,c,e⟩,Sk,t,x,h,ta,tn,.looks,Sl,Sn⟩:DW).step L).1.nx.ends) λw'=>dw w' q ((⟨⟨a,b,c,e⟩,Sk,t,x,h,ta,tn,.looks,Sl,Sn⟩:DW).step L).1/\aD w' s d ((⟨⟨a,b,c,e⟩,Sk,t,x,h,ta,tn,.looks,Sl,Sn⟩:DW).step L).2/\Kept (Two d q) w w':=by
 have cE:=Hd (λw r h=>aR w q r h);have h0:=hI;obtain⟨v,hb,hv⟩:=hI;obtain rfl:=hv;have cK:=Hd (JJ a b c e Sk t x h ta tn _ Sl Sn hp w q s d L hL hS hb hqs hqd);generalize(⟨⟨a,b,c,e⟩,Sk,t,x,h,ta,tn,.looks,Sl,Sn⟩:DW).step L=Z at*;obtain⟨r',L'⟩:=Z;have x10:=hb.cell 10;dsimp only[DW.arr,List.getElem?_toArray,List.getElem?_cons_succ,List.getElem?_cons_zero]at x10;clear hb hp hL;go_enter func92,ntmps92
 go_wp2_with (first|(go_at_call 133;refine(cE.o _ _ U24).r ?_)|(go_at_call 291;refine cK.o.mono ?_;rintro ev w2 ⟨rfl,h2,s2,k2⟩))
 go_ret
 exact⟨rfl,h2,s2,k2⟩
theorem vL(a b c e Sk t x h:Int)(ta:Nat)(tn:Int)(Sl Sn:Bool)(hp:(⟨a,b,c,e⟩:Pl).ok)(w:World)(q s d:Nat)(L:List Int)(hL:(L.length:Int)=(⟨a,b,c,e⟩:Pl).size)(hS:aD w s d L)(hI:dw w q (⟨⟨a,b,c,e⟩,Sk,t,x,h,ta,tn,.takes,Sl,Sn⟩:DW))(hqs:q≠s)(hqd:q≠d)(hs:0<=wrap64 (t-1)):
  Cs 92 #[.pointer (some ⟨q,0,none⟩),.pointer (some ⟨s,0,none⟩)] w (.bool ((⟨⟨a,b,c,e⟩,Sk,t,x,h,ta,tn,.takes,Sl,Sn⟩:DW).step L).1.nx.ends) λw'=>dw w' q ((⟨⟨a,b,c,e⟩,Sk,t,x,h,ta,tn,.takes,Sl,Sn⟩:DW).step L).1/\aD w' s d ((⟨⟨a,b,c,e⟩,Sk,t,x,h,ta,tn,.takes,Sl,Sn⟩:DW).step L).2/\Kept (Two d q) w w':=by
 have cE:=Hd (λw r h=>aR w q r h);have h0:=hI;obtain⟨v,hb,hv⟩:=hI;obtain rfl:=hv;have cK:=Hd (JK a b c e Sk t x h ta tn _ Sl Sn hp w q s d L hL hS hb hqs hqd hs);generalize(⟨⟨a,b,c,e⟩,Sk,t,x,h,ta,tn,.takes,Sl,Sn⟩:DW).step L=Z at*;obtain⟨r',L'⟩:=Z;have x10:=hb.cell 10;dsimp only[DW.arr,List.getElem?_toArray,List.getElem?_cons_succ,List.getElem?_cons_zero]at x10;clear hb hp hL hs;go_enter func92,ntmps92
 go_wp2_with (first|(go_at_call 133;refine(cE.o _ _ U24).r ?_)|(go_at_call 303;refine cK.o.mono ?_;rintro ev w2 ⟨rfl,h2,s2,k2⟩))
 go_ret
 exact⟨rfl,h2,s2,k2⟩
theorem qw(a b c e Sk t x h:Int)(ta:Nat)(tn:Int)(Sl Sn:Bool)(hp:(⟨a,b,c,e⟩:Pl).ok)(w:World)(q s d:Nat)(L:List Int)(hL:(L.length:Int)=(⟨a,b,c,e⟩:Pl).size)(hS:aD w s d L)(hI:dw w q (⟨⟨a,b,c,e⟩,Sk,t,x,h,ta,tn,.aX,Sl,Sn⟩:DW))(hqs:q≠s)(hqd:q≠d):
  Cs 92 #[.pointer (some ⟨q,0,none⟩),.pointer (some ⟨s,0,none⟩)] w (.bool ((⟨⟨a,b,c,e⟩,Sk,t,x,h,ta,tn,.aX,Sl,Sn⟩:DW).step L).1.nx.ends) λw'=>dw w' q ((⟨⟨a,b,c,e⟩,Sk,t,x,h,ta,tn,.aX,Sl,Sn⟩:DW).step L).1/\aD w' s d ((⟨⟨a,b,c,e⟩,Sk,t,x,h,ta,tn,.aX,Sl,Sn⟩:DW).step L).2/\Kept (Two d q) w w':=by
 have cE:=Hd (λw r h=>aR w q r h);have h0:=hI;obtain⟨v,hb,hv⟩:=hI;obtain rfl:=hv;have cK:=Hd (xU a b c e Sk t x h ta tn _ Sl Sn hp w q s d L hL hS hb hqs hqd);generalize(⟨⟨a,b,c,e⟩,Sk,t,x,h,ta,tn,.aX,Sl,Sn⟩:DW).step L=Z at*;obtain⟨r',L'⟩:=Z;have x10:=hb.cell 10;dsimp only[DW.arr,List.getElem?_toArray,List.getElem?_cons_succ,List.getElem?_cons_zero]at x10;clear hb hp hL;go_enter func92,ntmps92
 go_wp2_with (first|(go_at_call 133;refine(cE.o _ _ U24).r ?_)|(go_at_call 304;refine cK.o.mono ?_;rintro ev w2 ⟨rfl,h2,s2,k2⟩))
 go_ret
 exact⟨rfl,h2,s2,k2⟩
theorem oL(a b c e Sk t x h:Int)(ta:Nat)(tn:Int)(Sl Sn:Bool)(hp:(⟨a,b,c,e⟩:Pl).ok)(w:World)(q s d:Nat)(L:List Int)(hL:(L.length:Int)=(⟨a,b,c,e⟩:Pl).size)(hS:aD w s d L)(hI:dw w q (⟨⟨a,b,c,e⟩,Sk,t,x,h,ta,tn,.aW,Sl,Sn⟩:DW))(hqs:q≠s)(hqd:q≠d):
  Cs 92 #[.pointer (some ⟨q,0,none⟩),.pointer (some ⟨s,0,none⟩)] w (.bool ((⟨⟨a,b,c,e⟩,Sk,t,x,h,ta,tn,.aW,Sl,Sn⟩:DW).step L).1.nx.ends) λw'=>dw w' q ((⟨⟨a,b,c,e⟩,Sk,t,x,h,ta,tn,.aW,Sl,Sn⟩:DW).step L).1/\aD w' s d ((⟨⟨a,b,c,e⟩,Sk,t,x,h,ta,tn,.aW,Sl,Sn⟩:DW).step L).2/\Kept (Two d q) w w':=by
 have cE:=Hd (λw r h=>aR w q r h);have h0:=hI;obtain⟨v,hb,hv⟩:=hI;obtain rfl:=hv;have cK:=Hd (vE a b c e Sk t x h ta tn _ Sl Sn hp w q s d L hL hS hb hqs hqd);generalize(⟨⟨a,b,c,e⟩,Sk,t,x,h,ta,tn,.aW,Sl,Sn⟩:DW).step L=Z at*;obtain⟨r',L'⟩:=Z;have x10:=hb.cell 10;dsimp only[DW.arr,List.getElem?_toArray,List.getElem?_cons_succ,List.getElem?_cons_zero]at x10;clear hb hp hL;go_enter func92,ntmps92
 go_wp2_with (first|(go_at_call 133;refine(cE.o _ _ U24).r ?_)|(go_at_call 307;refine cK.o.mono ?_;rintro ev w2 ⟨rfl,h2,s2,k2⟩))
 go_ret
 exact⟨rfl,h2,s2,k2⟩
theorem nH(a b c e Sk t x h:Int)(ta:Nat)(tn:Int)(Sl Sn:Bool)(hp:(⟨a,b,c,e⟩:Pl).ok)(w:World)(q s d:Nat)(L:List Int)(hL:(L.length:Int)=(⟨a,b,c,e⟩:Pl).size)(hS:aD w s d L)(hI:dw w q (⟨⟨a,b,c,e⟩,Sk,t,x,h,ta,tn,.aI,Sl,Sn⟩:DW))(hqs:q≠s)(hqd:q≠d):
  Cs 92 #[.pointer (some ⟨q,0,none⟩),.pointer (some ⟨s,0,none⟩)] w (.bool ((⟨⟨a,b,c,e⟩,Sk,t,x,h,ta,tn,.aI,Sl,Sn⟩:DW).step L).1.nx.ends) λw'=>dw w' q ((⟨⟨a,b,c,e⟩,Sk,t,x,h,ta,tn,.aI,Sl,Sn⟩:DW).step L).1/\aD w' s d ((⟨⟨a,b,c,e⟩,Sk,t,x,h,ta,tn,.aI,Sl,Sn⟩:DW).step L).2/\Kept (Two d q) w w':=by
 have cE:=Hd (λw r h=>aR w q r h);have h0:=hI;obtain⟨v,hb,hv⟩:=hI;obtain rfl:=hv;have cK:=Hd (uq a b c e Sk t x h ta tn _ Sl Sn hp w q s d L hL hS hb hqs hqd);generalize(⟨⟨a,b,c,e⟩,Sk,t,x,h,ta,tn,.aI,Sl,Sn⟩:DW).step L=Z at*;obtain⟨r',L'⟩:=Z;have x10:=hb.cell 10;dsimp only[DW.arr,List.getElem?_toArray,List.getElem?_cons_succ,List.getElem?_cons_zero]at x10;clear hb hp hL;go_enter func92,ntmps92
 go_wp2_with (first|(go_at_call 133;refine(cE.o _ _ U24).r ?_)|(go_at_call 308;refine cK.o.mono ?_;rintro ev w2 ⟨rfl,h2,s2,k2⟩))
 go_ret
 exact⟨rfl,h2,s2,k2⟩
theorem vI(a b c e Sk t x h:Int)(ta:Nat)(tn:Int)(Sl Sn:Bool)(hp:(⟨a,b,c,e⟩:Pl).ok)(w:World)(q s d:Nat)(L:List Int)(hL:(L.length:Int)=(⟨a,b,c,e⟩:Pl).size)(hS:aD w s d L)(hI:dw w q (⟨⟨a,b,c,e⟩,Sk,t,x,h,ta,tn,.first,Sl,Sn⟩:DW))(hqs:q≠s)(hqd:q≠d):
  Cs 92 #[.pointer (some ⟨q,0,none⟩),.pointer (some ⟨s,0,none⟩)] w (.bool ((⟨⟨a,b,c,e⟩,Sk,t,x,h,ta,tn,.first,Sl,Sn⟩:DW).step L).1.nx.ends) λw'=>dw w' q ((⟨⟨a,b,c,e⟩,Sk,t,x,h,ta,tn,.first,Sl,Sn⟩:DW).step L).1/\aD w' s d ((⟨⟨a,b,c,e⟩,Sk,t,x,h,ta,tn,.first,Sl,Sn⟩:DW).step L).2/\Kept (Two d q) w w':=by
 have cE:=Hd (λw r h=>aR w q r h);have h0:=hI;obtain⟨v,hb,hv⟩:=hI;obtain rfl:=hv;have cK:=Hd (JH a b c e Sk t x h ta tn _ Sl Sn hp w q s d L hL hS hb hqs hqd);generalize(⟨⟨a,b,c,e⟩,Sk,t,x,h,ta,tn,.first,Sl,Sn⟩:DW).step L=Z at*;obtain⟨r',L'⟩:=Z;have x10:=hb.cell 10;dsimp only[DW.arr,List.getElem?_toArray,List.getElem?_cons_succ,List.getElem?_cons_zero]at x10;clear hb hp hL;go_enter func92,ntmps92
 go_wp2_with (first|(go_at_call 133;refine(cE.o _ _ U24).r ?_)|(go_at_call 132;refine cK.o.mono ?_;rintro ev w2 ⟨rfl,h2,s2,k2⟩))
 go_ret
 exact⟨rfl,h2,s2,k2⟩
theorem uy(a b c e Sk t x h:Int)(ta:Nat)(tn:Int)(Sl Sn:Bool)(hp:(⟨a,b,c,e⟩:Pl).ok)(w:World)(q s d:Nat)(L:List Int)(hL:(L.length:Int)=(⟨a,b,c,e⟩:Pl).size)(hS:aD w s d L)(hI:dw w q (⟨⟨a,b,c,e⟩,Sk,t,x,h,ta,tn,.claims,Sl,Sn⟩:DW))(hqs:q≠s)(hqd:q≠d):
  Cs 92 #[.pointer (some ⟨q,0,none⟩),.pointer (some ⟨s,0,none⟩)] w (.bool ((⟨⟨a,b,c,e⟩,Sk,t,x,h,ta,tn,.claims,Sl,Sn⟩:DW).step L).1.nx.ends) λw'=>dw w' q ((⟨⟨a,b,c,e⟩,Sk,t,x,h,ta,tn,.claims,Sl,Sn⟩:DW).step L).1/\aD w' s d ((⟨⟨a,b,c,e⟩,Sk,t,x,h,ta,tn,.claims,Sl,Sn⟩:DW).step L).2/\Kept (Two d q) w w':=by
 have cE:=Hd (λw r h=>aR w q r h);have h0:=hI;obtain⟨v,hb,hv⟩:=hI;obtain rfl:=hv;have cK:=Hd (Ec a b c e Sk t x h ta tn _ Sl Sn hp w q s d L hL hS hb hqs hqd);generalize(⟨⟨a,b,c,e⟩,Sk,t,x,h,ta,tn,.claims,Sl,Sn⟩:DW).step L=Z at*;obtain⟨r',L'⟩:=Z;have x10:=hb.cell 10;dsimp only[DW.arr,List.getElem?_toArray,List.getElem?_cons_succ,List.getElem?_cons_zero]at x10;clear hb hp hL;go_enter func92,ntmps92
 go_wp2_with (first|(go_at_call 133;refine(cE.o _ _ U24).r ?_)|(go_at_call 209;refine cK.o.mono ?_;rintro ev w2 ⟨rfl,h2,s2,k2⟩))
 go_ret
 exact⟨rfl,h2,s2,k2⟩
theorem vH(a b c e Sk t x h:Int)(ta:Nat)(tn:Int)(Sl Sn:Bool)(hp:(⟨a,b,c,e⟩:Pl).ok)(w:World)(q s d:Nat)(L:List Int)(hL:(L.length:Int)=(⟨a,b,c,e⟩:Pl).size)(hS:aD w s d L)(hI:dw w q (⟨⟨a,b,c,e⟩,Sk,t,x,h,ta,tn,.finds,Sl,Sn⟩:DW))(hqs:q≠s)(hqd:q≠d):
  Cs 92 #[.pointer (some ⟨q,0,none⟩),.pointer (some ⟨s,0,none⟩)] w (.bool ((⟨⟨a,b,c,e⟩,Sk,t,x,h,ta,tn,.finds,Sl,Sn⟩:DW).step L).1.nx.ends) λw'=>dw w' q ((⟨⟨a,b,c,e⟩,Sk,t,x,h,ta,tn,.finds,Sl,Sn⟩:DW).step L).1/\aD w' s d ((⟨⟨a,b,c,e⟩,Sk,t,x,h,ta,tn,.finds,Sl,Sn⟩:DW).step L).2/\Kept (Two d q) w w':=by
 have cE:=Hd (λw r h=>aR w q r h);have h0:=hI;obtain⟨v,hb,hv⟩:=hI;obtain rfl:=hv;have cK:=Hd (JG a b c e Sk t x h ta tn _ Sl Sn hp w q s d L hL hS hb hqs hqd);generalize(⟨⟨a,b,c,e⟩,Sk,t,x,h,ta,tn,.finds,Sl,Sn⟩:DW).step L=Z at*;obtain⟨r',L'⟩:=Z;have x10:=hb.cell 10;dsimp only[DW.arr,List.getElem?_toArray,List.getElem?_cons_succ,List.getElem?_cons_zero]at x10;clear hb hp hL;go_enter func92,ntmps92
 go_wp2_with (first|(go_at_call 133;refine(cE.o _ _ U24).r ?_)|(go_at_call 260;refine cK.o.mono ?_;rintro ev w2 ⟨rfl,h2,s2,k2⟩))
 go_ret
 exact⟨rfl,h2,s2,k2⟩
theorem rH(a b c e Sk t x h:Int)(ta:Nat)(tn:Int)(Sl Sn:Bool)(hp:(⟨a,b,c,e⟩:Pl).ok)(w:World)(q s d:Nat)(L:List Int)(hL:(L.length:Int)=(⟨a,b,c,e⟩:Pl).size)(hS:aD w s d L)(hI:dw w q (⟨⟨a,b,c,e⟩,Sk,t,x,h,ta,tn,.carries,Sl,Sn⟩:DW))(hqs:q≠s)(hqd:q≠d)(hs:0<=h):
  Cs 92 #[.pointer (some ⟨q,0,none⟩),.pointer (some ⟨s,0,none⟩)] w (.bool ((⟨⟨a,b,c,e⟩,Sk,t,x,h,ta,tn,.carries,Sl,Sn⟩:DW).step L).1.nx.ends) λw'=>dw w' q ((⟨⟨a,b,c,e⟩,Sk,t,x,h,ta,tn,.carries,Sl,Sn⟩:DW).step L).1/\aD w' s d ((⟨⟨a,b,c,e⟩,Sk,t,x,h,ta,tn,.carries,Sl,Sn⟩:DW).step L).2/\Kept (Two d q) w w':=by
 have cE:=Hd (λw r h=>aR w q r h);have h0:=hI;obtain⟨v,hb,hv⟩:=hI;obtain rfl:=hv;have cK:=Hd (Bz a b c e Sk t x h ta tn _ Sl Sn hp w q s d L hL hS hb hqs hqd hs);generalize(⟨⟨a,b,c,e⟩,Sk,t,x,h,ta,tn,.carries,Sl,Sn⟩:DW).step L=Z at*;obtain⟨r',L'⟩:=Z;have x10:=hb.cell 10;dsimp only[DW.arr,List.getElem?_toArray,List.getElem?_cons_succ,List.getElem?_cons_zero]at x10;clear hb hp hL hs;go_enter func92,ntmps92
 go_wp2_with (first|(go_at_call 133;refine(cE.o _ _ U24).r ?_)|(go_at_call 288;refine cK.o.mono ?_;rintro ev w2 ⟨rfl,h2,s2,k2⟩))
 go_ret
 exact⟨rfl,h2,s2,k2⟩
theorem yn(a b c e Sk t x h:Int)(ta:Nat)(tn:Int)(Sl Sn:Bool)(hp:(⟨a,b,c,e⟩:Pl).ok)(w:World)(q s d:Nat)(L:List Int)(hL:(L.length:Int)=(⟨a,b,c,e⟩:Pl).size)(hS:aD w s d L)(hI:dw w q (⟨⟨a,b,c,e⟩,Sk,t,x,h,ta,tn,.puts,Sl,Sn⟩:DW))(hqs:q≠s)(hqd:q≠d):
  Cs 92 #[.pointer (some ⟨q,0,none⟩),.pointer (some ⟨s,0,none⟩)] w (.bool ((⟨⟨a,b,c,e⟩,Sk,t,x,h,ta,tn,.puts,Sl,Sn⟩:DW).step L).1.nx.ends) λw'=>dw w' q ((⟨⟨a,b,c,e⟩,Sk,t,x,h,ta,tn,.puts,Sl,Sn⟩:DW).step L).1/\aD w' s d ((⟨⟨a,b,c,e⟩,Sk,t,x,h,ta,tn,.puts,Sl,Sn⟩:DW).step L).2/\Kept (Two d q) w w':=by
 have cE:=Hd (λw r h=>aR w q r h);have h0:=hI;obtain⟨v,hb,hv⟩:=hI;obtain⟨g,rfl,hg⟩:=hv;have cK:=Hd (Nw a b c e Sk t x h ta tn _ Sl Sn hp w q s d L hL hS hb hqs hqd g hg);generalize(⟨⟨a,b,c,e⟩,Sk,t,x,h,ta,tn,.puts,Sl,Sn⟩:DW).step L=Z at*;obtain⟨r',L'⟩:=Z;have x10:=hb.cell 10;dsimp only[DW.arr,List.getElem?_toArray,List.getElem?_cons_succ,List.getElem?_cons_zero]at x10;clear hb hp hL hg;go_enter func92,ntmps92
 go_wp2_with (first|(go_at_call 133;refine(cE.o _ _ U24).r ?_)|(go_at_call 309;refine cK.o.mono ?_;rintro ev w2 ⟨rfl,h2,s2,k2⟩))
 go_ret
 exact⟨rfl,h2,s2,k2⟩
theorem rJ(a b c e Sk t x h:Int)(ta:Nat)(tn:Int)(Sl Sn:Bool)(hp:(⟨a,b,c,e⟩:Pl).ok)(w:World)(q s d:Nat)(L:List Int)(hL:(L.length:Int)=(⟨a,b,c,e⟩:Pl).size)(hS:aD w s d L)(hI:dw w q (⟨⟨a,b,c,e⟩,Sk,t,x,h,ta,tn,.aS,Sl,Sn⟩:DW))(hqs:q≠s)(hqd:q≠d):
  Cs 92 #[.pointer (some ⟨q,0,none⟩),.pointer (some ⟨s,0,none⟩)] w (.bool ((⟨⟨a,b,c,e⟩,Sk,t,x,h,ta,tn,.aS,Sl,Sn⟩:DW).step L).1.nx.ends) λw'=>dw w' q ((⟨⟨a,b,c,e⟩,Sk,t,x,h,ta,tn,.aS,Sl,Sn⟩:DW).step L).1/\aD w' s d ((⟨⟨a,b,c,e⟩,Sk,t,x,h,ta,tn,.aS,Sl,Sn⟩:DW).step L).2/\Kept (Two d q) w w':=by
 have cE:=Hd (λw r h=>aR w q r h);have h0:=hI;obtain⟨v,hb,hv⟩:=hI;obtain⟨g,rfl,hg⟩:=hv;have cK:=Hd (BD a b c e Sk t x h ta tn _ Sl Sn hp w q s d L hL hS hb hqs hqd g hg);generalize(⟨⟨a,b,c,e⟩,Sk,t,x,h,ta,tn,.aS,Sl,Sn⟩:DW).step L=Z at*;obtain⟨r',L'⟩:=Z;have x10:=hb.cell 10;dsimp only[DW.arr,List.getElem?_toArray,List.getElem?_cons_succ,List.getElem?_cons_zero]at x10;clear hb hp hL hg;go_enter func92,ntmps92
 go_wp2_with (first|(go_at_call 133;refine(cE.o _ _ U24).r ?_)|(go_at_call 289;refine cK.o.mono ?_;rintro ev w2 ⟨rfl,h2,s2,k2⟩))
 go_ret
 exact⟨rfl,h2,s2,k2⟩
theorem BJ(t0:Th)(a b c e Sk t x h:Int)(ta:Nat)(tn:Int)(Sl Sn:Bool)(hp:(⟨a,b,c,e⟩:Pl).ok)(w:World)(q s d:Nat)(L:List Int)(hL:(L.length:Int)=(⟨a,b,c,e⟩:Pl).size)(hS:aD w s d L)(hI:dw w q (⟨⟨a,b,c,e⟩,Sk,t,x,h,ta,tn,.ask t0,Sl,Sn⟩:DW))(hqs:q≠s)(hqd:q≠d):
  Cs 92 #[.pointer (some ⟨q,0,none⟩),.pointer (some ⟨s,0,none⟩)] w (.bool ((⟨⟨a,b,c,e⟩,Sk,t,x,h,ta,tn,.ask t0,Sl,Sn⟩:DW).step L).1.nx.ends) λw'=>dw w' q ((⟨⟨a,b,c,e⟩,Sk,t,x,h,ta,tn,.ask t0,Sl,Sn⟩:DW).step L).1/\aD w' s d ((⟨⟨a,b,c,e⟩,Sk,t,x,h,ta,tn,.ask t0,Sl,Sn⟩:DW).step L).2/\Kept (Two d q) w w':=by
 have cE:=Hd (λw r h=>aR w q r h);have h0:=hI;obtain⟨v,hb,hv⟩:=hI;obtain⟨g,gt,rfl,hg,ht⟩:=hv;have cK:=Hd (Qa t0 a b c e Sk t x h ta tn _ Sl Sn hp w q s d L hL hS hb hqs hqd g gt hg ht);generalize(⟨⟨a,b,c,e⟩,Sk,t,x,h,ta,tn,.ask t0,Sl,Sn⟩:DW).step L=Z at*;obtain⟨r',L'⟩:=Z;have x10:=hb.cell 10;dsimp only[DW.arr,List.getElem?_toArray,List.getElem?_cons_succ,List.getElem?_cons_zero]at x10;clear hb hp hL hg ht;go_enter func92,ntmps92
 go_wp2_with (first|(go_at_call 133;refine(cE.o _ _ U24).r ?_)|(go_at_call 204;refine cK.o.mono ?_;rintro ev w2 ⟨rfl,h2,s2,k2⟩))
 go_ret
 exact⟨rfl,h2,s2,k2⟩
theorem ym(t0:Th)(a b c e Sk t x h:Int)(ta:Nat)(tn:Int)(Sl Sn:Bool)(hp:(⟨a,b,c,e⟩:Pl).ok)(w:World)(q s d:Nat)(L:List Int)(hL:(L.length:Int)=(⟨a,b,c,e⟩:Pl).size)(hS:aD w s d L)(hI:dw w q (⟨⟨a,b,c,e⟩,Sk,t,x,h,ta,tn,.mine t0,Sl,Sn⟩:DW))(hqs:q≠s)(hqd:q≠d)(hs:ta+1<L.length):
  Cs 92 #[.pointer (some ⟨q,0,none⟩),.pointer (some ⟨s,0,none⟩)] w (.bool ((⟨⟨a,b,c,e⟩,Sk,t,x,h,ta,tn,.mine t0,Sl,Sn⟩:DW).step L).1.nx.ends) λw'=>dw w' q ((⟨⟨a,b,c,e⟩,Sk,t,x,h,ta,tn,.mine t0,Sl,Sn⟩:DW).step L).1/\aD w' s d ((⟨⟨a,b,c,e⟩,Sk,t,x,h,ta,tn,.mine t0,Sl,Sn⟩:DW).step L).2/\Kept (Two d q) w w':=by
 have cE:=Hd (λw r h=>aR w q r h);have h0:=hI;obtain⟨v,hb,hv⟩:=hI;obtain⟨g,gt,rfl,hg,ht⟩:=hv;have cK:=Hd (Nv t0 a b c e Sk t x h ta tn _ Sl Sn hp w q s d L hL hS hb hqs hqd hs g gt hg ht rfl);generalize(⟨⟨a,b,c,e⟩,Sk,t,x,h,ta,tn,.mine t0,Sl,Sn⟩:DW).step L=Z at*;obtain⟨r',L'⟩:=Z;have x10:=hb.cell 10;dsimp only[DW.arr,List.getElem?_toArray,List.getElem?_cons_succ,List.getElem?_cons_zero]at x10;clear hb hp hL hs hg ht;go_enter func92,ntmps92
 go_wp2_with (first|(go_at_call 133;refine(cE.o _ _ U24).r ?_)|(go_at_call 206;refine cK.o.mono ?_;rintro ev w2 ⟨rfl,h2,s2,k2⟩))
 go_ret
 exact⟨rfl,h2,s2,k2⟩
theorem vJ(t0:Bool)(a b c e Sk t x h:Int)(ta:Nat)(tn:Int)(Sl Sn:Bool)(hp:(⟨a,b,c,e⟩:Pl).ok)(w:World)(q s d:Nat)(L:List Int)(hL:(L.length:Int)=(⟨a,b,c,e⟩:Pl).size)(hS:aD w s d L)(hI:dw w q (⟨⟨a,b,c,e⟩,Sk,t,x,h,ta,tn,.leave t0,Sl,Sn⟩:DW))(hqs:q≠s)(hqd:q≠d)(hs:ta+1<L.length):
  Cs 92 #[.pointer (some ⟨q,0,none⟩),.pointer (some ⟨s,0,none⟩)] w (.bool ((⟨⟨a,b,c,e⟩,Sk,t,x,h,ta,tn,.leave t0,Sl,Sn⟩:DW).step L).1.nx.ends) λw'=>dw w' q ((⟨⟨a,b,c,e⟩,Sk,t,x,h,ta,tn,.leave t0,Sl,Sn⟩:DW).step L).1/\aD w' s d ((⟨⟨a,b,c,e⟩,Sk,t,x,h,ta,tn,.leave t0,Sl,Sn⟩:DW).step L).2/\Kept (Two d q) w w':=by
 have cE:=Hd (λw r h=>aR w q r h);have h0:=hI;obtain⟨v,hb,hv⟩:=hI;obtain⟨g,gt,rfl,hg,ht⟩:=hv;have cK:=Hd (JI t0 a b c e Sk t x h ta tn _ Sl Sn hp w q s d L hL hS hb hqs hqd hs g gt hg ht);generalize(⟨⟨a,b,c,e⟩,Sk,t,x,h,ta,tn,.leave t0,Sl,Sn⟩:DW).step L=Z at*;obtain⟨r',L'⟩:=Z;have x10:=hb.cell 10;dsimp only[DW.arr,List.getElem?_toArray,List.getElem?_cons_succ,List.getElem?_cons_zero]at x10;clear hb hp hL hs hg ht;go_enter func92,ntmps92
 go_wp2_with (first|(go_at_call 133;refine(cE.o _ _ U24).r ?_)|(go_at_call 301;refine cK.o.mono ?_;rintro ev w2 ⟨rfl,h2,s2,k2⟩))
 go_ret
 exact⟨rfl,h2,s2,k2⟩
def ou(t:Int):Int:=min (max t 0) 1099511627776
def DW.make(p:Pl)(Sk t x:Int)(n:Nx):DW:=⟨p,Sk,ou t,x,0,0,0,n,false,false⟩
theorem nI(a b c e Sk t:Int)(w:World):
  Calls prog 130 #[.agg #[a,b,c,e],Sk,t] w λev w'=>
   ∃q,ev=.returned (.pointer (some ⟨q,0,none⟩))/\af w' q ((DW.make ⟨a,b,c,e⟩ Sk t 0 .fin).arr .nilFunc) 229 /\w.heap.size<=q/\Below w.heap.size w w':=by
 have HT:=Hd (show ou t=min (max t 0) 1099511627776 from rfl);unfold DW.make;generalize ou t=T at*;go_enter func130,ntmps130;go_wp2_with fail
 all_goals
  go_ret
  refine⟨_,rfl,?_,by simp,(Ba _).alloc U8 _⟩;have E:=HT.o
  first
   |(obtain rfl:T=0:=by omega
     exact af.new _ _ _ _ U8)
   |(obtain rfl:T=1099511627776:=by omega
     exact af.new _ _ _ _ U8)
   |(obtain rfl:T=t:=by omega
     exact af.new _ _ _ _ U8)
def DW.push(p:Pl)(Sk t x:Int):DW:=DW.make p Sk t x .room
def DW.pop(p:Pl)(Sk t:Int):DW:=DW.make p Sk t 0 .less
def DW.dM(p:Pl)(Sk:Int):DW:=DW.make p Sk 0 0 (.ask .first)
theorem BI(a b c e Sk t x:Int)(w:World):
  Calls prog 225 #[.agg #[a,b,c,e],Sk,t,x] w λev w'=>
   ∃q,ev=.returned (.pointer (some ⟨q,0,none⟩))/\dw w' q (DW.push ⟨a,b,c,e⟩ Sk t x)/\w.heap.size<=q/\Below w.heap.size w w':=by
 have hmf:=fD;have cW:=Hd (λw=>nI a b c e Sk t w);unfold DW.push DW.make;unfold DW.make at cW;generalize ou t=T at*;go_enter func225,ntmps225
 go_wp2_with (go_at_call 130;refine(cW.o _).mono ?_;rintro ev w1 ⟨q,rfl,b1,hq,Sr⟩;have z1:=b1.fz;have y6:=b1.c6;have y10:w1.cell? ⟨q,10,none⟩=some .nilFunc:=b1.cell 10)
 go_ret
 have B1:Below w.heap.size w w1:=(Ba _).trans (Sr.mono U8);have hq':w.heap.size<=q:=nT U8 hq
 exact⟨q,rfl,⟨_,(b1.set 6 ↑x).set 10 (mv 268 q),rfl⟩,hq',(B1.setCell (p:=⟨q,6,none⟩) hq' _).setCell (p:=⟨q,10,none⟩) hq' _⟩
theorem Eh(a b c e Sk t:Int)(w:World):
  Calls prog 218 #[.agg #[a,b,c,e],Sk,t] w λev w'=>
   ∃q,ev=.returned (.pointer (some ⟨q,0,none⟩))/\dw w' q (DW.pop ⟨a,b,c,e⟩ Sk t)/\w.heap.size<=q/\Below w.heap.size w w':=by
 have hmf:=fD;have cW:=Hd (λw=>nI a b c e Sk t w);unfold DW.pop DW.make;unfold DW.make at cW;generalize ou t=T at*;go_enter func218,ntmps218
 go_wp2_with (go_at_call 130;refine(cW.o _).mono ?_;rintro ev w1 ⟨q,rfl,b1,hq,Sr⟩;have z1:=b1.fz;have y10:w1.cell? ⟨q,10,none⟩=some .nilFunc:=b1.cell 10)
 go_ret
 have B1:Below w.heap.size w w1:=(Ba _).trans (Sr.mono U8);have hq':w.heap.size<=q:=nT U8 hq
 exact⟨q,rfl,⟨_,b1.set 10 (mv 264 q),rfl⟩,hq',B1.setCell (p:=⟨q,10,none⟩) hq' _⟩
theorem xZ(a b c e Sk:Int)(w:World):
  Calls prog 90 #[.agg #[a,b,c,e],Sk] w λev w'=>
   ∃q,ev=.returned (.pointer (some ⟨q,0,none⟩))/\dw w' q (DW.dM ⟨a,b,c,e⟩ Sk)/\w.heap.size<=q/\Below w.heap.size w w':=by
 have hmf:=fD;have cW:=Hd (λw=>nI a b c e Sk 0 w);have cA:=Hd (λw q=>sJ w q (.func 132) #[.pointer (some ⟨q,0,none⟩)] #[]);unfold DW.dM DW.make;unfold DW.make at cW;generalize ou 0=T at*;go_enter func90,ntmps90
 go_wp2_with (first|(go_at_call 130;refine(cW.o _).mono ?_;rintro ev w1 ⟨q,rfl,b1,hq,Sr⟩)|(go_at_call 131;refine(cA.o _ _).mono ?_;rintro ev w2 ⟨bw,bt,rfl,bbw,bbt,hb2⟩;have b2:=b1.below hb2 b1.lt;have z2:=b2.fz;have y10:w2.cell? ⟨q,10,none⟩=some .nilFunc:=b2.cell 10))
 go_ret
 have B1:Below w.heap.size w w1:=(Ba _).trans (Sr.mono U8);have hq':w.heap.size<=q:=nT U8 hq
 exact⟨q,rfl,⟨_,b2.set 10 _,bw,bt,rfl,bbw.far (bbw.ne b2 U0) _,bbt.far (bbt.ne b2 U0) _⟩,hq',(B1.trans (hb2.mono B1.size)).setCell (p:=⟨q,10,none⟩) hq' _⟩
theorem Ep(r:DW)(hp:r.p.ok)(w:World)(q s d:Nat)(L:List Int)(hL:(L.length:Int)=r.p.size)(hS:aD w s d L)(hI:dw w q r)(hqs:q≠s)(hqd:q≠d)(hs:r.safe L):
  Cs 92 #[.pointer (some ⟨q,0,none⟩),.pointer (some ⟨s,0,none⟩)] w (.bool (r.step L).1.nx.ends) λw'=>dw w' q (r.step L).1/\aD w' s d (r.step L).2/\Kept (Two d q) w w':=by
 obtain⟨⟨a,b,c,e⟩,Sk,t,x,h,ta,tn,nx,Sl,Sn⟩:=r
 cases nx
 case room=>exact yo a b c e Sk t x h ta tn Sl Sn hp w q s d L hL hS hI hqs hqd
 case lay=>exact BK a b c e Sk t x h ta tn Sl Sn hp w q s d L hL hS hI hqs hqd hs
 case grow=>exact yc a b c e Sk t x h ta tn Sl Sn hp w q s d L hL hS hI hqs hqd
 case less=>exact yj a b c e Sk t x h ta tn Sl Sn hp w q s d L hL hS hI hqs hqd
 case looks=>exact vK a b c e Sk t x h ta tn Sl Sn hp w q s d L hL hS hI hqs hqd
 case takes=>exact vL a b c e Sk t x h ta tn Sl Sn hp w q s d L hL hS hI hqs hqd hs
 case aX=>exact qw a b c e Sk t x h ta tn Sl Sn hp w q s d L hL hS hI hqs hqd
 case ask t0=>exact BJ t0 a b c e Sk t x h ta tn Sl Sn hp w q s d L hL hS hI hqs hqd
 case mine t0=>exact ym t0 a b c e Sk t x h ta tn Sl Sn hp w q s d L hL hS hI hqs hqd hs
 case aW=>exact oL a b c e Sk t x h ta tn Sl Sn hp w q s d L hL hS hI hqs hqd
 case aI=>exact nH a b c e Sk t x h ta tn Sl Sn hp w q s d L hL hS hI hqs hqd
 case puts=>exact yn a b c e Sk t x h ta tn Sl Sn hp w q s d L hL hS hI hqs hqd
 case leave t0=>exact vJ t0 a b c e Sk t x h ta tn Sl Sn hp w q s d L hL hS hI hqs hqd hs
 case first=>exact vI a b c e Sk t x h ta tn Sl Sn hp w q s d L hL hS hI hqs hqd
 case claims=>exact uy a b c e Sk t x h ta tn Sl Sn hp w q s d L hL hS hI hqs hqd
 case finds=>exact vH a b c e Sk t x h ta tn Sl Sn hp w q s d L hL hS hI hqs hqd
 case aS=>exact rJ a b c e Sk t x h ta tn Sl Sn hp w q s d L hL hS hI hqs hqd
 case carries=>exact rH a b c e Sk t x h ta tn Sl Sn hp w q s d L hL hS hI hqs hqd hs
 case fin=>
  have cE:=Hd (λw hz=>aR w q ⟨⟨a,b,c,e⟩,Sk,t,x,h,ta,tn,.fin,Sl,Sn⟩ hz);dsimp only[Nx.ends]at cE;have HX:(⟨⟨a,b,c,e⟩,Sk,t,x,h,ta,tn,.fin,Sl,Sn⟩:DW).step L=(⟨⟨a,b,c,e⟩,Sk,t,x,h,ta,tn,.fin,Sl,Sn⟩,L):=rfl;rw[HX];clear HX;dsimp only[Nx.ends];generalize(⟨⟨a,b,c,e⟩,Sk,t,x,h,ta,tn,.fin,Sl,Sn⟩:DW)=R at*;clear hp hL hs;go_enter func92,ntmps92
  go_wp2_with (go_at_call 133;refine(cE.o _ hI).r ?_)
  go_ret
  exact⟨rfl,hI,hS,Kept.refl _ _⟩
end Go.Proofs.YteiignfflbmafaaGreat.Tp
