/- TopOne, part 27. -/
import Derived.Test.YteiignfflbmafaaGreatQ24
import Derived.Test.YteiignfflbmafaaGreatQ25
import Derived.Test.YteiignfflbmafaaGreatRows
import Derived.WalkKit
import Derived.ProofKit
import Derived.OpenShut
import Derived.SizedLaws
import Derived.Carry
import Derived.Deep.SlicePairs
import Derived.Lib.SmallJoins
set_option linter.unusedVariables false
set_option linter.unusedSimpArgs false
set_option maxRecDepth 100000
set_option maxHeartbeats 8000000
namespace Go.Proofs.YteiignfflbmafaaGreat.Frame
open Go.ChangeShapes Go.WideShapes Go.ChangeAt Go.RowKit
section
theorem Sq:ownKnob Tryz.prog.godebug=none:=by kernel_rfl
theorem laidOut:laidOutB Tryz.prog=true:=by kernel_rfl
section
variable {H:Type} {enc:TypeId×Value->H} {P:Program}
theorem trodAll_below(hl:laidOutB P=true){W W':World}(hb:Below W.heap.size W W'):
  ∀{ts:List TypeId} {vs:List Value} {ds:List (DataW H)} {ps:List MemPlace},ts.all (λt=>P.readableRec t&&decide (t<P.types.size))=true->
   DataW.TrodAll enc P W 0 (λ_=>true) true ts vs ds ps->(∀x∈ps,x.block<W.heap.size)->
   DataW.TrodAll enc P W' 0 (λb=>decide (b<W.heap.size)) true ts vs ds ps
 |[],_,_,_,_,h,_=>by
  obtain⟨rfl,rfl,rfl⟩:=trodAll_nil h
  exact rfl
 |t::ts,_,_,_,hr,h,hlt=>by
  obtain⟨v,vs1,d,ds1,a,b,rfl,rfl,rfl,h1,h2⟩:=trodAll_cons h;simp only[List.all_cons,Bool.and_eq_true,decide_eq_true_eq]at hr;have hr2:ts.all (λt=>P.readableRec t&&decide (t<P.types.size))=true:=by simpa using hr.2
  exact trodAll_cons_mk (Below.trod hl hr.1.1 hr.1.2 h1 hb (λx hx=>hlt x (List.mem_append_left _ hx))) (trodAll_below hl hb hr2 h2 (λx hx=>hlt x (List.mem_append_right _ hx)))
end
section
variable {C:Checked} {H:Type} {enc:TypeId×Value->H}
theorem law_lift{os:Os}{F:FuncId}{fn:Func}{s:ChangeSpec}{T:TypeId}
  (Sq:ownKnob C.prog.godebug=none) (R9:os.Started) (noInit:C.prog.inits.idxOf? F=none) (hfn:C.prog.funcs[F]? =some fn) (hl:laidOutB C.prog=true)
  (witness:∃(w:World) (tape:Tape) (i:Input),w.os=os/\(w.forCall tape i).Shaped C.prog/\i.vars=[]/\Input.okWide C.prog (w.forCall tape i) .any w.heap.size F i/\
   s.pre6 enc C.prog fn [] false (w.forCall tape i).memory i.args/\Assume.holds {} C.prog (lone (Frame.enter C.prog F i.args .normal) [] (w.forCall tape i)))
  (hv:s.vars=[]) (hT:fn.resultTypes= #[T]) (hTb:C.prog.underlying T=some .bool)
  (hr:fn.params.toList.all (λt=>C.prog.readableRec t&&decide (t<C.prog.types.size))=true)
  (hs:∀ds:List (DataW H),ds.length=fn.params.toList.length->(s.fn H (ds++[])).results=[.lit (.bool true)]/\(s.fn H (ds++[])).args=ds/\(s.fn H (ds++[])).vars=[])
  (walk:∀(W:World) (base:Nat) (args:Array Value) (ds:List (DataW H)) (p:List MemPlace),
   (∀(j:Nat) t v,fn.params[j]? =some t->args[j]? =some v->Value.okWide C.prog W .any base t v)->
   DataW.TrodAll enc C.prog W 0 (λ_=>true) true fn.params.toList args.toList ds p->(∀x∈p,x.block<W.heap.size)->
   (DataW.weightsEach C.prog fn.params.toList ds).all (· <=reachBytes)=true->
   Calls C.prog F args W λe W'=>e=.returned (.bool true)/\Below W.heap.size W W'):
  ReturnsInHanded {} C os F .any (s.pre6 enc C.prog fn [] false) (s.post enc C.prog fn false true false false):=by
 refine returnsInHanded_of_change_sized Sq R9 noInit hfn witness ?_;intro W base args ds gs before hval hW _ hsz _;have hW':=hW;obtain⟨p,q,hA,hV,rfl,_,_⟩:=hW;rw[hv]at hV;obtain⟨rfl,rfl⟩:=trodVars_none hV;have hlt:∀x∈p,x.block<W.heap.size:=λx hx=>hW'.lt x (by simpa using hx);have hsz':(DataW.weightsEach C.prog fn.params.toList ds).all (· <=reachBytes)=true:=by
  have e:s.plain.varTypes C.prog=[]:=by simp[ChangeSpec.plain,DataSpec.varTypes,hv]
  rw[e]at hsz
  simpa using hsz
 have hlen:∀{ts:List TypeId} {vs:List Value} {ds:List (DataW H)} {ps:List MemPlace},DataW.TrodAll enc C.prog W 0 (λ_=>true) true ts vs ds ps->ds.length=ts.length:=by
  intro ts
  induction ts with
  |nil=>intro vs ds ps h;obtain⟨_,rfl,_⟩:=trodAll_nil h;rfl
  |cons t ts ih=>intro vs ds ps h;obtain⟨v,vs1,d,ds1,a,b,rfl,rfl,rfl,h1,h2⟩:=trodAll_cons h;simp[ih h2]
 obtain⟨e1,e2,e3⟩:=hs ds (hlen hA);refine(walk W base args ds p hval hA hlt hsz').mono λe W' ⟨he,hb⟩=>?_;subst he;refine⟨_,rfl,ds,[],_,[],p,[],hW',?_,?_,?_,hb.frame _,λh=>by cases h⟩
 ·rw[e1,hT]
  exact trodAll_mk1 (shut_bool hTb true)
 ·rw[e2]
  exact trodAll_below hl hb hr hA hlt
 ·rw[e3,hv]
  exact rfl
end
end
end Go.Proofs.YteiignfflbmafaaGreat.Frame
namespace Go.Proofs.YteiignfflbmafaaGreat.Tp
open Go.Proofs.Tryz
open Go.RowKit Go.Proofs.YteiignfflbmafaaGreat.Tok
theorem Us29 {p:Prop} (h:p:=by
 clear ord;go_upto_region 20 with fail
 go_quiet (fail)
 have CZ:=Hd (show fJ (wr.drewN nq) (.slice (some ⟨b,o,none⟩) l.length cap) l/\Below w.heap.size w (wr.drewN nq)from⟨CY.out.1.ai (below_drewN (Below.refl _ _) nq) nr,below_drewN CY.out.2 nq⟩);generalize wr.drewN nq=w9 at*;go_wp2_with fail
 go_roundw
 case rel=>exact⟨j+1,J1,by first|rw[hwj]|simp,CZ.out⟩
 case measure=>first|exact M3.out|(rw[hwj];simpa using M3.out)):p:=h
def oO(w:World)(v:Value)(n:Nat):Prop:=∃A cap,v=.slice A n cap/\(0<n->∃b o,A=some ⟨b,o,none⟩/\b<w.heap.size/\∀i,i<n->∃x y:Int,w.cell? ⟨b,o+i*2,none⟩=some ↑x/\w.cell? ⟨b,o+i*2+1,none⟩=some ↑y)
theorem Ck{z:Lay}{w:World}{M M':MS}(R:fM z w M)(mq lb cap:Nat)(cs:Array Value)(B:gK z mq lb M.ws.length cap cs)(a v:Int)(hf:M.step a v=some M'):Calls prog 9 #[ptr mq,.agg #[a,v]] w λev w'=>Mh ev/\fM z w' M':=by
 by_cases ho:M.co.over=true
 ·have e:M'=M:=by
   unfold MS.step at hf;rw[if_pos ho]at hf
   cases hf;rfl
  subst e
  exact(yG R mq lb cap cs B a v ho).mono (λev w' h=>⟨⟨_,h.1⟩,h.2⟩)
 ·exact(wB R mq lb cap cs B a v (by simpa using ho) hf).mono (λev w' h=>⟨⟨_,h.1⟩,h.2⟩)
theorem fM.Jm{z:Lay}{w:World}{M:MS}(R:fM z w M):Below z.B z.w0 w:=by
 obtain⟨bk,ov,gv,g,R⟩:=R
 exact R.ai
theorem AB{w:World}{base:Nat}{v:Value}{l:List Ev}(h:w.ownsRow base 52 4 v l.length (l.flatMap Ev.cells)):fJ w v l:=by
 obtain⟨A,cap,e⟩:=ownsRow_form h;refine⟨A,cap,e,λhp=>?_⟩;obtain⟨g,cap',e1,ob,hc⟩:=eO h hp;rw[e1]at e
 cases e
 obtain⟨_,cs,hb⟩:=dY h (by rw[e1];rfl);refine⟨g,0,rfl,hb.lt,λi hi=>?_⟩;have q:=λj (hj:j<4) u (hu:(l[i]).cells[j]? =some u)=>hc (4*i+j) u (by rw[flat_get Ev.cells 4 (λ_=>rfl) _ i j hi hj];exact hu);rw[Nat.zero_add,show i*4=4*i by omega]
 exact⟨q 0 U0 _ rfl,q 1 U0 _ rfl,q 2 U0 _ rfl,q 3 U0 _ rfl⟩
structure Dz(z:Lay)(n:Nat)(wr:World)(M:MS)(k:Nat):Prop where
 R:fM z wr M
 I:MInv M (1+10*k)
 len:M.ws.length=n
def QZ(w:World)(M:Int)(fv:Value)(code:List (List Is))(IA:Option Addr)(Sv:Nat)(input:List Int):Prop:=aP w fv code/\aV w (.slice IA input.length Sv) input/\(input.length=0->IA=none->Sv=0)
theorem Gg{w wr:World}{z:Lay}{M:MS}{v:Value}{n:Nat}(h:oO w v n)(R:fM z wr M)(B:Below w.heap.size w z.w0)(hB:w.heap.size<=z.B):oO wr v n:=by
 obtain⟨A,cap,e,hc⟩:=h;have b2:=R.Jm;refine⟨A,cap,e,λhp=>?_⟩;obtain⟨b,o,e2,hb,q⟩:=hc hp;refine⟨b,o,e2,by have:=B.size;have:=b2.size;omega,λi hi=>?_⟩;obtain⟨x,y,q1,q2⟩:=q i hi
 exact⟨x,y,kb b2 (by show b<z.B;omega) (kb B hb q1),kb b2 (by show b<z.B;omega) (kb B hb q2)⟩
theorem QF{k n:Nat}(h:k<n)(hn:n<=3000):(1+10*(k:Int))+10<=90000:=by omega
theorem Dz.next{z:Lay}{n:Nat}{wr:World}{M:MS}{k:Nat}(h:Dz z n wr M k){m:Nat}(hk:k<m)(hm:m<=3000)(a v:Int):∃M',M.step a v=some M'/\∀w',fM z w' M'->Dz z n w' M' (k+1):=by
 obtain⟨M',e,l,I⟩:=h.I.step (QF hk hm) a v;refine⟨M',e,λw' R=>⟨R,?_,l.trans h.len⟩⟩
 have:1+10*(((k+1:Nat):Int))=1+10*(k:Int)+10:=by omega
 rw[this]
 exact I
theorem PQ.th{w wr:World}{gp gq:Nat}{M:Int}{fv:Value}{p:Pl}{aj:Int}{fold lazy:Bool}(h:PQ w wr gp gq M fv p aj fold lazy)(hg:w.heap.size<=gq):PQ w (wr.setCell ⟨gq,1,none⟩ (.int .i64 1)) gp gq M fv {p with th:=1} aj fold lazy:=
 ⟨h.pp.far (λe=>by have e:gp=gq:=e;subst e;exact absurd (h.pp.type h.pq) U0) _,h.pq.set 1 _,h.B.setCell hg _⟩
theorem FJ{l:List Ev}(h:(l.length:Int)<=90000):l.length<=1000000:=by omega
theorem Ct{a b:Int}(h:a<=b):¬(b<a):=by omega
theorem Nh{n:Nat}(h:¬3000<n):¬((3000:Int)<(n:Int)):=by omega
theorem Jn{n:Nat}(h:3000<n):(3000:Int)<(n:Int):=by omega
theorem Ph(cw:∀w,Cs 6 #[] w (.bool true) λw'=>Below w.heap.size w w')
  (cS:∀(w:World)(v:Value)(l:List Ev),fJ w v l->l.length<=1000000->cZ l->Cs 15 #[v,(1:Int)] w (.bool true) λw'=>Below w.heap.size w w')
  (w:World) (M:Int) (fv:Value) (code:List (List Is)) (IA:Option Addr) (Sv:Nat) (input:List Int) (ha:QZ w M fv code IA Sv input) (p:Pl) (aj:Int) (fold lazy:Bool) (sv:Value) (n:Nat) (hs:oO w sv n):
  Cs 4 #[.agg #[M,fv],.slice IA input.length Sv,gU p aj fold lazy,sv] w (.bool true) λw'=>Below w.heap.size w w':=by
 obtain⟨hF,hI,hA⟩:=ha;obtain⟨FA,Su,rfl⟩:=hF.form;have hs0:=hs;obtain⟨SA,scap,rfl,_⟩:=hs0;have cw:=Hd cw;have cS:=Hd cS;have bp:=af.new w #[M,.slice FA code.length Su] 24 _ rfl;have bq:=af.new (w.alloc (.cells #[M,.slice FA code.length Su] 24)) #[p.wk,p.th,p.fr,p.dq,aj,.bool fold,.bool lazy] 27 _ rfl;have bp:=bp.alloc (.cells #[p.wk,p.th,p.fr,p.dq,aj,.bool fold,.bool lazy] 27);have B0:Below w.heap.size w ((w.alloc (.cells #[M,.slice FA code.length Su] 24)).alloc (.cells #[p.wk,p.th,p.fr,p.dq,aj,.bool fold,.bool lazy] 27)):=(Ba _).alloc U8 _;simp only[World.size_alloc]at bp bq;have HC0:=Hd (PQ.mk bp bq B0);have HF:=Hd hF;have HI:=Hd hI;have HA:=Hd hA;have HS:=Hd hs;have GQ:=Hd (Nat.le_succ w.heap.size);clear hF hI hA hs bp bq B0;go_enter func4,ntmps4;go_upto_region 1 with fail;generalize((w.alloc (.cells #[M,.slice FA code.length Su] 24)).alloc (.cells #[p.wk,p.th,p.fr,p.dq,aj,.bool fold,.bool lazy] 27))=W at*;generalize hgp:w.heap.size=gp at*;generalize hgq:gp+1=gq at*
 go_upto_region 3 with(go_at_call 6;refine(cw.o _).q λw1 Sr=> ?_)
 have HC1:=Hd (HC0.o.ai Sr);clear HC0 Sr cw;obtain⟨x0,x1,x2,x3,x4,x5,x6,x7,x8⟩:=HC1.o.cells;have xf:=HC1.o.pq.fz;go_upto_region 4 with fail;have gq0:w.heap.size<=gq:=by rw[<-hgq,hgp];exact Nat.le_succ _
 have HC2:=Hd (HC1.o.th gq0);clear x0 x1 x2 x3 x4 x5 x6 x7 x8 xf HC1 gq0;generalize w1.setCell ⟨gq,1,none⟩ (.int .i64 1)=W2 at*;obtain⟨x0,x1,x2,x3,x4,x5,x6,x7,x8⟩:=HC2.o.cells;have cB:=Hd (DI W2 M (.slice FA code.length Su) code (HF.o.ai HC2.o.B) IA Sv input (HI.o.ai HC2.o.B nr) HA.o {p with th:=1} aj fold lazy);have B2:=Hd HC2.o.B;clear HF HI HA
 by_cases hn:3000<n
 ·have hn':=Jn hn
  clear hn
  go_wp2_with (go_at_call 8;refine cB.o.mono ?_;rintro ev w3 (⟨rfl,hb3⟩|⟨mq,z,lb,cap5,cs,D,rfl,pk,ho,R,MB,EB,EL⟩))
  all_goals go_ret
  ·exact⟨rfl,B2.o.trans (hb3.mono B2.o.size)⟩
  ·exact⟨rfl,(B2.o.trans (EB.mono B2.o.size)).trans (R.Jm.mono (nT B2.o.size EL))⟩
 have hn':=Nh hn;have HN:=Hd (Nat.le_of_not_lt hn);clear hn
 go_wp2_with (go_at_call 8;refine cB.o.mono ?_;rintro ev w3 (⟨rfl,hb3⟩|⟨mq,z,lb,cap5,cs,D,rfl,pk,ho,R,MB,EB,EL⟩))
 ·go_ret
  exact⟨rfl,B2.o.trans (hb3.mono B2.o.size)⟩
 have S0:=Hd (Dz.mk (k:=0) R (JU _ pk rfl aj ho fold lazy code D) (show((List.range p.wk.toNat).map WS.first).length=p.wk.toNat by simp));have EW:=Hd (B2.o.trans (EB.mono B2.o.size));have EV:=Hd (nT B2.o.size EL);have MB:=Hd MB;clear R pk ho EB EL cB x0 x1 x2 x3 x4 x5 x6 x7 x8
 go_loopw [10] (λi wr=>∃(k:Nat) (Mk:MS),k<=n/\i=.int .i64 k/\Dz z p.wk.toNat wr Mk k) (λi _=>n-(intOf i).toNat)
 case atStart=>exact⟨0,_,n0 _,rfl,S0.out⟩
 case round=>
  obtain⟨k,Mk,hk,rfl,T⟩:=hrel
  by_cases hlt:k<n
  ·have hw:wrap64 ((k:Int)+1)=((k+1:Nat):Int):=iN hlt (nT HN.o U0)
   have hlt':(k:Int)<(n:Int):=jJ hlt;obtain⟨_,_,e,hq⟩:=Gg HS.o T.R EW.out EV.out
   cases e
   obtain⟨b,o,rfl,hb,q⟩:=hq (tX hlt);obtain⟨x,y,q0,q1⟩:=q k hlt;have M2:=Hd (iM hlt);have K1:k+1<=n:=hlt;obtain⟨M',hst,hnx⟩:=T.next hlt HN.o x y;have cM:=Hd (Ck T.R mq lb cap5 cs (by rw[T.len];exact MB.out) x y hst);have NX:=Hd hnx;clear q hq T hst hnx hk S0 HS hb;clear hlt
   go_wp2_with (go_at_call 9;refine cM.o.mono ?_;rintro ev w4 ⟨⟨r,rfl⟩,R4⟩;have T4:=Hd (NX.out _ R4);clear R4)
   go_roundw
   case rel=>exact⟨k+1,_,K1,by first|rw[hw]|simp,T4.out⟩
   case measure=>first|exact M2.out|(rw[hw];simpa using M2.out)
  ·obtain rfl:k=n:=Nat.le_antisymm hk (Nat.le_of_not_lt hlt)
   have hge:¬((k:Int)<(k:Int)):=Int.lt_irrefl _;obtain⟨hlo,hlp,hln⟩:=T.I.lg;have cE:=Hd (qJ T.R mq lb cap5 cs (by rw[T.len];exact MB.out) (FJ hln));have BT:=Hd (EW.out.trans (T.R.Jm.mono EV.out));have HL:=Hd hlo;have HB:=Hd (show ∀e∈Mk.co.log,0<=e.loop/\e.loop<=1000000 from λe he=>⟨hlo.ge e he,Int.le_trans (hlp e he) U0⟩);have HE:=Hd (FJ hln);clear T hlo hlp hln HS S0 hk hlt;generalize Mk.co.log=l at*;have hm:=Ao HL.o l.length;have LO:=Hd (λi j (hi:i<l.length) (hj:j<i)=>(Cf HL.o i j hi hj))
   go_wp2_with (first|(go_at_call 13;refine cE.o.mono ?_;rintro ev w4 ⟨v,rfl,ho2,hb4⟩;have EA:=Hd (AB ho2);have B4:=Hd (BT.o.trans (hb4.mono BT.o.size));clear ho2 hb4)|(go_at_call 14;refine(Am _ _ l EA.out HE.o HB.o).q λw5 hb5=> ?_;have EA5:=Hd (EA.out.ai hb5 nr);have B5:=Hd (B4.o.trans (hb5.mono B4.o.size));clear hb5))
   clear hm;generalize fV l l.length=mo at*;obtain⟨EvA,cap,rfl,_⟩:=EA5.out;clear cE EA B4 BT
   go_loopw [12] (λi wr=>∃(k:Nat),k<=l.length/\i=.int .i64 k/\fJ wr (.slice EvA l.length cap) l/\Below w.heap.size w wr) (λi _=>l.length-(intOf i).toNat)
   case atStart=>exact⟨0,n0 _,rfl,EA5.out,B5.o⟩
   case round=>
    obtain⟨i,hi,rfl,CE⟩:=hrel;have CE:=Hd CE
    by_cases hlt:i<l.length
    ·have hw:wrap64 ((i:Int)+1)=((i+1:Nat):Int):=iN hlt HE.o
     have hlt':(i:Int)<(l.length:Int):=jJ hlt;have M2:=Hd (iM hlt);have K1:i+1<=l.length:=hlt;have HT:=Hd hlt;clear hlt hi;go_wp2_with fail
     go_loopw [13] (λk wi=>∃(j:Nat),j<=i/\k=.int .i64 j/\fJ wi (.slice EvA l.length cap) l/\Below w.heap.size w wi) (λk _=>i-(intOf k).toNat)
     case atStart=>exact⟨0,n0 _,rfl,CE.out⟩
     case round=>
      obtain⟨j,hj,rfl,CY⟩:=hrel;have CY:=Hd CY
      by_cases hji:j<i
      ·have hwj:wrap64 ((j:Int)+1)=((j+1:Nat):Int):=iN hji (Nat.le_of_lt (nL HT.o HE.o))
       have hji':(j:Int)<(i:Int):=jJ hji;have M3:=Hd (iM hji);have J1:j+1<=i:=hji;have hjn:(j:Int)<(l.length:Int):=NY (Nat.lt_trans hji HT.o);have hin:(i:Int)<(l.length:Int):=NY HT.o;obtain⟨b,o,rfl,r0,r1,r2⟩:=CY.out.1.at_ j (Nat.lt_trans hji HT.o);obtain⟨_,_,e1,q0,q1,q2⟩:=CY.out.1.at_ i HT.o
       cases e1
       have ord:=LO.out i j HT.o hji;rw[<-oV HT.o,<-oV (Nat.lt_trans hji HT.o)]at ord;clear hj CE;clear hji;generalize jK l i=y at*;generalize jK l j=x at*;obtain⟨xk,xl,xi,xs⟩:=x;obtain⟨yk,yl,yi,ys⟩:=y;dsimp only at r0 r1 r2 q0 q1 q2 ord
       by_cases lp:xl=yl
       ·subst lp
        have oi:=Ct (ord rfl)
        exact Us29
       ·exact Us29
      ·obtain rfl:j=i:=Nat.le_antisymm hj (Nat.le_of_not_lt hji)
       have hge:¬((j:Int)<(j:Int)):=Int.lt_irrefl _;clear CE hj hji
       exact Us76
    ·obtain rfl:i=l.length:=Nat.le_antisymm hi (Nat.le_of_not_lt hlt)
     have hge:¬((l.length:Int)<(l.length:Int)):=Int.lt_irrefl _;have cT:=Hd (cS.o _ _ l CE.out.1 HE.o HL.o);have BF:=Hd CE.out.2;clear CE hi hlt cS
     go_wp2_with (go_at_call 15;refine cT.o.q λw6 hb6=> ?_)
     go_ret
     exact⟨rfl,BF.o.trans (hb6.mono BF.o.size)⟩
end Go.Proofs.YteiignfflbmafaaGreat.Tp
namespace Go.Proofs.YteiignfflbmafaaGreat.Tp
open Go.Proofs.Tryz
open Go.ChangeShapes Go.WideShapes Go.ChangeAt Go.RowKit Go.Proofs.YteiignfflbmafaaGreat.Tok
theorem yP{H:Type}{enc:TypeId×Value->H}{P:Program}{W:World}{base:Nat}{T E:TypeId}{f0 f1:Field}{v:Value}{d:DataW H}{p:List MemPlace}
  (hT:P.underlying T=some (.slice E)) (hE:P.underlying E=some (.struct #[f0,f1])) (ce:P.cellsOf E=2) (o0:f0.offset=0) (o1:f1.offset=1) (c0:P.cellsOf f0.type=1) (c1:P.cellsOf f1.type=1)
  (t0:P.underlying f0.type=some (.int .i64)) (t1:P.underlying f1.type=some (.int .i64))
  (hv:Value.okWide P W .any base T v) (hd:DataW.Trod enc P W 0 (λ_=>true) true T v d p) (hlt:∀x∈p,x.block<W.heap.size):
  ∃n,oO W v n:=by
 obtain⟨a0,len,cap,rfl⟩:=okWide_slice hT hv;obtain⟨fuel,hf⟩:=hd
 rcases Go.Deep.open_slice_pairs hT hE ce o0 o1 c0 c1 hf with⟨hcs,hx⟩|⟨a,len',cap',m,n,V0,V1,D0,D1,P0,P1,hcs,_,hl,hm,hmm,hx,hcell⟩
 ·simp[Value.cells]at hcs
  obtain⟨rfl,rfl,rfl⟩:=hcs
  exact⟨0,none,0,rfl,λh=>absurd h U8⟩
 ·simp[Value.cells]at hcs
  obtain⟨rfl,rfl,rfl⟩:=hcs;have hlm:len<=m:=by rw[hmm];split<;>omega
  refine⟨len,some a,cap,rfl,λhp=>?_⟩;obtain⟨b,off,spot⟩:=a;have hspot:spot=none:=by simpa[Addr.add]using World.cell?_spot (hcell 0 U2).1
  subst hspot;have hpl:p=MemPlace.row ⟨b,off,none⟩ (m*2)++(List.range m).flatMap λi=>P0 i++P1 i:=by simpa using congrArg Prod.snd hx
  refine⟨b,off,rfl,hlt (.cell b off) U76,λj hj=>?_⟩;have h2:=(hcell j U2).1;have h3:=(hcell j U2).2.1;obtain⟨x,hx,_,_⟩:=DataW.trod_int t0 (hcell j U2).2.2.1;obtain⟨y,hy,_,_⟩:=DataW.trod_int t1 (hcell j U2).2.2.2;simp only[List.cons.injEq,and_true]at hx hy;rw[Addr.add_lit,hx]at h2;rw[Addr.add_lit,<-Nat.add_assoc,hy]at h3
  exact⟨x,y,h2,h3⟩
theorem wF{H:Type}{enc:TypeId×Value->H}{P:Program}{W:World}{base:Nat}{T E:TypeId}{v:Value}{d:DataW H}{p:List MemPlace}
  (hT:P.underlying T=some (.slice E)) (ce:P.cellsOf E=1) (t0:P.underlying E=some (.int .i64))
  (hv:Value.okWide P W .any base T v) (hd:DataW.Trod enc P W 0 (λ_=>true) true T v d p) (hlt:∀x∈p,x.block<W.heap.size):
  ∃A cap l,v=.slice A l.length cap/\aV W (.slice A l.length cap) l/\(l.length=0->A=none->cap=0):=by
 obtain⟨a0,len,cap,rfl⟩:=okWide_slice hT hv;obtain⟨fuel,hf⟩:=hd
 rcases Go.Deep.open_slice1 hT ce hf with⟨hcs,hx⟩|⟨a,len',cap',m,n,V,D,Pl,hcs,_,hl,hm,hmm,hx,hcell⟩
 ·simp[Value.cells]at hcs
  obtain⟨rfl,rfl,rfl⟩:=hcs
  exact⟨none,0,[],rfl,⟨none,0,rfl,λh=>absurd h U8⟩,λ_ _=>rfl⟩
 ·simp[Value.cells]at hcs
  obtain⟨rfl,rfl,rfl⟩:=hcs;have hlm:len<=m:=by rw[hmm];split<;>omega
  have h0:∀i,i<m->V i=.int .i64 (intOf (V i)):=by
   intro i hi;obtain⟨z,hz,_,_⟩:=DataW.trod_int t0 (hcell i hi).2;simp only[List.cons.injEq,and_true]at hz;rw[hz];rfl
  have hlen:((List.range len).map λi=>intOf (V i)).length=len:=by simp
  refine⟨some a,cap,(List.range len).map λi=>intOf (V i),by rw[hlen],⟨some a,cap,rfl,λhp=>?_⟩,λ_ h=>(Option.some_ne_none _ h).elim⟩;rw[hlen]at hp;obtain⟨b,off,spot⟩:=a;have hspot:spot=none:=by simpa[Addr.add]using World.cell?_spot (hcell 0 U2).1
  subst hspot;have hpl:p=MemPlace.row ⟨b,off,none⟩ m++(List.range m).flatMap Pl:=by simpa using congrArg Prod.snd hx
  refine⟨b,off,rfl,hlt (.cell b off) U76,λj hj=>?_⟩;rw[hlen]at hj;have h2:=(hcell j U2).1;rw[Addr.add_lit,h0 j U2]at h2;rw[h2]
  simp
end Go.Proofs.YteiignfflbmafaaGreat.Tp
namespace Go.Proofs.YteiignfflbmafaaGreat.Tp
open Go.Proofs.Tryz
open Go.ChangeShapes Go.WideShapes Go.ChangeAt Go.RowKit Go.Deep Go.Proofs.YteiignfflbmafaaGreat.Tok
section
instance:Inhabited Is:=⟨⟨0,0,0,0⟩⟩
section
variable {H:Type} {enc:TypeId×Value->H} {P:Program} {w:World} {base:Nat} {spare:Nat->Bool} {Sj:Bool}
theorem Ib{E:TypeId}{f0 f1 f2 f3:Field}{fuel:Nat}{cs:List Value}{x:DataW H×List MemPlace}(hE:P.underlying E=some (.struct #[f0,f1,f2,f3]))
  (o0:f0.offset=0) (o1:f1.offset=1) (o2:f2.offset=2) (o3:f3.offset=3) (c0:P.cellsOf f0.type=1) (c1:P.cellsOf f1.type=1) (c2:P.cellsOf f2.type=1) (c3:P.cellsOf f3.type=1)
  (t0:P.underlying f0.type=some (.int .i64)) (t1:P.underlying f1.type=some (.int .i64)) (t2:P.underlying f2.type=some (.int .i64)) (t3:P.underlying f3.type=some (.int .i64))
  (hl:cs.length=4) (h:DataW.trod enc P w base spare Sj fuel E cs=some x):∃e:Is,cs=e.cells:=by
 obtain⟨xs,k,hk,hxy,_,hxl,hf⟩:=DataW.trod_struct hE h
 match xs,hxl,cs,hl with
 |[y0,y1,y2,y3],_,[v0,v1,v2,v3],_=>
  have g0:=hf 0 f0 rfl;have g1:=hf 1 f1 rfl;have g2:=hf 2 f2 rfl;have g3:=hf 3 f3 rfl;simp[o0,o1,o2,o3,c0,c1,c2,c3]at g0 g1 g2 g3;obtain⟨z0,e0,_,_⟩:=DataW.trod_int t0 g0;obtain⟨z1,e1,_,_⟩:=DataW.trod_int t1 g1;obtain⟨z2,e2,_,_⟩:=DataW.trod_int t2 g2;obtain⟨z3,e3,_,_⟩:=DataW.trod_int t3 g3;simp only[List.cons.injEq,and_true]at e0 e1 e2 e3;subst e0;subst e1;subst e2;subst e3
  exact⟨⟨z0,z1,z2,z3⟩,rfl⟩
theorem wU{T E:TypeId}{f0 f1 f2 f3:Field}{fuel:Nat}{cs:List Value}{x:DataW H×List MemPlace}(hT:P.underlying T=some (.slice E))(hE:P.underlying E=some (.struct #[f0,f1,f2,f3]))(ce:P.cellsOf E=4)
  (o0:f0.offset=0) (o1:f1.offset=1) (o2:f2.offset=2) (o3:f3.offset=3) (c0:P.cellsOf f0.type=1) (c1:P.cellsOf f1.type=1) (c2:P.cellsOf f2.type=1) (c3:P.cellsOf f3.type=1)
  (t0:P.underlying f0.type=some (.int .i64)) (t1:P.underlying f1.type=some (.int .i64)) (t2:P.underlying f2.type=some (.int .i64)) (t3:P.underlying f3.type=some (.int .i64))
  (h:DataW.trod enc P w base spare Sj fuel T cs=some x):∃v l,cs=[v]/\dX w v l:=by
 rcases open_slice hT h with⟨rfl,_⟩|⟨a,len,cap,m,n,D,Pl,rfl,hb,hl,hm,hmm,_,hx⟩
 ·exact⟨_,[],rfl,none,0,rfl,Nat.le_refl _,⟨n0 _,λ_=>rfl⟩,λh=>absurd h U8⟩
 ·have hlm:len<=m:=by rw[hmm];split<;>omega
  have each:∀i,i<len->∃e:Is,∀j,j<4->w.cell? (a.add (i*4+j))=e.cells[j]? :=by
   intro i hi;obtain⟨cs',h1,h2⟩:=hx i U2;rw[ce]at h1;obtain⟨_,hlen,hcell⟩:=World.cells?_some h1;obtain⟨e,rfl⟩:=Ib hE o0 o1 o2 o3 c0 c1 c2 c3 t0 t1 t2 t3 hlen h2;refine⟨e,λj hj=>?_⟩;have q:=hcell j hj;rw[add_add]at q
   exact q
  obtain⟨f,hf⟩:=choose_lt each;have hlen:((List.range len).map f).length=len:=by simp
  refine⟨_,(List.range len).map f,rfl,some a,cap,by rw[hlen],by rw[hlen];exact hl,⟨hm,λh=>(Option.some_ne_none _ h).elim⟩,λhp=>?_⟩;rw[hlen]at hp;obtain⟨b,off,spot⟩:=a;have hspot:spot=none:=by
   have q:=hf 0 hp 0 U0
   simpa[Addr.add]using World.cell?_spot (q.trans rfl)
  subst hspot;refine⟨b,off,rfl,λpc hpc j hj=>?_⟩;rw[hlen]at hpc;have q:=hf pc hpc j hj;rw[Addr.add_lit,<-Nat.add_assoc]at q;rw[q]
  simp
theorem Df{U T E:TypeId}{f0 f1 f2 f3:Field}{fuel:Nat}{cs:List Value}{x:DataW H×List MemPlace}(hU:P.underlying U=some (.slice T))(cu:P.cellsOf T=1)(hT:P.underlying T=some (.slice E))(hE:P.underlying E=some (.struct #[f0,f1,f2,f3]))(ce:P.cellsOf E=4)
  (o0:f0.offset=0) (o1:f1.offset=1) (o2:f2.offset=2) (o3:f3.offset=3) (c0:P.cellsOf f0.type=1) (c1:P.cellsOf f1.type=1) (c2:P.cellsOf f2.type=1) (c3:P.cellsOf f3.type=1)
  (t0:P.underlying f0.type=some (.int .i64)) (t1:P.underlying f1.type=some (.int .i64)) (t2:P.underlying f2.type=some (.int .i64)) (t3:P.underlying f3.type=some (.int .i64))
  (h:DataW.trod enc P w base spare Sj fuel U cs=some x):∃v code,cs=[v]/\aP w v code:=by
 rcases open_slice1 hU cu h with⟨rfl,_⟩|⟨a,len,cap,m,n,V,D,Pl,rfl,hb,hl,hm,hmm,_,hx⟩
 ·exact⟨_,[],rfl,none,0,rfl,Nat.le_refl _,n0 _,λh=>absurd h U8⟩
 ·have hlm:len<=m:=by rw[hmm];split<;>omega
  have each:∀i,i<len->∃l:List Is,w.cell? (a.add i)=some (V i)/\dX w (V i) l:=by
   intro i hi;obtain⟨h1,h2⟩:=hx i U2;obtain⟨v,l,e,hI⟩:=wU hT hE ce o0 o1 o2 o3 c0 c1 c2 c3 t0 t1 t2 t3 h2;simp only[List.cons.injEq,and_true]at e;rw[<-e]at hI
   exact⟨l,h1,hI⟩
  obtain⟨f,hf⟩:=choose_lt each;have hlen:((List.range len).map f).length=len:=by simp
  refine⟨_,(List.range len).map f,rfl,some a,cap,by rw[hlen],by rw[hlen];exact hl,hm,λhp=>?_⟩;rw[hlen]at hp;obtain⟨b,off,spot⟩:=a;have hspot:spot=none:=by simpa[Addr.add]using World.cell?_spot (hf 0 hp).1
  subst hspot;refine⟨b,off,rfl,λi hi=>?_⟩;rw[hlen]at hi;have q:=(hf i hi).1;rw[Addr.add_lit]at q;refine⟨_,q,?_⟩;have e:((List.range len).map f)[i]'(by rw[hlen];exact hi)=f i:=by simp
  rw[e]
  exact(hf i hi).2
end
end
theorem uH{H:Type}{enc:TypeId×Value->H}{W:World}{base:Nat}{v:Value}{d:DataW H}{p:List MemPlace}
  (hv:Value.okWide prog W .any base 24 v) (hd:DataW.Trod enc prog W 0 (λ_=>true) true 24 v d p):
  ∃(M:Int) (fv:Value) (code:List (List Is)),v=.agg #[M,fv]/\aP W fv code:=by
 obtain⟨v0,v1,y0,y1,n,rfl,_,_,h0,h1⟩:=Go.Joins.open_agg2 underlying24 U7 U7 hv hd;obtain⟨a0,e0,_,_⟩:=DataW.trod_int underlying3 h0;obtain⟨fv,code,e1,hF⟩:=Df underlying22 U7 underlying107 underlying109 U7 rfl rfl rfl rfl U7 U7 U7 U7 underlying3 underlying3 underlying3 underlying3 h1;simp only[List.cons.injEq,and_true]at e0 e1;subst e0 e1
 exact⟨a0,_,code,rfl,hF⟩
theorem wG{H:Type}{enc:TypeId×Value->H}{W:World}{base:Nat}{v:Value}{d:DataW H}{p:List MemPlace}
  (hv:Value.okWide prog W .any base 27 v) (hd:DataW.Trod enc prog W 0 (λ_=>true) true 27 v d p):
  ∃a b c e f:Int,∃x y:Bool,v=.agg #[a,b,c,e,f,.bool x,.bool y]:=by
 obtain⟨cs,rfl,hsz⟩:=okWide_struct underlying27 hv;have hsz:cs.toList.length=7:=hsz.trans U7;obtain⟨fuel,hf⟩:=hd;obtain⟨xs,k,hk,hxy,_,hxl,hg⟩:=DataW.trod_struct underlying27 hf;obtain⟨l⟩:=cs;have hsz:l.length=7:=hsz
 match xs,hxl,l,hsz with
 |[y0,y1,y2,y3,y4,y5,y6],_,[v0,v1,v2,v3,v4,v5,v6],_=>
  have g0:DataW.trod enc prog W 0 (λ_=>true) true _ 3 [v0]=some y0:=hg 0 _ rfl;have g1:DataW.trod enc prog W 0 (λ_=>true) true _ 3 [v1]=some y1:=hg 1 _ rfl;have g2:DataW.trod enc prog W 0 (λ_=>true) true _ 3 [v2]=some y2:=hg 2 _ rfl;have g3:DataW.trod enc prog W 0 (λ_=>true) true _ 3 [v3]=some y3:=hg 3 _ rfl;have g4:DataW.trod enc prog W 0 (λ_=>true) true _ 3 [v4]=some y4:=hg 4 _ rfl;have g5:DataW.trod enc prog W 0 (λ_=>true) true _ 4 [v5]=some y5:=hg 5 _ rfl;have g6:DataW.trod enc prog W 0 (λ_=>true) true _ 4 [v6]=some y6:=hg 6 _ rfl;obtain⟨z0,e0,_,_⟩:=DataW.trod_int underlying3 g0;obtain⟨z1,e1,_,_⟩:=DataW.trod_int underlying3 g1;obtain⟨z2,e2,_,_⟩:=DataW.trod_int underlying3 g2;obtain⟨z3,e3,_,_⟩:=DataW.trod_int underlying3 g3;obtain⟨z4,e4,_,_⟩:=DataW.trod_int underlying3 g4;obtain⟨z5,e5,_⟩:=DataW.trod_bool underlying4 g5;obtain⟨z6,e6,_⟩:=DataW.trod_bool underlying4 g6;simp only[List.cons.injEq,and_true]at e0 e1 e2 e3 e4 e5 e6;subst e0 e1 e2 e3 e4 e5 e6
  exact⟨z0,z1,z2,z3,z4,z5,z6,rfl⟩
end Go.Proofs.YteiignfflbmafaaGreat.Tp
namespace Go.Proofs.YteiignfflbmafaaGreat.Tp
open Go.Proofs.Tryz
open Go.RowKit Go.Proofs.YteiignfflbmafaaGreat.Tok
open Go.ChangeShapes Go.WideShapes Go.ChangeAt
theorem lifted(cw:∀w,Cs 6 #[] w (.bool true) λw'=>Below w.heap.size w w')(cS:∀(w:World)(v:Value)(l:List Ev),fJ w v l->l.length<=1000000->cZ l->Cs 15 #[v,(1:Int)] w (.bool true) λw'=>Below w.heap.size w w')(os:Os)(R9:os.Started)(H:Type)(enc:TypeId×Value->H):
  ReturnsInHanded {} Tryz.checked os 4 .any (Rows.topOneSpec.pre6 enc prog Tryz.f4 Rows.topOneRow.domain false) (Rows.topOneSpec.post enc prog Tryz.f4 false true false false):=by
 refine Frame.law_lift (C:= Tryz.checked) Frame.Sq R9 U7 func4 Frame.laidOut
  (ChangeSpec.witness6 (enc:=enc) (C:= Tryz.checked) false ⟨#[],#[.agg #[(0:Int),.slice none 0 0],.slice none 0 0,.agg #[(0:Int),(0:Int),(0:Int),(0:Int),(0:Int),.bool false,.bool false],.slice none 0 0],[]⟩ 8 U7 U7 U7 U7)
  rfl rfl underlying4 U7 (λds h=>by match ds,h with|[_,_,_,_],_=>exact⟨rfl,rfl,rfl⟩) ?_
 intro W base args ds p hval0 hA hlt hsz;have hval:∀(j:Nat) t v,Tryz.f4.params[j]? =some t->args[j]? =some v->Value.okWide prog W .any base t v:=hval0;clear hval0;replace hA:DataW.TrodAll enc prog W 0 (λ_=>true) true Tryz.f4.params.toList args.toList ds p:=hA;replace hsz:(DataW.weightsEach prog Tryz.f4.params.toList ds).all (· <=reachBytes)=true:=hsz;rw[Tryz.params4]at hA hval hsz;obtain⟨v0,v1,v2,v3,d0,d1,d2,d3,p0,p1,p2,p3,rfl,rfl,rfl,h0,h1,h2,h3⟩:=trodAll_four hA;obtain⟨M,fv,code,rfl,hF⟩:=uH (hval 0 24 v0 rfl rfl) h0;obtain⟨IA,Sv,input,rfl,hI,hI0⟩:=wF underlying25 U7 underlying3 (hval 1 25 v1 rfl rfl) h1 (λx hx=>hlt x (by simp[hx]));obtain⟨wk,th,fr,dq,aj,fold,lazy,rfl⟩:=wG (hval 2 27 v2 rfl rfl) h2;obtain⟨n,hP⟩:=yP underlying28 underlying38 U7 rfl rfl U7 U7 underlying3 underlying3 (hval 3 28 v3 rfl rfl) h3 (λx hx=>hlt x (by simp[hx]));have t:=Ph cw cS W M fv code IA Sv input ⟨hF,hI,hI0⟩ {wk:=wk,th:=th,fr:=fr,dq:=dq} aj fold lazy v3 n hP;simp only[gU]at t
 exact t
end Go.Proofs.YteiignfflbmafaaGreat.Tp
