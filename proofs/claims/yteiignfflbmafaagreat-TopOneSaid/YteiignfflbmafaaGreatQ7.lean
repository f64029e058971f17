/- TopOne, part 7. -/
import Derived.Test.YteiignfflbmafaaGreatQ6
import Derived.RangeFuncFrom
import Derived.RangeFuncNested
import Derived.RangeFuncBound
import Derived.RangeFuncCalls
import Derived.RangeFuncLeaves
import Derived.Shelf.Abstract
import Derived.Shelf.RegionOpen
import Derived.OwnWalkIn
import Derived.TacticsInMore
import Derived.LoopNIn
import Derived.LoopIn
import Derived.StillTailTactics
set_option linter.unusedVariables false
set_option linter.unusedSimpArgs false
set_option maxRecDepth 100000
set_option maxHeartbeats 8000000
namespace Go.Proofs.YteiignfflbmafaaGreat.Tp
open Go.Proofs.Tryz
open Go.RowKit Go.Shelf
attribute [local go_sem] Oper.semAt_some
theorem xG(n:Int)(h:0<=n/\n<=1000000):wrap64 n=n:=wr n h
def fT(L:List Bool):Nat->List Nat
 |0=>[]
 |k+1=>if L.getD k false=true then fT L k++[k]else fT L k
theorem EN{L:List Bool}{k:Nat}(h:L.getD k false=false):fT L (k+1)=fT L k:=by
 show(if L.getD k false=true then _ else _)=_
 rw[h];rfl
theorem BV{L:List Bool}{k:Nat}(h:L.getD k false=true):fT L (k+1)=fT L k++[k]:=by
 show(if L.getD k false=true then _ else _)=_
 rw[h];rfl
theorem sV(L:List Bool):∀k,(fT L k).length<=k
 |0=>Nat.le_refl _
 |k+1=>by
  have:=sV L k
  unfold fT
  split<;>simp<;>omega
def used(L:List Bool):Nat:=(fT L L.length).length
theorem Jj(F:Fence)(n:Nat)(h7:F.fn 249)(hro:F.round=none)(hn:1<=n)(l Bs n₀ ab hb cap:Nat)(L:List Bool)(hL:L.length<=1001)(hbn:hb<n₀)(J Jx:List Nat->World->Prop)
  (hY:∀pre x W,J pre W->pre.length<L.length->YieldAt F (n-1) prog l #[.int .i64 ((x:Nat):Int)] W λe W'=>
   (e=.returned (.bool true)/\J (pre++[x]) W'/\Below n₀ W W')∨(e=.returned (.bool false)/\Jx (pre++[x]) W'))
  (W:World) (hBs:W.cell? ⟨Bs,0,none⟩=some (.pointer (some ⟨ab,0,none⟩))) (hA:W.cell? ⟨ab,0,none⟩=some (.slice (some ⟨hb,0,none⟩) L.length cap)) (hc:∀j,j<L.length->W.cell? ⟨hb,j,none⟩=some (.bool (L.getD j false))) (h0:J [] W):
  CallsIn F n prog 249 #[.func (.yield l) #[] #[],.pointer (some ⟨Bs,0,none⟩)] W λe W'=>(∃v,e=.returned v)/\
   ((∃ys,ys=fT L L.length/\J ys W')∨(∃pre,(∃k,k<=L.length/\pre=fT L k)/\Jx pre W')):=by
 refine callsIn_of_wp func249 rfl h7 ?_ hro;simp only[ntmps249,List.size_toArray,List.length_cons,List.length_nil,Nat.reduceAdd,Nat.reduceSub,Array.replicate_succ,Array.replicate_zero,List.push_toArray,List.append_toArray,List.nil_append,List.cons_append]
 gi_wp2
 generalize hlen:L.length=len at*
 gi_loopw [12] (λi wr=>∃k:Nat,k<=len/\i=.int .i64 k/\J (fT L k) wr/\Below n₀ W wr)
  (λi _=>len-(intOf i).toNat)
 case atStart=>exact⟨0,n0 _,rfl,h0,Below.refl _ _⟩
 case round=>
  obtain⟨k,hk,rfl,hJs,hnx⟩:=hrel
  by_cases hlt:k<len
  ·have hcx:wr.cell? ⟨hb,k,none⟩=some (.bool (L.getD k false)):=(hnx.cell (p:=⟨hb,k,none⟩) hbn).trans (hc k hlt)
   have hlt':(k:Int)<(len:Int):=by omega
   have hw:wrap64 ((k:Int)+1)=((k+1:Nat):Int):=(xG _ (by omega)).trans (by simp)
   cases hg:L.getD k false
   ·rw[hg]at hcx
    have e1:fT L (k+1)=fT L k:=EN hg
    gi_wp2
    refine⟨λ_ h=>(by cases h),?_⟩
    gi_wp2
    go_roundw
    case rel=>exact⟨k+1,by omega,by simp,by rw[e1];exact hJs,hnx⟩
    case measure=>simp[intOf];omega
   ·rw[hg]at hcx
    have e1:fT L (k+1)=fT L k++[k]:=BV hg;obtain⟨fn,tmps,assign,body,hy,hR⟩:=hY _ k wr hJs (Nat.lt_of_le_of_lt (sV L k) hlt)
    gi_wp2
    refine hR.mono ?_;rintro e W3 (⟨rfl,hJ3,hk3⟩|⟨rfl,hJx3⟩)
    ·gi_wp2
     go_roundw
     case rel=>exact⟨k+1,by omega,by simp,by rw[e1];exact hJ3,hnx.trans hk3⟩
     case measure=>simp[intOf];omega
    ·gi_wp2
     refine bodyPost_ret (results_none rfl _ _ _) rfl ?_
     exact⟨⟨_,rfl⟩,.inr ⟨_,⟨k+1,by omega,e1.symm⟩,hJx3⟩⟩
  ·obtain rfl:k=len:=by omega
   gi_wp2
   go_end0
   exact⟨⟨_,rfl⟩,.inl ⟨_,rfl,by rw[hlen];exact hJs⟩⟩
theorem all_in(F:Fence)(n:Nat)(h5:F.fn 184)(hro:F.round=none)(a:Nat)(w:World):
  CallsIn F n prog 184 #[.pointer (some ⟨a,0,none⟩)] w λe w'=>e=.returned (.func (.func 249) #[] #[.pointer (some ⟨w.heap.size,0,none⟩)])/\w'=w.alloc (.cells #[.pointer (some ⟨a,0,none⟩)] 142):=by
 refine callsIn_of_wp func184 rfl h5 ?_ hro;simp only[ntmps184,List.size_toArray,List.length_cons,List.length_nil,Nat.reduceAdd,Nat.reduceSub,Array.replicate_succ,Array.replicate_zero,List.push_toArray,List.append_toArray,List.nil_append,List.cons_append]
 gi_wp2
 go_ret
 exact⟨rfl,rfl⟩
theorem all_stops(F:Fence)(n:Nat)(h7:F.fn 249)(hro:F.round=none)(hn:1<=n)(Bs n₀ ab hb cap:Nat)(L:List Bool)(hL:L.length<=1001)(w:World)(hBs:Bs<w.heap.size)(hn₀:n₀<=w.heap.size)(hab:ab<n₀)(hbn:hb<n₀)
  (hcb:w.cell? ⟨Bs,0,none⟩=some (.pointer (some ⟨ab,0,none⟩))) (hA:w.cell? ⟨ab,0,none⟩=some (.slice (some ⟨hb,0,none⟩) L.length cap)) (hc:∀j,j<L.length->w.cell? ⟨hb,j,none⟩=some (.bool (L.getD j false))):
  SeqStopsK F n prog 249 #[.pointer (some ⟨Bs,0,none⟩)] (λx:Nat=> #[Value.int .i64 ((x:Nat):Int)]) (Below n₀) (λys=>ys=fT L L.length) (λ_=>True) L.length w:=λl J Jx W hW _ _ hY h0=>by
 have hc':=(hW.cell (p:=⟨Bs,0,none⟩) hBs).trans hcb;have hA':=(hW.cell (p:=⟨ab,0,none⟩) (by show ab<_;omega)).trans hA;have hh':∀j,j<L.length->W.cell? ⟨hb,j,none⟩=some (.bool (L.getD j false)):=λj hj=>(hW.cell (p:=⟨hb,j,none⟩) (by show hb<_;omega)).trans (hc j hj);refine(Jj F n h7 hro hn l Bs n₀ ab hb cap L hL hbn J Jx hY W hc' hA' hh' h0).mono ?_;rintro e W' ⟨he,⟨ys,rfl,hj⟩|⟨pre,_,hj⟩⟩
 ·exact⟨he,.inl ⟨_,rfl,hj⟩⟩
 ·exact⟨he,.inr ⟨_,trivial,hj⟩⟩
theorem pW(W:World)(v:Value)(t:TypeId):(W.alloc (.cells #[v] t)).cell? ⟨W.heap.size,0,none⟩=some v/\(W.alloc (.cells #[v] t)).frozen? ⟨W.heap.size,0,none⟩=false:=
 ⟨by rw[World.cell?_alloc_new];rfl,World.frozen?_alloc_new W _ _ _⟩
theorem uo{W:World}{a:Addr}{v:Value}(o:Obj)(h:W.cell? a=some v):(W.alloc o).cell? a=some v:=kc h
theorem qA{W:World}{a:Addr}{v:Value}(o:Obj)(h:W.cell? a=some v)(hf:W.frozen? a=false):(W.alloc o).frozen? a=false:=(World.frozen?_alloc_old W o a (Nat.ne_of_lt (bL W a h))).trans hf
theorem wV(F:Fence)(n:Nat)(h3:F.fn 108)(h5:F.fn 184)(h6:F.fn 249)(hro:F.round=none)(hn:3<=n)(ab hb cap:Nat)(L:List Bool)(w:World)(hL:L.length<=1001)(hab:ab<w.heap.size)(hbn:hb<w.heap.size)
  (hA:w.cell? ⟨ab,0,none⟩=some (.slice (some ⟨hb,0,none⟩) L.length cap)) (hc:∀j,j<L.length->w.cell? ⟨hb,j,none⟩=some (.bool (L.getD j false))):
  CallsIn F n prog 108 #[.pointer (some ⟨ab,0,none⟩)] w λe W'=>e=.returned (.int .i64 (used L))/\Below w.heap.size w W':=by
 have h1:1<=n:=by omega
 refine callsIn_of_wp_marks func108 rfl h3 ?_ hro;simp only[ntmps108,List.size_toArray,List.length_cons,List.length_nil,Nat.reduceAdd,Nat.reduceSub,Array.replicate_succ,Array.replicate_zero,List.push_toArray,List.append_toArray,List.nil_append,List.cons_append]
 gi_wp2_with (gi_at_call 184;refine(all_in F (n-1) h5 hro _ _).mono ?_;rintro e w' ⟨rfl,rfl⟩)
 have hs:=pW w (.int .i64 0) 3;have hb0:=pW (w.alloc (.cells #[.int .i64 0] 3)) (.pointer (some ⟨ab,0,none⟩)) 142;rw[World.size_alloc]at hb0;have hB0:Below w.heap.size w ((w.alloc (.cells #[.int .i64 0] 3)).alloc (.cells #[.pointer (some ⟨ab,0,none⟩)] 142)):=((Below.refl _ w).alloc nr _).alloc (by simp) _;refine wpIn_rangeFunc_ownF hro h1 (gf:= 249) (lb:= #[.pointer (some ⟨w.heap.size+1,0,none⟩)]) rfl h6 (enters_of func249 (by kernel_rfl) rfl)
  (all_stops F (n-1) h6 hro (by omega) (w.heap.size+1) w.heap.size ab hb cap L hL _ (by simp) (by simp;omega) hab hbn hb0.1 ((hB0.cell (p:=⟨ab,0,none⟩) hab).trans hA) (λj hj=>(hB0.cell (p:=⟨hb,j,none⟩) hbn).trans (hc j hj))) belowK_t (belowK_b (by simp;omega)) (Below.refl _ _) (λ_=>rfl)
  (λpre W=>(W.cell? ⟨w.heap.size,0,none⟩=some (.int .i64 ((pre.length:Nat):Int))/\W.frozen? ⟨w.heap.size,0,none⟩=false)/\Below w.heap.size w W)
  (λ_ _ _=>False)
  (OwnFrom.and (Own.from (λs A B row hs hg hr=>⟨cell_kept hs.1 hg hr,(frozen_kept hs.1 hg hr).trans hs.2⟩) _) (ownFrom_below nr (by simp;omega)))
  (λ_ _ _ _ _ hs _ _=>hs)
  ⟨⟨uo _ hs.1,qA _ hs.1 hs.2⟩,hB0⟩
  (λx=>{tmps:= #[.pointer (some ⟨ab,0,none⟩),undef,.int .i64 0,.pointer (some ⟨w.heap.size,0,none⟩),.pointer (some ⟨ab,0,none⟩),.func (.func 249) #[] #[.pointer (some ⟨w.heap.size+1,0,none⟩)],.int .i64 ((x:Nat):Int),undef,undef,undef],defers:=[]}) ?assign ?body ?done ?stop
 case assign=>
  intro l x W K hK
  gi_wp2
  first|exact hK|(simpa using hK)|(simpa[Array.zip]using hK)|(simpa[Array.zip,Array.zipWith]using hK)
 case body=>
  rintro l pre x W ⟨⟨hc,hf⟩,hB⟩ hlt;have hw:wrap64 ((pre.length:Int)+1)=(((pre++[x]).length:Nat):Int):=(xG _ (by omega)).trans (by simp)
  gi_wp2
  exact⟨KeepsOthers.setCell _ _ _,(Below.refl w.heap.size W).setCell (p:=⟨w.heap.size,0,none⟩) nr _,⟨by first|exact World.cell?_setCell_same' _ _ _ (by rw[hc];rfl)|(simp;exact World.cell?_setCell_same' _ _ _ (by rw[hc];rfl)),by rw[World.frozen?_setCell];exact hf⟩,hB.setCell (p:=⟨w.heap.size,0,none⟩) nr _⟩
 case done=>
  rintro D ys W hD rfl ⟨⟨hc,_⟩,hB⟩ hK
  gi_wp2
  refine⟨by simp,.inl ⟨_,_,rfl,run_takeDeferred hK,?_⟩⟩
  exact⟨_,results_tmp rfl _ _ _,rfl,hB.trans (belowK_b (w:=w) nr W D _ _ (by simp at hD;omega) hK rfl rfl)⟩
 case stop=>
  rintro D c pre W _ _ h _
  exact h.elim
theorem AZ(ab hb cap:Nat)(L:List Bool)(w:World)(hL:L.length<=1001)(hab:ab<w.heap.size)(hbn:hb<w.heap.size)
  (hA:w.cell? ⟨ab,0,none⟩=some (.slice (some ⟨hb,0,none⟩) L.length cap)) (hc:∀j,j<L.length->w.cell? ⟨hb,j,none⟩=some (.bool (L.getD j false))):
  Calls prog 108 #[.pointer (some ⟨ab,0,none⟩)] w λe W'=>e=.returned (.int .i64 (used L))/\Below w.heap.size w W':=
 (callsIn_wide (n:=3)).1 (wV Fence.wide 3 trivial trivial trivial rfl nr ab hb cap L w hL hab hbn hA hc)
end Go.Proofs.YteiignfflbmafaaGreat.Tp
namespace Go.Proofs.YteiignfflbmafaaGreat.Tp
open Go.Proofs.Tryz
open Go.RowKit Go.Proofs.YteiignfflbmafaaGreat.Tok
theorem bI.kX{S:Nat->Prop}{w w':World}{y:Ly}{m:Co}(h:bI w y m)(k:Kept S w w')(hs:∀k,S k->k=y.a∨k=y.hl∨y.bk.ownBlock=some k∨¬y.has k)(v:Value)(H:List Bool)(B:List Nat)(f:Nat)(p:Int)
  (hH:H.length=m.Sj.length) (ha:af w' y.a #[.slice (some ⟨y.hl,0,none⟩) m.Sj.length m.Sj.length,v,f,p] 184) (hh:af w' y.hl (bools H) 4) (hb:Own w' 3 1 wD v B) (hv:jM w y.bk v):bI w' {y with bk:=v} {m with Sj:=H,back:=B,fresh:=f,bY:=p} where
 core:=k.blk h.core (λz=>(hs _ z).elim (h.core.ne h.arena U0) (λz=>z.elim (h.core.ne h.Sj U0) (λz2=>z2.elim (λe2=>h.back.ne h.core U0 e2) (λq=>q U11))))
 RY:=h.RY.kept k (h.RY.fs.elim λ_ q0=>(λz=>(hs _ z).elim (q0.ne h.arena U0) (λz=>z.elim (q0.ne h.Sj U0) (λz2=>z2.elim (λe2=>h.back.ne q0 U0 e2) (λq=>q U11))))) (λz=>(hs _ z).elim (h.RY.ws.ne h.arena U0) (λz=>z.elim (h.RY.ws.ne h.Sj U0) (λz2=>z2.elim (h.uE) (λq=>q U11))))
 data:=h.data.kept k (h.data.fs.elim λ_ q0=>(λz=>(hs _ z).elim (q0.ne h.arena U0) (λz=>z.elim (q0.ne h.Sj U0) (λz2=>z2.elim (λe2=>h.back.ne q0 U0 e2) (λq=>q U11))))) (λz=>(hs _ z).elim (h.data.ws.ne h.arena U0) (λz=>z.elim (h.data.ws.ne h.Sj U0) (λz2=>z2.elim (h.rM) (λq=>q U11))))
 table:=k.blk h.table (λz=>(hs _ z).elim (h.table.ne h.arena U0) (λz=>z.elim (h.table.ne h.Sj U0) (λz2=>z2.elim (λe2=>h.back.ne h.table U0 e2) (λq=>q U11))))
 frames:=k.blk h.frames (λz=>(hs _ z).elim (h.frames.ne h.arena U0) (λz=>z.elim (h.frames.ne h.Sj U0) (λz2=>z2.elim (λe2=>h.back.ne h.frames U0 e2) (λq=>q U11))))
 arena:=by dsimp only;rw[hH];exact ha
 Sj:=hh
 sink:=k.blk h.sink (λz=>(hs _ z).elim (h.sink.ne h.arena U0) (λz=>z.elim (h.sink.ne h.Sj U0) (λz2=>z2.elim (λe2=>h.back.ne h.sink U0 e2) (λq=>q U11))))
 log:=k.blk h.log (λz=>(hs _ z).elim (h.log.ne h.arena U0) (λz=>z.elim (h.log.ne h.Sj U0) (λz2=>z2.elim (λe2=>h.back.ne h.log U0 e2) (λq=>q U11))))
 back:=hb
 out:=h.out.kept k (λb e z=>(hs _ z).elim (λe2=>h.out.ne h.arena U0 (e2▸e)) (λz=>z.elim (λe2=>h.out.ne h.Sj U0 (e2▸e)) (λz2=>z2.elim (λe2=>h.uF _ e e2) (λq=>q U20))))
 evs:=h.evs.kept k (λb e z=>(hs _ z).elim (λe2=>h.evs.ne h.arena U0 (e2▸e)) (λz=>z.elim (λe2=>h.evs.ne h.Sj U0 (e2▸e)) (λz2=>z2.elim (λe2=>(h.evs.type e).elim λ_ q1=>h.back.ne q1 U0 e2) (λq=>q U20))))
 code:=h.code.kept k (λb e z=>by obtain⟨cs,t,h1,h2⟩:=h.nE b e;exact(hs _ z).elim (h1.ne h.arena U14) (λz=>z.elim (h1.ne h.Sj U14) (λz2=>z2.elim (λe2=>h.back.ne h1 U14 e2) (λq=>q U20))))
 nE:=λb e=>by obtain⟨cs,t,h1,h2⟩:=h.nE b e;exact⟨cs,t,k.blk h1 (λz=>(hs _ z).elim (h1.ne h.arena U14) (λz=>z.elim (h1.ne h.Sj U14) (λz2=>z2.elim (λe2=>h.back.ne h1 U14 e2) (λq=>q U20)))),h2⟩
 wE:=h.wE
 jL:=h.jL
 uE:=hv.ne (h.lt U11) h.uE
 rM:=hv.ne (h.lt U11) h.rM
 now:=h.now
 uG:=h.uG
 uF:=λk e z=>by have z':y.ov.ownBlock=some k:=e;exact hv.ne (h.lt (by simp[Ly.has,z'])) (λe2=>h.uF k z' e2) z
 hlen:=hH.trans h.hlen
 bU:=h.bU
 bQ:=h.bQ
 eZ:=h.eZ
theorem EG(B:List Nat):B.flatMap wD=B.map (λn:Nat=>Value.int .i64 (n:Int)):=by
 induction B with
 |nil=>rfl
 |cons b t ih=>rw[List.flatMap_cons,ih];rfl
theorem Own.get{w:World}{A:Option Addr}{cap:Nat}{B:List Nat}{i:Nat}{n:Nat}(h:Own w 3 1 wD (.slice A n cap) (B++[i])):
  n=B.length+1/\∃g,A=some ⟨g,0,none⟩/\n<=cap/\w.cell? ⟨g,B.length,none⟩=some ↑i/\Own w 3 1 wD (.slice A B.length cap) B:=by
 obtain⟨h1,⟨_,h0⟩|⟨g,cp,cur,e,hb,hg,h2,h3,h4,h5⟩⟩:=h
 ·simp at h0
 ·have h1':=h1
  simp only[Value.slice.injEq]at e;obtain⟨rfl,hn,rfl⟩:=e;rw[List.length_append]at hn h2 h5;simp only[List.length_cons,List.length_nil,Nat.zero_add]at hn h2 h5;have hx:=EG B;have hy:(B++[i]).flatMap wD=(B.map (λn:Nat=>Value.int .i64 (n:Int)))++[Value.int .i64 (i:Int)]:=by
   rw[List.flatMap_append,hx];rfl
  rw[hy]at h5;have hc:cur[B.length]? =some (.int .i64 i):=by
   have:=congrArg (λl=>l[B.length]?) h5
   simp only[List.getElem?_take]at this;rw[if_pos U2]at this;rw[<-Array.getElem?_toList,this]
   simp
  refine⟨hn,g,rfl,by omega,(cell_of_row w g B.length cur _ (0,0) hg).trans hc,?_,.inr ⟨g,cap,cur,rfl,hb,hg,by omega,h3,h4,?_⟩⟩
  ·rw[hx];simp
  ·rw[hx]
   have:=congrArg (λl=>l.take B.length) h5
   simp only[List.take_take]at this;rw[show min B.length ((B.length+1)*1)=B.length by omega]at this;rw[Nat.mul_one,this]
   simp
theorem Cm(w:World)(y:Ly)(m:Co)(B:List Nat)(i:Nat)(h:bI w y m)(hB:m.back=B++[i])(hl:B.length<=1001):
  Cs 203 #[.pointer (some ⟨y.a,0,none⟩)] w (.tuple #[i,.bool true]) λw'=>∃v,bI w' {y with bk:=v} {m with back:=B}/\v.ownBlock=y.bk.ownBlock/\Kept (One y.a) w w':=by
 obtain⟨A,cap,hbk⟩:=h.back.len;have ho:=h.back;rw[hB,hbk]at ho;obtain⟨hn,g,rfl,hcap,hc,ho2⟩:=ho.get;rw[hn]at hbk hcap;have x0:w.cell? ⟨y.a,1,none⟩=some (.slice (some ⟨g,0,none⟩) (B.length+1) cap):=by rw[<-hbk];exact h.arena.cell 1
 have z0:=h.arena.fz;have e1:wrap64 (((B.length+1:Nat):Int)-1)=(B.length:Int):=(wr _ U2).trans U2;have l0:(0:Int)<((B.length+1:Nat):Int):=by omega
 have l4:B.length<B.length+1:=by omega
 have l1:(B.length:Int)<((B.length+1:Nat):Int):=by omega
 have l2:B.length<=cap:=by omega
 have l3:(B.length:Int)<=(cap:Int):=by omega
 have C:=Hd (h.kX (S:=One y.a) (Kept.one w y.a 1 (.slice (some ⟨g,0,none⟩) B.length cap)) (λk z=>Or.inl z) (.slice (some ⟨g,0,none⟩) B.length cap) m.Sj B m.fresh m.bY rfl (h.arena.set 1 _) (h.Sj.far (h.Sj.ne h.arena U0) _) (ho2.kept (Kept.one w y.a 1 _) (λb e z=>ho2.ne h.arena U0 (z▸e))) (Or.inl (by rw[hbk];rfl)));have K:=Kept.one w y.a 1 (.slice (some ⟨g,0,none⟩) B.length cap);have O:(Value.slice (some ⟨g,0,none⟩) B.length cap).ownBlock=y.bk.ownBlock:=by rw[hbk];rfl
 clear h ho ho2 hB hn hbk hl;generalize y.a=a at*;generalize B.length+1=n1 at*;generalize B.length=n at*;go_enter func203,ntmps203;go_wp2_with fail
 go_ret2
 exact⟨rfl,_,C.out,O,K⟩
theorem yK(w:World)(y:Ly)(m:Co)(h:bI w y m)(hB:m.back=[])(hf:m.fresh+1<m.Sj.length)(hl:m.Sj.length<=1001):
  Cs 203 #[.pointer (some ⟨y.a,0,none⟩)] w (.tuple #[.int .i64 ((m.fresh+1:Nat):Int),.bool true]) λw'=>∃v,bI w' {y with bk:=v} {m with fresh:=m.fresh+1}/\v.ownBlock=y.bk.ownBlock/\Kept (One y.a) w w':=by
 have ho:=h.back;obtain⟨A,cap,hbk⟩:=h.back.len;rw[hB]at hbk ho;have x0:w.cell? ⟨y.a,0,none⟩=some (.slice (some ⟨y.hl,0,none⟩) m.Sj.length m.Sj.length):=h.arena.cell 0;have x1:w.cell? ⟨y.a,1,none⟩=some (.slice A 0 cap):=by rw[show(Value.slice A 0 cap)=y.bk from hbk.symm];exact h.arena.cell 1
 have x2:w.cell? ⟨y.a,2,none⟩=some ↑m.fresh:=h.arena.cell 2;have z0:=h.arena.fz;have e1:wrap64 ((m.fresh:Int)+1)=((m.fresh+1:Nat):Int):=(wr _ U2).trans U8;have e2:IntKind.i64.wrap ((m.fresh:Int)+1)=((m.fresh+1:Nat):Int):=(rU _ U2).trans U8;have d1:¬m.Sj.length<=m.fresh+1:=by omega
 have C:=Hd (h.kX (S:=One y.a) (Kept.one w y.a 2 (.int .i64 ((m.fresh+1:Nat):Int))) (λk z=>Or.inl z) y.bk m.Sj m.back (m.fresh+1) m.bY rfl (h.arena.set 2 _) (h.Sj.far (h.Sj.ne h.arena U0) _) (h.back.kept (Kept.one w y.a 2 _) (λb e z=>h.back.ne h.arena U0 (z▸e))) (Or.inl rfl));have K:=Kept.one w y.a 2 (.int .i64 ((m.fresh+1:Nat):Int));clear h ho hB hbk hl hf;generalize hf1:m.fresh+1=f1 at*;generalize m.fresh=f at*;generalize m.Sj.length=n at*;generalize y.a=a at*;generalize y.hl=hb at*;go_enter func203,ntmps203;go_upto_region 6 with fail
 go_quiet (fail)
 go_wp2_with fail
 go_ret2
 exact⟨rfl,_,(C.out.kept ((Kept.refl None _).drewN nq) (λ_ _ z=>z):bI ((w.setCell _ _).drewN nq) _ _),rfl,K.drewN nq⟩
theorem Cn(w:World)(y:Ly)(m:Co)(h:bI w y m)(hB:m.back=[])(hf:m.Sj.length<=m.fresh+1)(hl:m.Sj.length<=1001)(hf2:m.fresh<=1001):
  Cs 203 #[.pointer (some ⟨y.a,0,none⟩)] w (.tuple #[(0:Int),.bool false]) λw'=>Below w.heap.size w w':=by
 obtain⟨A,cap,hbk⟩:=h.back.len;rw[hB]at hbk;have x0:w.cell? ⟨y.a,0,none⟩=some (.slice (some ⟨y.hl,0,none⟩) m.Sj.length m.Sj.length):=h.arena.cell 0;have x1:w.cell? ⟨y.a,1,none⟩=some (.slice A 0 cap):=by rw[show(Value.slice A 0 cap)=y.bk from hbk.symm];exact h.arena.cell 1
 have x2:w.cell? ⟨y.a,2,none⟩=some ↑m.fresh:=h.arena.cell 2;have e1:wrap64 ((m.fresh:Int)+1)=((m.fresh+1:Nat):Int):=(wr _ U2).trans U8;have e2:IntKind.i64.wrap ((m.fresh:Int)+1)=((m.fresh+1:Nat):Int):=(rU _ U2).trans U8;have d1:m.Sj.length<=m.fresh+1:=by omega
 have d2:¬m.fresh+1<m.Sj.length:=by omega
 clear h hB hbk hl hf hf2;generalize hf1:m.fresh+1=f1 at*;generalize m.fresh=f at*;generalize m.Sj.length=n at*;generalize y.a=a at*;generalize y.hl=hb at*;go_enter func203,ntmps203;go_upto_region 6 with fail
 go_quiet (fail)
 go_wp2_with fail
 go_ret2
 exact⟨rfl,below_drewN (Below.refl _ _) _⟩
def Co.pick(m:Co):Option (Nat×List Nat×Nat):=
 match m.back.getLast? with
 |some i=>some (i,m.back.dropLast,m.fresh)
 |none=>if m.fresh+1<m.Sj.length then some (m.fresh+1,m.back,m.fresh+1)else none
def Co.gG(m:Co):Prop:=m.Sj.length<=1001/\m.fresh<m.Sj.length/\m.back.length<=1001/\(∀i∈m.back,i<m.Sj.length)/\0<=m.bY
theorem Cq(w:World)(y:Ly)(m:Co)(h:bI w y m)(ha:m.gG)(i:Nat)(B:List Nat)(f:Nat)(hp:m.pick=some (i,B,f)):
  Cs 203 #[.pointer (some ⟨y.a,0,none⟩)] w (.tuple #[i,.bool true]) λw'=>∃v,bI w' {y with bk:=v} {m with back:=B,fresh:=f}/\v.ownBlock=y.bk.ownBlock/\Kept (One y.a) w w':=by
 unfold Co.pick at hp
 cases hg:m.back.getLast? with
 |some j=>
  rw[hg]at hp;simp only[oe]at hp;obtain⟨rfl,rfl,rfl⟩:=hp;have hB:m.back=m.back.dropLast++[j]:=by
   have hne:m.back≠[]:=by intro z;rw[z]at hg;cases hg
   have:=List.dropLast_concat_getLast hne
   rw[List.getLast?_eq_some_getLast hne]at hg
   cases hg
   exact this.symm
  exact Cm w y m _ j h hB (by have:=ha.2.2.1;simp;omega)
 |none=>
  rw[hg]at hp;have hB:m.back=[]:=by simpa using hg
  by_cases hf:m.fresh+1<m.Sj.length
  ·rw[if_pos hf]at hp
   simp only[oe]at hp;obtain⟨rfl,rfl,rfl⟩:=hp
   exact yK w y m h hB hf ha.1
  ·rw[if_neg hf]at hp
   cases hp
theorem pg{m:Co}(ha:m.gG){i:Nat}{B:List Nat}{f:Nat}(hp:m.pick=some (i,B,f)):i<m.Sj.length:=by
 unfold Co.pick at hp
 cases hg:m.back.getLast? with
 |some j=>
  rw[hg]at hp;simp only[oe]at hp;obtain⟨rfl,_,_⟩:=hp
  exact ha.2.2.2.1 _ (List.mem_of_getLast? hg)
 |none=>
  rw[hg]at hp
  by_cases hf:m.fresh+1<m.Sj.length
  ·rw[if_pos hf]at hp
   simp only[oe]at hp;obtain⟨rfl,_,_⟩:=hp
   exact hf
  ·rw[if_neg hf]at hp
   cases hp
theorem Kz(w:World)(y:Ly)(m:Co)(h:bI w y m)(ha:m.gG)(hp:m.pick=none):
  Cs 203 #[.pointer (some ⟨y.a,0,none⟩)] w (.tuple #[(0:Int),.bool false]) λw'=>Below w.heap.size w w':=by
 unfold Co.pick at hp
 cases hg:m.back.getLast? with
 |some j=>rw[hg]at hp;cases hp
 |none=>
  rw[hg]at hp;have hB:m.back=[]:=by simpa using hg
  by_cases hf:m.fresh+1<m.Sj.length
  ·rw[if_pos hf]at hp;cases hp
  ·exact Cn w y m h hB U2 ha.1 (by have:=ha.1;have:=ha.2.1;omega)
def Co.taken(m:Co)(i:Nat)(B:List Nat)(f:Nat):Co:={m with Sj:=m.Sj.set i true,back:=B,fresh:=f,bY:=max m.bY (used (m.Sj.set i true))}
theorem Lj(w:World)(y:Ly)(m:Co)(h:bI w y m)(ha:m.gG)(hp:m.pick=none):
  Cs 127 #[.pointer (some ⟨y.a,0,none⟩)] w (.tuple #[(0:Int),.bool false]) λw'=>Below w.heap.size w w':=by
 have c1:=Hd (Kz w y m h ha hp);clear h ha hp;generalize y.a=a at*;go_enter func127,ntmps127
 go_wp2_with (go_at_call 203;refine c1.o.q λw1 Sr=> ?_)
 go_ret2
 exact⟨rfl,Sr⟩
theorem Db(w:World)(y:Ly)(m:Co)(h:bI w y m)(ha:m.gG)(i:Nat)(B:List Nat)(f:Nat)(hp:m.pick=some (i,B,f)):
  Cs 127 #[.pointer (some ⟨y.a,0,none⟩)] w (.tuple #[i,.bool true]) λw'=>∃v,bI w' {y with bk:=v} (m.taken i B f)/\v.ownBlock=y.bk.ownBlock/\Kept (Two y.a y.hl) w w':=by
 have hi:=pg ha hp;have c1:=Hd (Cq w y m h ha i B f hp);have hi':(i:Int)<(m.Sj.length:Int):=by omega
 have HT:=Hd (show m.taken i B f={m with Sj:=m.Sj.set i true,back:=B,fresh:=f,bY:=max m.bY (used (m.Sj.set i true))}from rfl);generalize m.taken i B f=T at*;have hl1:=ha.1;have hyh:=h.Sj.ne h.arena U0;clear hp;go_enter func127,ntmps127
 go_upto_region 5 with(go_at_call 203;refine c1.o.mono ?_;rintro ev w1 ⟨rfl,v,C1,hv,k1⟩;have xa:w1.cell? ⟨y.a,0,none⟩=some (.slice (some ⟨y.hl,0,none⟩) m.Sj.length m.Sj.length):=C1.arena.cell 0;have zh:=C1.Sj.fz;have xh:w1.cell? ⟨y.hl,i,none⟩=some (.bool (m.Sj.getD i false)):=(C1.Sj.cell i).trans (kL _ _ hi))
 go_upto_region 6 with fail;have ah:af (w1.setCell ⟨y.hl,i,none⟩ (.bool true)) y.hl (bools (m.Sj.set i true)) 4 :=by rw[<-sF];exact C1.Sj.set i _
 have aa:=C1.arena.far (a:=⟨y.hl,i,none⟩) hyh.symm (.bool true);have KH:Kept (Two y.a y.hl) w (w1.setCell ⟨y.hl,i,none⟩ (.bool true)):=k1.two.trans (Kept.bT _ _ _ _ _);have K1:Kept (One y.hl) w1 (w1.setCell ⟨y.hl,i,none⟩ (.bool true)):=Kept.one _ _ _ _;have ob:=C1.back.kept K1 (λb e z=>C1.back.ne C1.Sj U0 (z▸e));generalize w1.setCell ⟨y.hl,i,none⟩ (.bool true)=W at*;have cU:=Hd (λ(W:World) (aa:af W y.a #[.slice (some ⟨y.hl,0,none⟩) m.Sj.length m.Sj.length,v,f,m.bY] 184) (ah:af W y.hl (bools (m.Sj.set i true)) 4)=>AZ y.a y.hl m.Sj.length (m.Sj.set i true) W U41 aa.lt ah.lt (by rw[List.length_set];exact aa.cell 0) (λj hj=>(ah.cell j).trans (kL _ _ hj)));have x3:W.cell? ⟨y.a,3,none⟩=some ↑m.bY:=aa.cell 3;replace HT:=Hd HT.o;generalize hU:used (m.Sj.set i true)=U at*;have PX:=Hd (show max m.bY (U:Int)=max m.bY (U:Int)from rfl);generalize hX:max m.bY (U:Int)=X at HT PX;have hx:(if m.bY<(U:Int)then(U:Int)else m.bY)=X:=by rw[<-hX];split<;>omega
 have hx2:(if(U:Int)<=m.bY then m.bY else(U:Int))=X:=by rw[<-hX];split<;>omega
 go_region_law (first|(go_simp;go_at_call 108;refine(cU.o _ (by first|exact aa|exact aa.drew|exact aa.drew.drew) (by first|exact ah|exact ah.drew|exact ah.drew.drew)).q λw3 hb3=> ?_;have x3:=kb hb3 aa.lt x3;have z3:=((by first|exact aa.below hb3 aa.lt|exact aa.drew.below hb3 aa.lt|exact aa.drew.drew.below hb3 aa.lt):af w3 y.a _ 184).fz))
 all_goals
  have B3:Below W.heap.size W w3:=by first|exact hb3|exact(Below.refl _ _).drew.trans hb3|exact(Below.refl _ _).drew.drew.trans hb3
  have A3:=(aa.below B3 aa.lt).set 3 ↑X;have H3:=(ah.below B3 ah.lt).far (a:=⟨y.a,3,none⟩) hyh ↑X;have O1:=ob.kept (S:=None) (Kept.ob B3) (λ_ _ z=>z);have O3:=O1.kept (Kept.one w3 y.a 3 ↑X) (λb e z=>O1.ne (aa.below B3 aa.lt) U0 (z▸e));have KZ:=(KH.trans (Kept.ob B3)).set (p:=⟨y.a,3,none⟩) (Or.inl (Or.inl rfl)) ↑X;have C:=h.kX KZ (λk z=>z.elim Or.inl (λz=>Or.inr (Or.inl z))) v (m.Sj.set i true) B f X U8 A3 H3 O3 (Or.inl hv);clear x3;go_wp2_with fail
  go_ret2
  exact⟨rfl,v,by rw[HT.o];exact C,hv,KZ⟩
theorem Us53 {p:Prop} (h:p:=by
 have ef:dA L a k n (j+1)=dA L a k n j:=by
  show(if a<=j/\j<a+k then _ else _)=_
  rw[if_neg U2]
 go_wp2_with fail
 go_roundw
 case rel=>exact⟨j+1,by omega,by simp,by rw[ef];exact hS,hK⟩
 case measure=>simp[intOf];omega):p:=h
def Co.Si(m:Co)(i:Nat):Co:={m with Sj:=m.Sj.set i false,back:=m.back++[i]}
def Three(y:Ly):Nat->Prop:=(λk=>k=y.a∨k=y.hl∨y.bk.ownBlock=some k)
theorem JZ(w:World)(y:Ly)(m:Co)(h:bI w y m)(i:Nat)(hok:m.ok i)(hl:m.back.length<=1001)(hl2:m.Sj.length<=1001):
  Cs 280 #[.pointer (some ⟨y.a,0,none⟩),i] w (.bool true) λw'=>∃v,bI w' {y with bk:=v} (m.Si i)/\jM w y.bk v/\Kept (Three y) w w':=by
 obtain⟨i0,hi,hz0,hz1,hz2⟩:=info_parts fH;obtain⟨A,cap,hov⟩:=h.back.len;have cH:=Hd (Ac w y m h i hok);have hi1:i<m.Sj.length:=hok.2.1;have hi':(i:Int)<(m.Sj.length:Int):=by omega
 have x0:w.cell? ⟨y.a,0,none⟩=some (.slice (some ⟨y.hl,0,none⟩) m.Sj.length m.Sj.length):=h.arena.cell 0;have xh:w.cell? ⟨y.hl,i,none⟩=some (.bool (m.Sj.getD i false)):=(h.Sj.cell i).trans (kL _ _ hi1);have zh:=h.Sj.fz;have hyh:=h.Sj.ne h.arena U0;have ah:af (w.setCell ⟨y.hl,i,none⟩ (.bool false)) y.hl (bools (m.Sj.set i false)) 4 :=by rw[<-sF];exact h.Sj.set i _
 have aa:=h.arena.far (a:=⟨y.hl,i,none⟩) hyh.symm (.bool false);have ob:=h.back.kept (Kept.one w y.hl i (.bool false)) (λb e z=>h.back.ne h.Sj U0 (z▸e));have KH:Kept (Three y) w (w.setCell ⟨y.hl,i,none⟩ (.bool false)):=(Kept.refl _ _).set (p:=⟨y.hl,i,none⟩) (Or.inl (Or.inr (Or.inl rfl))) _;rw[hov]at ob;go_enter func280,ntmps280
 go_upto_region 4 with(go_at_call 261;refine cH.o.r ?_)
 generalize w.setCell ⟨y.hl,i,none⟩ (.bool false)=W at*;have x1:W.cell? ⟨y.a,1,none⟩=some (.slice A m.back.length cap):=by rw[<-hov];exact aa.cell 1
 clear x0 xh zh
 go_wp2_with (at_builtin;refine wpList_append_lies _ rfl _ _ 25 rfl 0 3 i0 (.int .i64 0) 1 8 underlying25 hi hz0 hz1 hz2 rfl U0 _ _ _ rfl (show World.ownsRow _ 0 3 1 _ m.back.length (m.back.flatMap wD)from ob.alloc _) ⟨W.heap.size,0,none⟩ 1 1 [.int .i64 i] rfl rfl ?c1 ?c2 U2 ?c3 ?c4 (n0 _) _ rfl ?_)
 case c1=>
  intro j u hj
  match j,hj with
  |0,hj=>simp at hj;subst hj;simp[Addr.add,cell_new]
 case c2=>intro u hu;simp at hu;subst hu;rfl
 case c3=>unfold maxLen;omega
 case c4=>omega
 intro g cap' w2 hown' hgrow hg hgl;have KW:Kept (λk=>y.bk.ownBlock=some k) (W.alloc (.cells #[i] 3)) w2:=by rw[hov];exact Kept.grown hgrow
 have no:y.bk.ownBlock≠some y.a:=h.back.ne h.arena U0;have nh:y.bk.ownBlock≠some y.hl:=h.back.ne h.Sj U0;have s2:=KW.blk (aa.alloc _) no;have t2:=KW.blk (ah.alloc _) nh;have z2:=s2.fz;have y1:w2.cell? ⟨y.a,1,none⟩=some (.slice A m.back.length cap):=by rw[<-hov];exact s2.cell 1
 have KG:Kept (Three y) w w2:=(KH.alloc _).trans (KW.mono (λk z=>Or.inr (Or.inr z)));go_wp2_with fail
 go_ret
 have K2:=KG.set (p:=⟨y.a,1,none⟩) (Or.inl (Or.inl rfl)) (.slice (some ⟨g,0,none⟩) (m.back.length+1) cap');have F:jM w y.bk (.slice (some ⟨g,0,none⟩) (m.back.length+1) cap'):=by
  rcases hg with e|e
  ·exact Or.inl (by rw[hov,e];rfl)
  ·exact Or.inr ⟨g,rfl,by have:=KH.size;first|omega|(simp at e;omega)⟩
 have o2:Own w2 3 1 wD (.slice (some ⟨g,0,none⟩) (m.back.length+1) cap') (m.back++[i]):=by
  exact Us86
 have O:=o2.kept (Kept.one w2 y.a 1 (.slice (some ⟨g,0,none⟩) (m.back.length+1) cap')) (λb e z=>o2.ne s2 U0 (z▸e))
 exact⟨rfl,_,h.kX K2 (λk z=>z.elim Or.inl (λz=>Or.inr (z.elim Or.inl (λz=>Or.inr (Or.inl z))))) _ _ _ _ _ U8 (s2.set 1 _) (t2.far (by exact hyh) _) O F,F,K2⟩
def dA(L:List Int)(a k:Nat)(n:Int):Nat->List Int
 |0=>L
 |j+1=>if a<=j/\j<a+k then(dA L a k n j).set j n else dA L a k n j
def fQ(L:List Int)(a k:Nat)(n:Int):List Int:=dA L a k n L.length
theorem jh(L:List Int)(a k:Nat)(n:Int):∀j,(dA L a k n j).length=L.length
 |0=>rfl
 |j+1=>by
  unfold dA
  split
  ·rw[List.length_set];exact jh L a k n j
  ·exact jh L a k n j
theorem nJ(L:List Int)(a k:Nat)(n:Int):(fQ L a k n).length=L.length:=jh L a k n L.length
theorem zZ(w:World)(s d:Nat)(L:List Int)(a k:Nat)(n:Int)(h:aD w s d L)(hL:L.length<=1000000)(ha:a<=1000000)(hk:k<=1000000):
  Cs 128 #[.pointer (some ⟨s,0,none⟩),a,k,n] w (.tuple #[]) λw'=>aD w' s d (fQ L a k n)/\Kept (One d) w w':=by
 have cS:=Hd (λw h=>qP w s d L h);have d0:decide ((a:Int)<0)=false:=by simp
 have d1:decide ((0:Int)<=(a:Int))=true:=by simp
 unfold fQ;generalize hlen:L.length=len at*;go_enter func128,ntmps128
 go_wp2_with (go_at_call 202;refine(cS.o _ h).r ?_)
 go_loopw [20] (λi wr=>∃j:Nat,j<=len/\i=.int .i64 j/\aD wr s d (dA L a k n j)/\Kept (One d) w wr) (λi _=>len-(intOf i).toNat)
 case atStart=>exact⟨0,n0 _,rfl,h,Kept.refl _ _⟩
 case round=>
  obtain⟨j,hj,rfl,hS,hK⟩:=hrel
  by_cases hlt:j<len
  ·have hw:wrap64 ((j:Int)+1)=((j+1:Nat):Int):=(xG _ U2).trans U8
   have hlt':(j:Int)<(len:Int):=by omega
   have fl:=jh L a k n j;obtain⟨cap,hb⟩:=hS.fs;have x0:wr.cell? ⟨s,0,none⟩=some (.slice (some ⟨d,0,none⟩) len cap):=by rw[fl,hlen]at hb;exact hb.cell 0
   have xj:wr.cell? ⟨d,j,none⟩=some (.int .i64 ((dA L a k n j).getD j 0)):=(hS.ws.cell j).trans (jZ _ j U2);have zd:=hS.ws.fz
   by_cases c1:a<=j
   ·have e1:wrap64 ((j:Int)-(a:Int))=(((j-a:Nat)):Int):=(xG _ U2).trans U2
    by_cases c2:j-a<k
    ·have ef:dA L a k n (j+1)=(dA L a k n j).set j n:=by
      show(if a<=j/\j<a+k then _ else _)=_
      rw[if_pos ⟨c1,by omega⟩]
     go_wp2_with fail
     go_roundw
     case rel=>exact⟨j+1,by omega,by simp,by rw[ef];exact hS.set j n,hK.set (p:=⟨d,j,none⟩) (Or.inl rfl) _⟩
     case measure=>simp[intOf];omega
    ·exact Us53
   ·exact Us53
  ·obtain rfl:j=len:=by omega
   go_wp2_with fail
   go_end0
   exact⟨rfl,hS,hK⟩
theorem oq{α β:Type}(f:α->List β)(n:Nat)(hf:∀x,(f x).length=n):∀(l:List α)(i:Nat)(y:α),i<l.length->(l.flatMap f).take (n*i)++f y++(l.flatMap f).drop (n*i+n)=(l.set i y).flatMap f
 |x::l,0,y,_=>by
  simp only[List.flatMap_cons,Nat.mul_zero,List.take_zero,List.nil_append,Nat.zero_add,List.set_cons_zero]
  congr 1
  rw[<-hf x,List.drop_left]
 |x::l,i+1,y,hi=>by
  simp only[List.flatMap_cons,List.set_cons_succ];have e1:n*(i+1)=(f x).length+n*i:=by rw[hf,Nat.mul_add];omega
  rw[e1,List.take_append,List.take_of_length_le U2,Nat.add_sub_cancel_left,Nat.add_assoc,List.drop_append,List.drop_eq_nil_of_le U2,List.nil_append,Nat.add_sub_cancel_left,List.append_assoc,List.append_assoc]
  congr 1
  rw[<-List.append_assoc]
  exact oq f n hf l i y U82
theorem l9{P:Program}{ops:Array Oper}{rest:List Oper}{o:Oper}{a:Act}{w:World}{Q:Exit->Act->World->Prop}(hgd:o.guard=none)(ty:TypeId)(x y:Operand)(ho:o.op=.store ty x y)
  (b i:Nat) (F:List Fr) (t:TypeId) (f:Fr) (hb:af w b (rows Fr.cells F) t) (hlt:i<F.length) (off:Nat) (hoff:off=19*i) (hx:a.eval x=.pointer (some ⟨b,off,none⟩)) (hy:a.eval y=.agg f.cells.toArray)
  (hi:(P.info? ty).map (·.size)=some 19)
  (h:∀w',af w' b (rows Fr.cells (F.set i f)) t->Kept (One b) w w'->wpList P ops Q rest (a.put o.dst undef) w'):wpList P ops Q (o::rest) a w:=by
 subst hoff;have hlen:(rows Fr.cells F).size=19*F.length:=by unfold rows;rw[List.size_toArray];exact gQ Fr.cells 19 (λ_=>rfl) F
 have h1:∀v∈f.cells,v.oneCell'=true:=by
  intro v hv;simp only[Fr.cells,List.mem_cons,List.not_mem_nil,or_false]at hv
  rcases hv with e|e|e|e|e|e|e|e|e|e|e|e|e|e|e|e|e|e|e<;>subst e<;>rfl
 have hrun:=run_storeCells_at P b (19*i) t f.cells 0 (rows Fr.cells F) w hb (by rw[hlen];show 19*i+0+19<=_;omega) h1;have hst:(storeVar ty ⟨b,19*i,none⟩ (.agg f.cells.toArray)).run P w=.ok () (w.setRow b (rows Fr.cells (F.set i f))):=by
  cases hq:P.info? ty with
  |none=>simp[hq]at hi
  |some q=>
   have hs:q.size=19:=by simpa[hq]using hi
   have e:((rows Fr.cells F).toList.take (19*i+0)++f.cells++(rows Fr.cells F).toList.drop (19*i+0+f.cells.length)).toArray=rows Fr.cells (F.set i f):=by
    unfold rows;rw[<-oq Fr.cells 19 (λ_=>rfl) F i f hlt]
    rfl
   rw[e]at hrun;simp[storeVar,sizeOf,typeInfo,hq,Value.cells,hs,hrun]
   rfl
 refine wpList_plain hgd λ_ hK=>?_;unfold Oper.wp execOp;simp only[ho,hx,hy,Instr.storeAt,Instr.sureAddr,Sem.run_bind,Sem.run_pure,Result.andThen_ok,hst]
 exact hK _ _ (h _ (setRow_heap w b _ _ t (0,0) hb) ⟨rfl,rfl,rfl,by simp,λk _ hn=>setRow_other w b k _ hn⟩)
theorem wQ(w:World)(y:Ly)(m:Co)(h:bI w y m)(i:Nat)(hok:m.ok i)(hl:m.back.length<=1001)(hl2:m.Sj.length<=1001):
  Cs 239 #[.pointer (some ⟨y.t,0,none⟩),i] w (.bool true) λw'=>∃v,bI w' {y with bk:=v} (m.Si i)/\jM w y.bk v/\Kept (Three y) w w':=by
 have c1:=Hd (JZ w y m h i hok hl hl2);have x5:w.cell? ⟨y.t,5,none⟩=some (.pointer (some ⟨y.a,0,none⟩)):=h.table.cell 5;generalize m.Si i=G at*;generalize Three y=S3 at*;clear h hok hl hl2;go_enter func239,ntmps239
 go_wp2_with (go_at_call 280;refine c1.o.mono ?_;rintro ev w1 ⟨rfl,v,C1,F1,K1⟩)
 go_ret
 exact⟨rfl,v,C1,F1,K1⟩
def Pl.fN(p:Pl)(id:Int):Nat:=(p.frame id).toNat
def Pl.rN(p:Pl):Nat:=p.room.toNat
theorem kP(p:Pl)(h:p.ok)(id:Int):p.frame id=(p.fN id:Int):=by
 have q:=iU p h id;unfold Pl.fN;rw[Int.toNat_of_nonneg U2]
theorem wK(p:Pl)(h:p.ok):p.room=(p.rN:Int):=by
 have q:=gB p h;unfold Pl.rN;rw[Int.toNat_of_nonneg U2]
def Co.made(m:Co)(i:Nat)(B:List Nat)(f:Nat)(x:Fr):Co:=
 {m.taken i B f with aJ:=m.aJ.set i x,RY:=fQ (fQ m.RY (m.pl.fN i) m.pl.rN 0) (m.pl.fN i) 1 1}
theorem og{P:Program}{ops:Array Oper}{w:World}{Q:Act->Prop}{a:Act}{o:Oper}{rest:List Oper}(hgd:o.guard=none)(ty:TypeId)(x:Operand)(ho:o.op=.load ty x)
  (b:Nat) (cs:Array Value) (t:TypeId) (d:TypeDesc) (hb:af w b cs t) (hx:a.eval x=.pointer (some ⟨b,0,none⟩)) (hu:P.underlying ty=some d) (hd:(match d with| .struct _| .array _ _=>true|_=>false)=true) (hi:(P.info? ty).map (·.size)=some cs.size)
  (h:wpStill P ops w Q rest (a.put o.dst (.agg cs))):wpStill P ops w Q (o::rest) a:=by
 have hl:=run_loadVar_row w b t ty cs (0,0) d hb hu (by cases d<;>first|exact hd|rfl) hi;show if Region.wanted o (yielded ops a.tmps)=true then _ else _;rw[if_pos (by simp[Region.wanted,hgd])];unfold Oper.still execOp;simp only[ho,hx,Instr.loadAt,Instr.sureAddr,Sem.run_bind,Sem.run_pure,Result.andThen_ok,hl]
 exact⟨rfl,h⟩
theorem Hz(k0 fn0 pc0 r0 r1 r2 r3 r4 r5 r6 r7 pa:Int)(di du:Bool)(ix:Nat)(sg fo:Int)(sd:Nat)(sr:Int)(w:World)(y:Ly)(m:Co)(h:bI w y m)(ha:m.gG)(hp:m.pick=none):
  Cs 86 #[.pointer (some ⟨y.t,0,none⟩),.agg #[k0,fn0,pc0,r0,r1,r2,r3,r4,r5,r6,r7,pa,.bool di,.bool du,ix,sg,fo,sd,sr]] w (.tuple #[(0:Int),.bool false]) λw'=>Below w.heap.size w w':=by
 have h1:=h.lH (.cells #[k0,fn0,pc0,r0,r1,r2,r3,r4,r5,r6,r7,pa,.bool di,.bool du,ix,sg,fo,sd,sr] 176);have c1:=Hd (Lj _ y m h1 ha hp);have x5:(w.alloc (.cells #[k0,fn0,pc0,r0,r1,r2,r3,r4,r5,r6,r7,pa,.bool di,.bool du,ix,sg,fo,sd,sr] 176)).cell? ⟨y.t,5,none⟩=some (.pointer (some ⟨y.a,0,none⟩)):=h1.table.cell 5;have b0:Below w.heap.size w (w.alloc (.cells #[k0,fn0,pc0,r0,r1,r2,r3,r4,r5,r6,r7,pa,.bool di,.bool du,ix,sg,fo,sd,sr] 176)):=Ba _;clear h h1 ha hp;go_enter func86,ntmps86;go_upto_region 1 with fail;generalize w.alloc (.cells #[k0,fn0,pc0,r0,r1,r2,r3,r4,r5,r6,r7,pa,.bool di,.bool du,ix,sg,fo,sd,sr] 176)=W at*
 go_wp2_with (go_at_call 127;refine c1.o.q λw1 Sr=> ?_)
 go_ret2
 exact⟨rfl,b0.trans (Sr.mono b0.size)⟩
def Bd(y:Ly):Nat->Prop:=λk=>k=y.a∨k=y.hl∨k=y.fr∨k=y.wd
theorem wR(k0 fn0 pc0 r0 r1 r2 r3 r4 r5 r6 r7 pa:Int)(di du:Bool)(ix:Nat)(sg fo:Int)(sd:Nat)(sr:Int)(w:World)(y:Ly)(m:Co)(h:bI w y m)(ha:m.gG)(i:Nat)(B:List Nat)(f:Nat)(hp:m.pick=some (i,B,f)):
  Cs 86 #[.pointer (some ⟨y.t,0,none⟩),.agg #[k0,fn0,pc0,r0,r1,r2,r3,r4,r5,r6,r7,pa,.bool di,.bool du,ix,sg,fo,sd,sr]] w (.tuple #[i,.bool true]) λw'=>∃v,bI w' {y with bk:=v} (m.made i B f (⟨k0,fn0,pc0,⟨r0,r1,r2,r3,r4,r5,r6,r7⟩,pa,di,du,ix,sg,fo,sd,sr⟩:Fr))/\v.ownBlock=y.bk.ownBlock/\Kept (Bd y) w w':=by
 have h1:=h.lH (.cells #[k0,fn0,pc0,r0,r1,r2,r3,r4,r5,r6,r7,pa,.bool di,.bool du,ix,sg,fo,sd,sr] 176);have hi:=pg ha hp;have hif:i<m.aJ.length:=by have:=h.hlen;omega
 have hif':(i:Int)<(m.aJ.length:Int):=by omega
 have c1:=Hd (Db _ y m h1 ha i B f hp);have bg:=af.new w #[k0,fn0,pc0,r0,r1,r2,r3,r4,r5,r6,r7,pa,.bool di,.bool du,ix,sg,fo,sd,sr] 176 _ rfl;have KK0:Kept (Bd y) w (w.alloc (.cells #[k0,fn0,pc0,r0,r1,r2,r3,r4,r5,r6,r7,pa,.bool di,.bool du,ix,sg,fo,sd,sr] 176)):=(Kept.refl _ _).alloc _;have x5:(w.alloc (.cells #[k0,fn0,pc0,r0,r1,r2,r3,r4,r5,r6,r7,pa,.bool di,.bool du,ix,sg,fo,sd,sr] 176)).cell? ⟨y.t,5,none⟩=some (.pointer (some ⟨y.a,0,none⟩)):=h1.table.cell 5;have nga:w.heap.size≠y.a:=by have:=h.arena.lt;omega
 have ngh:w.heap.size≠y.hl:=by have:=h.Sj.lt;omega
 have ngf:w.heap.size≠y.fr:=by have:=h.frames.lt;omega
 go_enter func86,ntmps86;go_upto_region 1 with fail;generalize w.alloc (.cells #[k0,fn0,pc0,r0,r1,r2,r3,r4,r5,r6,r7,pa,.bool di,.bool du,ix,sg,fo,sd,sr] 176)=W at*;generalize hg:w.heap.size=g at*
 go_upto_region 6 with(go_at_call 127;refine c1.o.mono ?_;rintro ev w1 ⟨rfl,v,C1,hv,k1⟩;have g1:=k1.blk bg (λz=>z.elim nga ngh);have x6:w1.cell? ⟨y.t,6,none⟩=some (.slice (some ⟨y.fr,0,none⟩) m.aJ.length m.aJ.length):=C1.table.cell 6)
 have G1:=Hd g1;clear g1 bg;have C1F:=C1.frames
 go_still_tail 7,U7
 refine og rfl 176 (.tmp 3) rfl g _ 176 _ G1.out rfl underlying176 rfl dm ?_
 repeat still_step
 try refine wpStill_nil ?_
 refine l9 rfl 176 (.tmp 26) (.tmp 25) rfl y.fr i m.aJ 176 (⟨k0,fn0,pc0,⟨r0,r1,r2,r3,r4,r5,r6,r7⟩,pa,di,du,ix,sg,fo,sd,sr⟩:Fr) C1F hif _ (Nat.mul_comm _ _) rfl rfl dm ?_;intro w2 b2 k2;have Q0:Kept (One y.fr) w1 w2:=(Kept.refl _ w1).drew.trans k2;have C2:=C1.qY Q0 (λk z=>Or.inl z) (m.aJ.set i (⟨k0,fn0,pc0,⟨r0,r1,r2,r3,r4,r5,r6,r7⟩,pa,di,du,ix,sg,fo,sd,sr⟩:Fr)) (by simp;rfl) b2;have KA:Kept (Bd y) w w2:=(KK0.trans (k1.mono (λk z=>z.elim Or.inl (λz=>Or.inr (Or.inl z))))).trans (Q0.mono (λk z=>Or.inr (Or.inr (Or.inl z))));have W2:aD w2 y.ws y.wd m.RY:=C2.RY;have T2:af w2 y.t #[m.pl.wk,m.pl.fr,m.pl.th,m.pl.dq,.pointer (some ⟨y.ws,0,none⟩),.pointer (some ⟨y.a,0,none⟩),.slice (some ⟨y.fr,0,none⟩) (m.aJ.set i (⟨k0,fn0,pc0,⟨r0,r1,r2,r3,r4,r5,r6,r7⟩,pa,di,du,ix,sg,fo,sd,sr⟩:Fr)).length (m.aJ.set i (⟨k0,fn0,pc0,⟨r0,r1,r2,r3,r4,r5,r6,r7⟩,pa,di,du,ix,sg,fo,sd,sr⟩:Fr)).length] 145 :=C2.table;have cF:=Hd (λw=>mJ m.pl h.bQ i w);have cR:=Hd (λw=>uL m.pl h.bQ w);rw[kP m.pl h.bQ]at cF;rw[wK m.pl h.bQ]at cR;have wl:=(mR m.pl h.bQ);have hwl:m.RY.length<=1000000:=by have:=h.bU;omega
 have fN1:m.pl.fN i<=1000000:=by have:=iU m.pl h.bQ i;have:=kP m.pl h.bQ i;omega
 have rN1:m.pl.rN<=1000000:=by have:=gB m.pl h.bQ;have:=wK m.pl h.bQ;omega
 have cI:=Hd (λw h=>zZ w y.ws y.wd m.RY (m.pl.fN i) m.pl.rN 0 h hwl fN1 rN1);have cJ:=Hd (λw h=>zZ w y.ws y.wd (fQ m.RY (m.pl.fN i) m.pl.rN 0) (m.pl.fN i) 1 1 h (by rw[nJ];exact hwl) fN1 U0);have nds:¬One y.wd y.t:=λz=>h.table.ne h.RY.ws U0 z;have FL2:=(nJ (fQ m.RY (m.pl.fN i) m.pl.rN 0) (m.pl.fN i) 1 1).trans (nJ m.RY (m.pl.fN i) m.pl.rN 0);generalize hl2:fQ (fQ m.RY (m.pl.fN i) m.pl.rN 0) (m.pl.fN i) 1 1=L2 at*;have HL2:=Hd hl2;clear hl2;generalize hl1:fQ m.RY (m.pl.fN i) m.pl.rN 0=L1 at*;have HL1:=Hd hl1;clear hl1;generalize hfn:m.pl.fN i=fn at*;have HFN:=Hd hfn;clear hfn;generalize hrn:m.pl.rN=rn at*;have HRN:=Hd hrn;clear hrn;generalize m.pl.wk=pa1 at*;generalize m.pl.fr=pb1 at*;generalize m.pl.th=pc1 at*;generalize m.pl.dq=pd1 at*;have lt2:=T2.lt;clear x6;have taw2:w2.cell? ⟨y.t,0,none⟩=some ↑pa1:=T2.cell 0;have tbw2:w2.cell? ⟨y.t,1,none⟩=some ↑pb1:=T2.cell 1;have tcw2:w2.cell? ⟨y.t,2,none⟩=some ↑pc1:=T2.cell 2;have tdw2:w2.cell? ⟨y.t,3,none⟩=some ↑pd1:=T2.cell 3;have tew2:w2.cell? ⟨y.t,4,none⟩=some (.pointer (some ⟨y.ws,0,none⟩)):=T2.cell 4;go_upto_region 7 with fail
 go_region_held3 (λw'=>w'.cell? ⟨y.t,0,none⟩=some ↑pa1/\w'.cell? ⟨y.t,1,none⟩=some ↑pb1/\w'.cell? ⟨y.t,2,none⟩=some ↑pc1/\w'.cell? ⟨y.t,3,none⟩=some ↑pd1/\w'.cell? ⟨y.t,4,none⟩=some (.pointer (some ⟨y.ws,0,none⟩)))
  (exact U158)
  (first|(go_at_call 129;refine(cF.o _).q λw3 hb3=> ?_;have lt3:=nL lt2 hb3.size)|(go_at_call 124;refine(cR.o _).q λw4 hb4=> ?_;have lt4:=nL lt3 hb4.size)|(go_at_call 128;refine(cI.o _ (by first|exact(W2.ai hb3).ai hb4|exact(W2.drew.ai hb3).ai hb4|exact(W2.drew.drew.ai hb3).ai hb4|exact(W2.drew.ai hb3).drew.ai hb4|exact(W2.ai hb3).drew.ai hb4)).mono ?_;rintro ev w5 ⟨rfl,s5,k5⟩;have lt5:=nL lt4 k5.size))
 all_goals
  have B3:Below w2.heap.size w2 w3:=by first|exact hb3|exact(Below.refl _ _).drew.trans hb3|exact(Below.refl _ _).drew.drew.trans hb3
  have B4:Below w3.heap.size w3 w4:=by first|exact hb4|exact(Below.refl _ _).drew.trans hb4
  have B5:Kept (One y.wd) w4 w5:=by first|exact k5|exact(Kept.refl _ _).drew.trans k5
  have K5:Kept (One y.wd) w2 w5:=((Kept.ob B3).trans (Kept.ob B4)).trans B5;have T5:=K5.blk T2 nds;have taw5:w5.cell? ⟨y.t,0,none⟩=some ↑pa1:=T5.cell 0;have tbw5:w5.cell? ⟨y.t,1,none⟩=some ↑pb1:=T5.cell 1;have tcw5:w5.cell? ⟨y.t,2,none⟩=some ↑pc1:=T5.cell 2;have tdw5:w5.cell? ⟨y.t,3,none⟩=some ↑pd1:=T5.cell 3;have tew5:w5.cell? ⟨y.t,4,none⟩=some (.pointer (some ⟨y.ws,0,none⟩)):=T5.cell 4;clear taw2 tbw2 tcw2 tdw2 tew2;go_upto_region 8 with fail
  go_region_held3 (λw'=>w'.cell? ⟨y.t,0,none⟩=some ↑pa1/\w'.cell? ⟨y.t,1,none⟩=some ↑pb1/\w'.cell? ⟨y.t,2,none⟩=some ↑pc1/\w'.cell? ⟨y.t,3,none⟩=some ↑pd1/\w'.cell? ⟨y.t,4,none⟩=some (.pointer (some ⟨y.ws,0,none⟩)))
   (exact U158)
   (first|(go_at_call 129;refine(cF.o _).q λw6 hb6=> ?_;have lt6:=nL lt5 hb6.size)|(go_at_call 128;refine(cJ.o _ (by first|exact s5.ai hb6|exact s5.drew.ai hb6|exact s5.drew.drew.ai hb6)).mono ?_;rintro ev w7 ⟨rfl,s7,k7⟩))
  all_goals
   have B6:Below w5.heap.size w5 w6:=by first|exact hb6|exact(Below.refl _ _).drew.trans hb6|exact(Below.refl _ _).drew.drew.trans hb6
   have B7:Kept (One y.wd) w6 w7:=by first|exact k7|exact(Kept.refl _ _).drew.trans k7
   have K7:Kept (One y.wd) w2 w7:=(K5.trans (Kept.ob B6)).trans B7;have C7:=C2.aC K7 (λk z=>Or.inl z) L2 s7 FL2;have KZ:Kept (Bd y) w w7:=KA.trans (K7.mono (λk z=>Or.inr (Or.inr (Or.inr z))));go_wp2_with fail
   go_ret2
   have e2:=HL2.o;have e1:=HL1.o;have e3:=HFN.o;have e4:=HRN.o;subst e2 e1 e3 e4
   exact⟨rfl,v,by first|exact C7|exact C7.ai (Below.refl _ _).drew,hv,by first|exact KZ|exact KZ.drew⟩
theorem qV(x:Fr)(w:World)(y:Ly)(m:Co)(h:bI w y m)(ha:m.gG)(i:Nat)(B:List Nat)(f:Nat)(hp:m.pick=some (i,B,f)):
  Cs 86 #[.pointer (some ⟨y.t,0,none⟩),x.v] w (.tuple #[i,.bool true]) λw'=>∃v,bI w' {y with bk:=v} (m.made i B f x)/\v.ownBlock=y.bk.ownBlock/\Kept (Bd y) w w':=by
 obtain⟨k0,fn0,pc0,⟨r0,r1,r2,r3,r4,r5,r6,r7⟩,pa,di,du,ix,sg,fo,sd,sr⟩:=x
 exact wR k0 fn0 pc0 r0 r1 r2 r3 r4 r5 r6 r7 pa di du ix sg fo sd sr w y m h ha i B f hp
theorem ze(x:Fr)(w:World)(y:Ly)(m:Co)(h:bI w y m)(ha:m.gG)(hp:m.pick=none):
  Cs 86 #[.pointer (some ⟨y.t,0,none⟩),x.v] w (.tuple #[(0:Int),.bool false]) λw'=>Below w.heap.size w w':=by
 obtain⟨k0,fn0,pc0,⟨r0,r1,r2,r3,r4,r5,r6,r7⟩,pa,di,du,ix,sg,fo,sd,sr⟩:=x
 exact Hz k0 fn0 pc0 r0 r1 r2 r3 r4 r5 r6 r7 pa di du ix sg fo sd sr w y m h ha hp
inductive Tn where
 |aL
 |runs (i:Int)
structure WS where
 Sq:Int
 R8:Int
 Sa:Int
 tail:Int
 ag:Int
 dq:Option DW
 thn:Option Tn
 other:Int
 aB:Int
 gw:Bool
 gl:Bool
 gy:Int
 eh:Bool
 eb:Bool
 er:Int
 ew:Bool
 rt:Option RW
 wk:Option (NW×Bool)
 np:Option NW
def WS.arr(x:WS)(dv tv rv pv kv nv:Value):Array Value:= #[x.Sq,x.R8,x.Sa,x.tail,x.ag,dv,tv,x.other,x.aB,.bool x.gw,.bool x.gl,x.gy,.bool x.eh,.bool x.eb,x.er,.bool x.ew,rv,pv,kv,nv]
structure Gw where
 bd:Nat
 br:Nat
 bw:Nat
 bn:Nat
 bv:Nat
 bt:Nat
abbrev ptr(b:Nat):Value:=.pointer (some ⟨b,0,none⟩)
def Tn.V(w:World)(q:Nat)(g:Gw):Tn->Value->Prop
 | .aL,v=>v=mv 159 q
 | .runs i,v=>v=.func (.func 155) #[] #[ptr g.bv,ptr g.bt]/\af w g.bv #[ptr q] 65 /\af w g.bt #[i] 3
def rW(w:World)(q:Nat)(g:Gw)(x:WS):Prop:=
 ∃dv tv rv pv kv nv,af w q (x.arr dv tv rv pv kv nv) 131 /\(∀r,x.dq=some r->dv=ptr g.bd/\dw w g.bd r)/\(∀t,x.thn=some t->t.V w q g tv)/\
  (∀r,x.rt=some r->rv=ptr g.br/\af w g.br r.arr 281)/\(∀r,x.wk=some r->kv=ptr g.bw/\af w g.bw (r.1.rG r.2) 288)/\(∀r,x.np=some r->nv=ptr g.bn/\af w g.bn r.arr 307)
def Gw.has(g:Gw)(x:WS)(b:Nat):Prop:=(x.dq≠none/\b=g.bd)∨(x.rt≠none/\b=g.br)∨(x.wk≠none/\b=g.bw)∨(x.np≠none/\b=g.bn)∨((∃i,x.thn=some (.runs i))/\(b=g.bv∨b=g.bt))
theorem dF{α:Type}{o:Option α}{r:α}(h:o=some r):o≠none:=by rw[h];exact λz=>by cases z
theorem rW.kept{S:Nat->Prop}{w w':World}{q:Nat}{g:Gw}{x:WS}(h:rW w q g x)(k:Kept S w w')(sh:Shut w w')(hq:¬S q)(hs:∀b,g.has x b->¬S b):rW w' q g x:=by
 obtain⟨dv,tv,rv,pv,kv,nv,hb,h1,h2,h3,h4,h5⟩:=h;refine⟨dv,tv,rv,pv,kv,nv,k.blk hb hq,λr e=>?_,λt e=>?_,λr e=>⟨(h3 r e).1,k.blk (h3 r e).2 (hs _ (Or.inr (Or.inl ⟨dF e,rfl⟩)))⟩,λr e=>⟨(h4 r e).1,k.blk (h4 r e).2 (hs _ (Or.inr (Or.inr (Or.inl ⟨dF e,rfl⟩))))⟩,λr e=>⟨(h5 r e).1,k.blk (h5 r e).2 (hs _ (Or.inr (Or.inr (Or.inr (Or.inl ⟨dF e,rfl⟩)))))⟩⟩
 ·obtain⟨e1,v,hv,hn⟩:=h1 r e
  exact⟨e1,v,k.blk hv (hs _ (Or.inl ⟨dF e,rfl⟩)),hn.shut sh⟩
 ·have ht:=h2 t e
  cases t with
  |aL=>exact ht
  |runs i=>
   obtain⟨e1,e2,e3⟩:=ht
   exact⟨e1,k.blk e2 (hs _ (Or.inr (Or.inr (Or.inr (Or.inr ⟨⟨i,e⟩,Or.inl rfl⟩))))),k.blk e3 (hs _ (Or.inr (Or.inr (Or.inr (Or.inr ⟨⟨i,e⟩,Or.inr rfl⟩)))))⟩
structure Lay where
 c:Nat
 ws:Nat
 wd:Nat
 ds:Nat
 dd:Nat
 t:Nat
 fr:Nat
 a:Nat
 hl:Nat
 o:Nat
 g:Nat
 cv:Value
 cb:List Nat
 wq:Nat->Nat
 B:Nat
 w0:World
 X:Nat->Option Obj
def Lay.y(z:Lay)(bk ov gv:Value):Ly:=⟨z.c,z.ws,z.wd,z.ds,z.dd,z.t,z.fr,z.a,z.hl,bk,z.o,ov,z.g,gv,z.cv,z.cb⟩
structure MS where
 co:Co
 ws:List WS
structure ve(z:Lay)(w:World)(M:MS)(bk ov gv:Value)(g:Nat->Gw):Prop where
 co:bI w (z.y bk ov gv) M.co
 wk:∀k (h:k<M.ws.length),rW w (z.wq k) (g k) M.ws[k]
 yB:∀b,(z.y bk ov gv).has b->z.B<=b
 oB:∀k (h:k<M.ws.length) b,(b=z.wq k∨(g k).has M.ws[k] b)->z.B<=b/\b<w.heap.size/\¬(z.y bk ov gv).has b
 od:∀k j (h:k<M.ws.length) (h':j<M.ws.length),k≠j->∀b,(b=z.wq k∨(g k).has M.ws[k] b)->¬(b=z.wq j∨(g j).has M.ws[j] b)
 ai:Below z.B z.w0 w
 xt:∀b o,z.X b=some o->w.heap[b]? =some o/\¬(z.y bk ov gv).has b/\∀k (h:k<M.ws.length),¬(b=z.wq k∨(g k).has M.ws[k] b)
def fM(z:Lay)(w:World)(M:MS):Prop:=∃bk ov gv g,ve z w M bk ov gv g
theorem ve.turn{z:Lay}{w w':World}{M:MS}{bk ov gv:Value}{g:Nat->Gw}(R:ve z w M bk ov gv g){S:Nat->Prop}(kp:Kept S w w')(sh:Shut w w')(k:Nat)(hk:k<M.ws.length)
  (hS:∀b,S b->(z.y bk ov gv).has b∨b=z.wq k∨(g k).has M.ws[k] b) (co':Co) (bk' ov' gv':Value) (C:bI w' (z.y bk' ov' gv') co') (hy:∀b,(z.y bk' ov' gv').has b->(z.y bk ov gv).has b∨w.heap.size<=b)
  (x':WS) (g':Gw) (W:rW w' (z.wq k) g' x') (hg:∀b,g'.has x' b->(g k).has M.ws[k] b∨w.heap.size<=b) (hl:∀b,g'.has x' b->b<w'.heap.size) (hd:∀b,(b=z.wq k∨g'.has x' b)->¬(z.y bk' ov' gv').has b):
  fM z w' ⟨co',M.ws.set k x'⟩:=by
 have sz:=kp.size;have hB:z.B<=w.heap.size:=Nat.le_of_lt (Nat.lt_of_le_of_lt (R.yB z.c (Or.inl rfl)) R.co.core.lt);have oldS:∀j (hj:j<M.ws.length),j≠k->∀b,(b=z.wq j∨(g j).has M.ws[j] b)->¬S b:=λj hj hjk b hb hs=>by
  rcases hS b hs with h1|h1
  ·exact(R.oB j hj b hb).2.2 h1
  ·exact R.od j k hj hk hjk b hb h1
 refine⟨bk',ov',gv',λj=>if j=k then g' else g j,C,λj hj=>?_,λb hb=>?_,λj hj b hb=>?_,λi j hi hj hij b hb hb'=>?_,?_,λb o hX=>?_⟩
 ·have hj':j<M.ws.length:=by simpa using hj
  by_cases e:j=k
  ·subst e
   simp only[List.getElem_set_self,if_true]
   exact W
  ·simp only[if_neg e]
   rw[List.getElem_set_ne (λq=>e q.symm)]
   exact(R.wk j hj').kept kp sh (oldS j hj' e _ (Or.inl rfl)) (λb hb=>oldS j hj' e b (Or.inr hb))
 ·rcases hy b hb with h1|h1
  ·exact R.yB b h1
  ·omega
 ·have hj':j<M.ws.length:=by simpa using hj
  by_cases e:j=k
  ·subst e
   simp only[List.getElem_set_self,if_true]at hb;refine⟨?_,?_,hd b hb⟩
   ·rcases hb with h1|h1
    ·exact(R.oB j hk b (Or.inl h1)).1
    ·rcases hg b h1 with h2|h2
     ·exact(R.oB j hk b (Or.inr h2)).1
     ·omega
   ·rcases hb with h1|h1
    ·exact nL (R.oB j hk b (Or.inl h1)).2.1 sz
    ·exact hl b h1
  ·simp only[if_neg e]at hb
   rw[List.getElem_set_ne (λq=>e q.symm)]at hb;obtain⟨h1,h2,h3⟩:=R.oB j hj' b hb;refine⟨h1,nL h2 sz,λq=>?_⟩
   rcases hy b q with h4|h4
   ·exact h3 h4
   ·omega
 ·have hi':i<M.ws.length:=by simpa using hi
  have hj':j<M.ws.length:=by simpa using hj
  by_cases e:i=k
  ·subst e
   have ej:¬j=i:=λq=>hij q.symm;simp only[List.getElem_set_self,if_true]at hb;simp only[if_neg ej]at hb';rw[List.getElem_set_ne (λq=>ej q.symm)]at hb'
   rcases hb with h1|h1
   ·exact R.od i j hi' hj' hij b (Or.inl h1) hb'
   ·rcases hg b h1 with h2|h2
    ·exact R.od i j hi' hj' hij b (Or.inr h2) hb'
    ·have:=(R.oB j hj' b hb').2.1
     omega
  ·simp only[if_neg e]at hb
   rw[List.getElem_set_ne (λq=>e q.symm)]at hb
   by_cases ej:j=k
   ·subst ej
    simp only[List.getElem_set_self,if_true]at hb'
    rcases hb' with h1|h1
    ·exact R.od i j hi' hj' hij b hb (Or.inl h1)
    ·rcases hg b h1 with h2|h2
     ·exact R.od i j hi' hj' hij b hb (Or.inr h2)
     ·have:=(R.oB i hi' b hb).2.1
      omega
   ·simp only[if_neg ej]at hb'
    rw[List.getElem_set_ne (λq=>ej q.symm)]at hb'
    exact R.od i j hi' hj' hij b hb hb'
 ·refine R.ai.trans (kp.below (λb hb=>?_) hB)
  rcases hS b hb with h1|h1
  ·exact R.yB b h1
  ·exact(R.oB k hk b h1).1
 ·obtain⟨x1,x2,x3⟩:=R.xt b o hX
  have xl:b<w.heap.size:=(Array.getElem?_eq_some_iff.1 x1).1;refine⟨(kp.block b xl (λq=>?_)).trans x1,λq=>?_,λj hj=>?_⟩
  ·rcases hS b q with h1|h1
   ·exact x2 h1
   ·exact x3 k hk h1
  ·rcases hy b q with h1|h1
   ·exact x2 h1
   ·omega
  ·have hj':j<M.ws.length:=by simpa using hj
   by_cases e:j=k
   ·subst e
    simp only[List.getElem_set_self,if_true];rintro(h1|h1)
    ·exact x3 j hk (Or.inl h1)
    ·rcases hg b h1 with h2|h2
     ·exact x3 j hk (Or.inr h2)
     ·omega
   ·simp only[if_neg e]
    rw[List.getElem_set_ne (λq=>e q.symm)]
    exact x3 j hj'
theorem ve.fC{z:Lay}{w w':World}{M:MS}{bk ov gv:Value}{g:Nat->Gw}(R:ve z w M bk ov gv g){S:Nat->Prop}(kp:Kept S w w')(sh:Shut w w')
  (hS:∀b,S b->(z.y bk ov gv).has b) (co':Co) (bk' ov' gv':Value) (C:bI w' (z.y bk' ov' gv') co') (hy:∀b,(z.y bk' ov' gv').has b->(z.y bk ov gv).has b∨w.heap.size<=b):
  fM z w' ⟨co',M.ws⟩:=by
 have sz:=kp.size;have hB:z.B<=w.heap.size:=Nat.le_of_lt (Nat.lt_of_le_of_lt (R.yB z.c (Or.inl rfl)) R.co.core.lt);have oldS:∀j (hj:j<M.ws.length),∀b,(b=z.wq j∨(g j).has M.ws[j] b)->¬S b:=λj hj b hb hs=>(R.oB j hj b hb).2.2 (hS b hs);refine⟨bk',ov',gv',g,C,λj hj=>(R.wk j hj).kept kp sh (oldS j hj _ (Or.inl rfl)) (λb hb=>oldS j hj b (Or.inr hb)),λb hb=>?_,λj hj b hb=>?_,R.od,?_,λb o hX=>?_⟩
 ·rcases hy b hb with h1|h1
  ·exact R.yB b h1
  ·omega
 ·obtain⟨h1,h2,h3⟩:=R.oB j hj b hb
  refine⟨h1,nL h2 sz,λq=>?_⟩
  rcases hy b q with h4|h4
  ·exact h3 h4
  ·omega
 ·exact R.ai.trans (kp.below (λb hb=>R.yB b (hS b hb)) hB)
 ·obtain⟨x1,x2,x3⟩:=R.xt b o hX
  have xl:b<w.heap.size:=(Array.getElem?_eq_some_iff.1 x1).1;refine⟨(kp.block b xl (λq=>x2 (hS b q))).trans x1,λq=>?_,x3⟩
  rcases hy b q with h1|h1
  ·exact x2 h1
  ·omega
theorem bI.shut{w w':World}{y:Ly}{m:Co}(h:bI w y m){S:Nat->Prop}(k:Kept S w w')(hs:∀b,S b->y.has b):Shut w w':=Shut.kept k (λb hb=>by
 rcases hs b hb with rfl|rfl|rfl|rfl|rfl|rfl|rfl|rfl|rfl|e|rfl|e|rfl|e|e
 ·exact⟨_,_,h.core,by decide,by decide⟩
 ·obtain⟨_,q⟩:=h.RY.fs;exact⟨_,_,q,by decide,by decide⟩
 ·exact⟨_,_,h.RY.ws,by decide,by decide⟩
 ·obtain⟨_,q⟩:=h.data.fs;exact⟨_,_,q,by decide,by decide⟩
 ·exact⟨_,_,h.data.ws,by decide,by decide⟩
 ·exact⟨_,_,h.table,by decide,by decide⟩
 ·exact⟨_,_,h.frames,by decide,by decide⟩
 ·exact⟨_,_,h.arena,by decide,by decide⟩
 ·exact⟨_,_,h.Sj,by decide,by decide⟩
 ·obtain⟨cs,q⟩:=h.back.type e;exact⟨_,_,q,by decide,by decide⟩
 ·exact⟨_,_,h.sink,by decide,by decide⟩
 ·obtain⟨cs,q⟩:=h.out.type e;exact⟨_,_,q,by decide,by decide⟩
 ·exact⟨_,_,h.log,by decide,by decide⟩
 ·obtain⟨cs,q⟩:=h.evs.type e;exact⟨_,_,q,by decide,by decide⟩
 ·obtain⟨cs,t,h1,h2⟩:=h.nE b e
  exact⟨cs,t,h1,by rcases h2 with r|r<;>subst r<;>decide,by rcases h2 with r|r<;>subst r<;>decide⟩)
theorem fM.mE{z:Lay}{w w':World}{M:MS}(R:fM z w M)(k:Below w.heap.size w w'):fM z w' M:=by
 obtain⟨bk,ov,gv,g,R⟩:=R
 exact R.fC (S:=None) (Kept.ob k) (Shut.ai k) (λ_ q=>q.elim) M.co bk ov gv (R.co.ai k) (λb q=>Or.inl q)
theorem fM.drew'{z:Lay}{w:World}{M:MS}(R:fM z w M):fM z w.drew M:=R.mE (Below.refl _ _).drew
end Go.Proofs.YteiignfflbmafaaGreat.Tp
namespace Go.Proofs.YteiignfflbmafaaGreat.Tp
open Go.Proofs.Tryz
open Go.RowKit Go.Proofs.YteiignfflbmafaaGreat.Tok
variable {z:Lay} {l:List WS} {k:Nat} {w:World} {m:Co} {x:WS}
theorem Us7 {p:Prop} (h:p:=by
 unfold Ly.has Lay.y at q⊢;dsimp only at q⊢
 rcases F with e|⟨g0,e,hg⟩
 ·exact U149
 ·rw[e]at q
  simp only[Option.some.injEq]at q
  by_cases hb:w.heap.size<=b
  ·exact Or.inr hb
  ·left
   have ne:¬g0=b:=by omega
   simp only[ne,false_or]at q
   rcases q with q|q|q|q|q|q|q|q|q|q|q|q|q|q<;>simp[q]):p:=h
structure A1(z:Lay)(l:List WS)(k:Nat)(w:World)(m:Co)(x:WS):Prop where
 inl:k<l.length
 Qv:fM z w ⟨m,l.set k x⟩
theorem A1.ai{z:Lay}{l:List WS}{k:Nat}{w w':World}{m:Co}{x:WS}(h:A1 z l k w m x)(b:Below w.heap.size w w'):A1 z l k w' m x:=⟨h.1,h.2.mE b⟩
theorem A1.drew(h:A1 z l k w m x):A1 z l k w.drew m x:=h.ai (Below.refl _ _).drew
theorem A1.alloc(h:A1 z l k w m x)(o:Obj):A1 z l k (w.alloc o) m x:=h.ai (Ba o)
theorem A1.parts(h:A1 z l k w m x):
  ∃bk ov gv g,ve z w ⟨m,l.set k x⟩ bk ov gv g/\k<(l.set k x).length/\rW w (z.wq k) (g k) x/\bI w (z.y bk ov gv) m:=by
 obtain⟨hk,bk,ov,gv,g,R⟩:=h;have hk':k<(l.set k x).length:=by simpa using hk
 have W:=R.wk k hk';simp only[List.getElem_set_self]at W
 exact⟨bk,ov,gv,g,R,hk',W,R.co⟩
theorem A1.turn{z:Lay}{l:List WS}{k:Nat}{w w':World}{m:Co}{x:WS}{bk ov gv:Value}{g:Nat->Gw}(hk:k<l.length)(R:ve z w ⟨m,l.set k x⟩ bk ov gv g){S:Nat->Prop}(kp:Kept S w w')(sh:Shut w w')
  (hS:∀b,S b->(z.y bk ov gv).has b∨b=z.wq k∨(g k).has x b) (co':Co) (bk' ov' gv':Value) (C:bI w' (z.y bk' ov' gv') co') (hy:∀b,(z.y bk' ov' gv').has b->(z.y bk ov gv).has b∨w.heap.size<=b)
  (x':WS) (g':Gw) (W:rW w' (z.wq k) g' x') (hg:∀b,g'.has x' b->(g k).has x b∨w.heap.size<=b) (hl:∀b,g'.has x' b->b<w'.heap.size) (hd:∀b,(b=z.wq k∨g'.has x' b)->¬(z.y bk' ov' gv').has b):A1 z l k w' co' x':=by
 have hk':k<(l.set k x).length:=by simpa using hk
 have:=R.turn kp sh k hk' (by simpa using hS) co' bk' ov' gv' C hy x' g' W (by simpa using hg) hl hd
 simp only[List.set_set]at this
 exact⟨hk,this⟩
theorem A1.fC{z:Lay}{l:List WS}{k:Nat}{w w':World}{m:Co}{x:WS}{bk ov gv:Value}{g:Nat->Gw}(hk:k<l.length)(R:ve z w ⟨m,l.set k x⟩ bk ov gv g){S:Nat->Prop}(kp:Kept S w w')
  (hS:∀b,S b->(z.y bk ov gv).has b) (co':Co) (bk' ov' gv':Value) (C:bI w' (z.y bk' ov' gv') co') (hy:∀b,(z.y bk' ov' gv').has b->(z.y bk ov gv).has b∨w.heap.size<=b):A1 z l k w' co' x:=
 ⟨hk,R.fC kp (R.co.shut kp hS) hS co' bk' ov' gv' C hy⟩
def WS.sc(x:WS):Nat->Option Value
 |0=>some ↑x.Sq
 |1=>some ↑x.R8
 |2=>some ↑x.Sa
 |3=>some ↑x.tail
 |4=>some ↑x.ag
 |7=>some ↑x.other
 |8=>some ↑x.aB
 |9=>some (.bool x.gw)
 |10=>some (.bool x.gl)
 |11=>some ↑x.gy
 |12=>some (.bool x.eh)
 |13=>some (.bool x.eb)
 |14=>some ↑x.er
 |15=>some (.bool x.ew)
 |_=>none
theorem WS.O0{x:WS}{j:Nat}{v:Value}(h:x.sc j=some v)(dv tv rv pv kv nv:Value):(x.arr dv tv rv pv kv nv)[j]? =some v:=by
 unfold WS.sc at h
 split at h<;>first|(cases h;rfl)|(cases h)
theorem A1.cell(h:A1 z l k w m x)(j:Nat)(v:Value)(e:x.sc j=some v):w.cell? ⟨z.wq k,j,none⟩=some v:=by
 obtain⟨bk,ov,gv,g,R,hk,⟨dv,tv,rv,pv,kv,nv,hb,_⟩,C⟩:=h.parts
 exact(hb.cell j).trans (WS.O0 e dv tv rv pv kv nv)
theorem A1.fz(h:A1 z l k w m x)(j:Nat):w.frozen? ⟨z.wq k,j,none⟩=false:=by
 obtain⟨bk,ov,gv,g,R,hk,⟨dv,tv,rv,pv,kv,nv,hb,_⟩,C⟩:=h.parts
 exact hb.fz j
theorem A1.lt(h:A1 z l k w m x):z.wq k<w.heap.size:=by
 obtain⟨bk,ov,gv,g,R,hk,⟨dv,tv,rv,pv,kv,nv,hb,_⟩,C⟩:=h.parts
 exact hb.lt
def WS.like(x x':WS):Prop:=x'.dq=x.dq/\x'.thn=x.thn/\x'.rt=x.rt/\x'.wk=x.wk/\x'.np=x.np
theorem Gw.like{g:Gw}{x x':WS}(h:x.like x'){b:Nat}:g.has x' b↔g.has x b:=by
 obtain⟨h1,h2,h3,h4,h5⟩:=h;unfold Gw.has;rw[h1,h2,h3,h4,h5]
theorem A1.set(h:A1 z l k w m x)(j:Nat)(v:Value)(x':WS)(hx:x.like x')(e:∀dv tv rv pv kv nv,x'.arr dv tv rv pv kv nv=(x.arr dv tv rv pv kv nv).setIfInBounds j v):A1 z l k (w.setCell ⟨z.wq k,j,none⟩ v) m x':=by
 obtain⟨bk,ov,gv,g,R,hk,W,C⟩:=h.parts;have W0:=W;obtain⟨dv,tv,rv,pv,kv,nv,hb,h1,h2,h3,h4,h5⟩:=W;have K:=Kept.one w (z.wq k) j v;have nq:∀b,(z.y bk ov gv).has b->¬One (z.wq k) b:=λb q e=>(R.oB k hk (z.wq k) (Or.inl rfl)).2.2 (e▸q);have sh:Shut w (w.setCell ⟨z.wq k,j,none⟩ v):=Shut.kept K (λb e=>⟨_,_,(show b=z.wq k from e)▸hb,by decide,by decide⟩);have lt:∀b,(g k).has x b->b<w.heap.size:=λb q=>(R.oB k hk b (Or.inr U31)).2.1;have ny:∀b,(b=z.wq k∨(g k).has x b)->¬(z.y bk ov gv).has b:=λb q=>(R.oB k hk b U31).2.2;have W1:rW (w.setCell ⟨z.wq k,j,none⟩ v) (z.wq k) (g k) x':=by
  refine⟨dv,tv,rv,pv,kv,nv,?_,λr q=>?_,λt q=>?_,λr q=>?_,λr q=>?_,λr q=>?_⟩
  ·rw[e];exact hb.set j v
  ·rw[hx.1]at q
   obtain⟨e1,u,hv,hn⟩:=h1 r q
   exact⟨e1,u,hv.far (hv.ne hb U0) _,hn.shut sh⟩
  ·rw[hx.2.1]at q
   have ht:=h2 t q
   cases t with
   |aL=>exact ht
   |runs i=>
    obtain⟨e1,e2,e3⟩:=ht
    exact⟨e1,e2.far (e2.ne hb U0) _,e3.far (e3.ne hb U0) _⟩
  ·rw[hx.2.2.1]at q
   exact⟨(h3 r q).1,(h3 r q).2.far ((h3 r q).2.ne hb U0) _⟩
  ·rw[hx.2.2.2.1]at q
   exact⟨(h4 r q).1,(h4 r q).2.far ((h4 r q).2.ne hb U0) _⟩
  ·rw[hx.2.2.2.2]at q
   exact⟨(h5 r q).1,(h5 r q).2.far ((h5 r q).2.ne hb U0) _⟩
 exact A1.turn h.1 R K sh (λb q=>Or.inr (Or.inl q)) m bk ov gv (C.kept K nq) (λb q=>Or.inl q) x' (g k) W1 (λb q=>Or.inl ((Gw.like hx).1 q)) (λb q=>by rw[World.size_setCell];exact lt b ((Gw.like hx).1 q)) (λb q=>ny b (q.imp id (Gw.like hx).1))
theorem A1.iA(h:A1 z l k w m x)(i:Nat)(v:Value)(e:(gN (z.y .nilFunc .nilFunc .nilFunc) m)[i]? =some v):w.cell? ⟨z.c,i,none⟩=some v:=by
 obtain⟨bk,ov,gv,g,R,hk,W,C⟩:=h.parts
 exact(C.core.cell i).trans e
theorem A1.cfz(h:A1 z l k w m x)(j:Nat):w.frozen? ⟨z.c,j,none⟩=false:=by
 obtain⟨bk,ov,gv,g,R,hk,W,C⟩:=h.parts
 exact C.core.fz j
theorem A1.fB(h:A1 z l k w m x)(i:Nat)(v:Value)(st:St)(sr s1 s2:Int)(e:gN (z.y .nilFunc .nilFunc .nilFunc) {m with st:=st,ae:=sr,status:=s1,why:=s2}=(gN (z.y .nilFunc .nilFunc .nilFunc) m).setIfInBounds i v):A1 z l k (w.setCell ⟨z.c,i,none⟩ v) {m with st:=st,ae:=sr,status:=s1,why:=s2} x:=by
 obtain⟨bk,ov,gv,g,R,hk,W,C⟩:=h.parts
 exact A1.fC h.1 R (S:=One z.c) (Kept.one _ _ _ _) (λb q=>Or.inl q) _ bk ov gv (C.fB i v st sr s1 s2 e) (λb q=>Or.inl q)
theorem A1.frame(h:A1 z l k w m x)(i:Nat)(hi:m.ok i)(j:Nat)(hj:j<19)(v:Value)(e:(m.fr i).cells[j]? =some v):w.cell? ⟨z.fr,19*i+j,none⟩=some v:=by
 obtain⟨bk,ov,gv,g,R,hk,W,C⟩:=h.parts;have hf:i<m.aJ.length:=by have:=hi.2.1;have:=C.hlen;omega
 have hs:=C.frame i hf j hj;have q:m.aJ[i]=m.fr i:=by simp[Co.fr,List.getD,hf]
 rw[q,e]at hs
 exact hs
theorem A1.sM(h:A1 z l k w m x)(j:Nat):w.frozen? ⟨z.fr,j,none⟩=false:=by
 obtain⟨bk,ov,gv,g,R,hk,W,C⟩:=h.parts
 exact C.frames.fz j
def Co.ak(m:Co)(i:Nat)(f:Fr):Co:={m with aJ:=m.aJ.set i f}
theorem A1.aF(h:A1 z l k w m x)(i:Nat)(hi:m.ok i)(j:Nat)(hj:j<19)(v:Value)(f:Fr)(e:f.cells=((m.fr i).cells).set j v):A1 z l k (w.setCell ⟨z.fr,19*i+j,none⟩ v) (m.ak i f) x:=by
 obtain⟨bk,ov,gv,g,R,hk,W,C⟩:=h.parts;have hf:i<m.aJ.length:=by have:=hi.2.1;have:=C.hlen;omega
 have q:m.aJ[i]=m.fr i:=by simp[Co.fr,List.getD,hf]
 exact A1.fC h.1 R (S:=One z.fr) (Kept.one _ _ _ _) (λb q=>by have q':b=z.fr:=q;subst q';simp[Ly.has,Lay.y]) _ bk ov gv (C.aF i hf j hj v f (by rw[q];exact e)) (λb q=>Or.inl q)
theorem A1.RY(h:A1 z l k w m x):aD w z.ws z.wd m.RY:=by
 obtain⟨bk,ov,gv,g,R,hk,W,C⟩:=h.parts
 exact C.RY
theorem A1.bU(h:A1 z l k w m x):(m.RY.length:Int)=m.pl.size:=by
 obtain⟨bk,ov,gv,g,R,hk,W,C⟩:=h.parts
 exact C.bU
theorem A1.bQ(h:A1 z l k w m x):m.pl.ok:=by
 obtain⟨bk,ov,gv,g,R,hk,W,C⟩:=h.parts
 exact C.bQ
theorem A1.aC{z:Lay}{l:List WS}{k:Nat}{w w':World}{m:Co}{x:WS}(h:A1 z l k w m x)(L:List Int)(hS:aD w' z.ws z.wd L)(hL:L.length=m.RY.length)(kp:Kept (One z.wd) w w'):A1 z l k w' {m with RY:=L} x:=by
 obtain⟨bk,ov,gv,g,R,hk,W,C⟩:=h.parts
 exact A1.fC h.1 R kp (λb q=>by have q':b=z.wd:=q;subst q';simp[Ly.has,Lay.y]) _ bk ov gv (C.aC kp (λb q=>Or.inl q) L hS hL) (λb q=>Or.inl q)
theorem A1.aN(h:A1 z l k w m x):Cs 93 #[ptr z.c] w (ptr z.ws) λw'=>w=w':=by
 obtain⟨bk,ov,gv,g,R,hk,W,C⟩:=h.parts
 exact Bw w (z.y bk ov gv) m C.core
theorem A1.P9(h:A1 z l k w m x):Cs 31 #[ptr z.c] w (ptr z.ds) λw'=>w=w':=by
 obtain⟨bk,ov,gv,g,R,hk,W,C⟩:=h.parts
 exact jS w (z.y bk ov gv) m C.core
theorem A1.dZ(h:A1 z l k w m x):Cs 34 #[ptr z.c] w (ptr z.t) λw'=>w=w':=by
 obtain⟨bk,ov,gv,g,R,hk,W,C⟩:=h.parts
 exact pX w (z.y bk ov gv) m C.core
theorem A1.cOut(h:A1 z l k w m x):Cs 29 #[ptr z.c] w (ptr z.o) λw'=>w=w':=by
 obtain⟨bk,ov,gv,g,R,hk,W,C⟩:=h.parts
 exact JF w (z.y bk ov gv) m C.core
theorem A1.Jp(h:A1 z l k w m x):Cs 38 #[ptr z.c] w (ptr z.g) λw'=>w=w':=by
 obtain⟨bk,ov,gv,g,R,hk,W,C⟩:=h.parts
 exact JA w (z.y bk ov gv) m C.core
theorem A1.jQ(h:A1 z l k w m x):Cs 33 #[ptr z.c] w (.pointer (some ⟨z.c,13,none⟩)) λw'=>w=w':=Bv w z.c
theorem A1.um(h:A1 z l k w m x):Cs 28 #[ptr z.c] w (.tuple #[m.status,m.why]) λw'=>Below w.heap.size w w':=by
 obtain⟨bk,ov,gv,g,R,hk,W,C⟩:=h.parts
 exact xS w (z.y bk ov gv) m C.core
theorem A1.jf(h:A1 z l k w m x):Cs 89 #[ptr z.c] w m.gU λw'=>Below w.heap.size w w':=by
 obtain⟨bk,ov,gv,g,R,hk,W,C⟩:=h.parts
 exact qj w (z.y bk ov gv) m C.core
theorem A1.fP(h:A1 z l k w m x):Cs 91 #[ptr z.c] w m.pl.v λw'=>Below w.heap.size w w':=by
 obtain⟨bk,ov,gv,g,R,hk,W,C⟩:=h.parts
 exact vz w (z.y bk ov gv) m C.core
theorem A1.P8(h:A1 z l k w m x)(fn pc:Int):Calls prog 143 #[ptr z.c,fn,pc] w λev w'=>ev=.returned (m.at_ fn pc).v/\Below w.heap.size w w':=by
 obtain⟨bk,ov,gv,g,R,hk,W,C⟩:=h.parts
 exact D8 w (z.y bk ov gv) m fn pc C
theorem A1.at_(h:A1 z l k w m x)(i:Nat)(hi:m.ok i):Cs 141 #[ptr z.c,i] w (.pointer (some ⟨z.fr,19*i,none⟩)) λw'=>w=w':=by
 obtain⟨bk,ov,gv,g,R,hk,W,C⟩:=h.parts
 exact I8 w (z.y bk ov gv) m C i hi
theorem A1.RV(h:A1 z l k w m x)(i:Nat)(hi:m.ok i):Cs 210 #[ptr z.t,i] w (.pointer (some ⟨z.fr,19*i,none⟩)) λw'=>w=w':=by
 obtain⟨bk,ov,gv,g,R,hk,W,C⟩:=h.parts
 exact Hu w (z.y bk ov gv) m C i hi
theorem A1.fE(h:A1 z l k w m x)(i:Nat)(hi:m.ok i):Cs 156 #[ptr z.c,i] w (fZ m.pl i (m.fr i).ae) λw'=>Below w.heap.size w w':=by
 obtain⟨bk,ov,gv,g,R,hk,W,C⟩:=h.parts
 exact CG w (z.y bk ov gv) m C i hi
theorem A1.zP(h:A1 z l k w m x):Cs 267 #[ptr z.c] w (.int .i64 (wrap64 (m.ae+1))) λw'=>A1 z l k w' {m with ae:=wrap64 (m.ae+1)} x:=by
 obtain⟨bk,ov,gv,g,R,hk,W,C⟩:=h.parts
 exact(xR w (z.y bk ov gv) m C).mono λev w' ⟨e,C',K⟩=>⟨e,A1.fC h.1 R K (λb q=>Or.inl q) _ bk ov gv C' (λb q=>Or.inl q)⟩
theorem A1.jR(h:A1 z l k w m x)(a b:Int):Cs 138 #[ptr z.c,a,b] w (.tuple #[]) λw'=>A1 z l k w' (m.stop a b) x:=by
 obtain⟨bk,ov,gv,g,R,hk,W,C⟩:=h.parts
 exact(Eb w (z.y bk ov gv) m a b C).mono λev w' ⟨e,C',K⟩=>⟨e,A1.fC h.1 R K (λb q=>Or.inl q) _ bk ov gv C' (λb q=>Or.inl q)⟩
theorem A1.note(h:A1 z l k w m x)(ev:Ev)(h1:m.log.length<100000):Cs 140 #[ptr z.g,.agg #[ev.kind,ev.loop,ev.iter,ev.Sc]] w (.tuple #[]) λw'=>A1 z l k w' {m with log:=m.log++[ev]} x:=by
 obtain⟨bk,ov,gv,g,R,hk,W,C⟩:=h.parts;refine(Ar w (z.y bk ov gv) m ev C h1).mono λe w' ⟨e1,v,C',F,K⟩=>⟨e1,A1.fC h.1 R K (λb q=>?_) _ bk ov v C' (λb q=>?_)⟩
 ·rcases q with q|q
  ·exact U138
  ·exact U141
 ·exact Us7
theorem A1.Et(h:A1 z l k w m x)(n:Int)(h1:m.most<=m.out.length):Cs 150 #[ptr z.o,n] w (.bool false) λw'=>Below w.heap.size w w':=by
 obtain⟨bk,ov,gv,g,R,hk,W,C⟩:=h.parts
 exact BM w (z.y bk ov gv) m n C h1
theorem A1.free(h:A1 z l k w m x)(i:Nat)(hok:m.ok i)(ha:m.gG):Cs 239 #[ptr z.t,i] w (.bool true) λw'=>A1 z l k w' (m.Si i) x:=by
 obtain⟨bk,ov,gv,g,R,hk,W,C⟩:=h.parts;refine(wQ w (z.y bk ov gv) m C i hok ha.2.2.1 ha.1).mono λe w' ⟨e1,v,C',F,K⟩=>⟨e1,A1.fC h.1 R K (λb q=>?_) _ v ov gv C' (λb q=>?_)⟩
 ·rcases q with q|q|q
  ·exact U138
  ·exact U138
  ·exact U141
 ·exact Us7
theorem A1.make(h:A1 z l k w m x)(f:Fr)(ha:m.gG)(i:Nat)(B:List Nat)(n:Nat)(hp:m.pick=some (i,B,n)):Cs 86 #[ptr z.t,f.v] w (.tuple #[i,.bool true]) λw'=>A1 z l k w' (m.made i B n f) x:=by
 obtain⟨bk,ov,gv,g,R,hk,W,C⟩:=h.parts;refine(qV f w (z.y bk ov gv) m C ha i B n hp).mono λe w' ⟨e1,v,C',F,K⟩=>⟨e1,A1.fC h.1 R K (λb q=>?_) _ v ov gv C' (λb q=>?_)⟩
 ·rcases q with q|q|q|q<;>(subst q;simp[Ly.has,Lay.y])
 ·unfold Ly.has Lay.y at q⊢
  dsimp only at q⊢;rw[F]at q
  exact Or.inl q
theorem A1.FZ(h:A1 z l k w m x)(f:Fr)(ha:m.gG)(hp:m.pick=none):Cs 86 #[ptr z.t,f.v] w (.tuple #[(0:Int),.bool false]) λw'=>Below w.heap.size w w':=by
 obtain⟨bk,ov,gv,g,R,hk,W,C⟩:=h.parts
 exact ze f w (z.y bk ov gv) m C ha hp
theorem Us100 {p:Prop} (h:p:=by
 have q:=hc.symm.trans ((hb.cell 5).trans (show _=some dv from rfl));rw[(h1 r hr).1]at q
 simpa using q):p:=h
theorem Us99 {p:Prop} (h:p:=by
 have q:=hc.symm.trans ((hb.cell 19).trans (show _=some nv from rfl));rw[(h5 r hr).1]at q
 simpa using q):p:=h
theorem Us98 {p:Prop} (h:p:=by
 have q:=hc.symm.trans ((hb.cell 18).trans (show _=some kv from rfl));rw[(h4 r hr).1]at q
 simpa using q):p:=h
theorem Us97 {p:Prop} (h:p:=by
 have q:=hc.symm.trans ((hb.cell 16).trans (show _=some rv from rfl));rw[(h3 r hr).1]at q
 simpa using q):p:=h
theorem Us74 {p:Prop} (h:p:=by
 rcases z1 with z1|z1
 ·exact U152
 ·exact q.ne ob e2 z1):p:=h
theorem Us20 {p:Prop} (h:p:=by
 have ht:=h2 t q
 cases t with
 |aL=>exact ht
 |runs i=>
  obtain⟨e1,e2,e3⟩:=ht
  exact⟨e1,(e2.below hB e2.lt).far ((e2.below hB e2.lt).ne b2 U0) _,(e3.below hB e3.lt).far ((e3.below hB e3.lt).ne b2 U0) _⟩):p:=h
theorem Us19 {p:Prop} (h:p:=by
 have ht:=h2 t q
 cases t with
 |aL=>exact ht
 |runs i=>
  obtain⟨e1,e2,e3⟩:=ht;refine⟨e1,K.blk e2 (jL _ _ _ e2 U0 U0),K.blk e3 (λz1=>?_)⟩
  rcases z1 with z1|z1
  ·exact U137
  ·exact e3.ne ob U0 z1):p:=h
theorem Us5 {p:Prop} (h:p:=by
 exact A1.turn h.1 R KK ((Shut.ai hB).trans sh) (λb q=>Or.inr (Or.inl q)) m bk ov gv (C.kept KK nq) (λb q=>Or.inl q) _ _ W1 (λb' q=>(hh b' q).imp id (λe=>by rw[e];exact hge))
  (λb' q=>by rw[World.size_setCell];rcases hh b' q with q|q;exact nL (lt b' q) hB.size;exact q▸bl)
  (λb' q=>by
   rcases q with q|q
   ·exact U154
   ·rcases hh b' q with q|q
    ·exact U153
    ·subst q
     intro z1
     have:=C.lt z1
     omega)):p:=h
theorem dw.lt{w:World}{q:Nat}{r:DW}(h:dw w q r):q<w.heap.size:=by
 obtain⟨v,hb,_⟩:=h
 exact hb.lt
theorem dw.blk{w:World}{q:Nat}{r:DW}(h:dw w q r):∃cs,af w q cs 229 :=by
 obtain⟨v,hb,_⟩:=h
 exact⟨_,hb⟩
theorem dw.ai{w w':World}{q:Nat}{r:DW}(h:dw w q r)(b:Below w.heap.size w w'):dw w' q r:=by
 obtain⟨v,hb,hv⟩:=h
 exact⟨v,hb.below b hb.lt,hv.shut (Shut.ai b)⟩
theorem dw.far{w:World}{q:Nat}{r:DW}(h:dw w q r){a:Addr}{v:Value}(hq:q≠a.block)(sh:Shut w (w.setCell a v)):dw (w.setCell a v) q r:=by
 obtain⟨u,hb,hv⟩:=h
 exact⟨u,hb.far hq v,hv.shut sh⟩
theorem A1.yJ{z:Lay}{l:List WS}{k:Nat}{w0 w:World}{m:Co}{x:WS}(h:A1 z l k w0 m x)(hB:Below w0.heap.size w0 w)(b:Nat)(hge:w0.heap.size<=b)(r:DW)(hO:dw w b r):A1 z l k (w.setCell ⟨z.wq k,5,none⟩ (ptr b)) m {x with dq:=some r}:=by
 obtain⟨bk,ov,gv,g,R,hk,W,C⟩:=h.parts;obtain⟨dv,tv,rv,pv,kv,nv,hb,h1,h2,h3,h4,h5⟩:=W;have b2:=hb.below hB hb.lt;have K:=Kept.one w (z.wq k) 5 (ptr b);have KK:Kept (One (z.wq k)) w0 (w.setCell ⟨z.wq k,5,none⟩ (ptr b)):=(Kept.ob hB).trans K;have nq:∀b,(z.y bk ov gv).has b->¬One (z.wq k) b:=λb q e=>(R.oB k hk (z.wq k) (Or.inl rfl)).2.2 (e▸q);have sh:Shut w (w.setCell ⟨z.wq k,5,none⟩ (ptr b)):=Shut.kept K (λb e=>⟨_,_,(show b=z.wq k from e)▸b2,by decide,by decide⟩);have lt:∀b,(g k).has x b->b<w0.heap.size:=λb q=>(R.oB k hk b (Or.inr U31)).2.1;have ny:∀b,(b=z.wq k∨(g k).has x b)->¬(z.y bk ov gv).has b:=λb q=>(R.oB k hk b U31).2.2;have nbq:b≠z.wq k:=by obtain⟨cs,q⟩:=hO.blk;exact q.ne b2 U0
 have bl:b<w.heap.size:=hO.lt;have hh:∀b',Gw.has ⟨b,(g k).br,(g k).bw,(g k).bn,(g k).bv,(g k).bt⟩ {x with dq:=some r} b'->(g k).has x b'∨b'=b:=λb' q=>by
  rcases q with⟨q1,q2⟩|⟨q1,q2⟩|⟨q1,q2⟩|⟨q1,q2⟩|q
  ·exact Or.inr q2
  ·exact U142
  ·exact U136
  ·exact U126
  ·exact U132
 have W1:rW (w.setCell ⟨z.wq k,5,none⟩ (ptr b)) (z.wq k) ⟨b,(g k).br,(g k).bw,(g k).bn,(g k).bv,(g k).bt⟩ {x with dq:=some r}:=by
  refine⟨ptr b,tv,rv,pv,kv,nv,b2.set 5 (ptr b),λr' q=>by
   cases q
   exact⟨rfl,hO.far nbq sh⟩,λt q=>?_,λr q=>⟨(h3 r q).1,((h3 r q).2.below hB (h3 r q).2.lt).far (((h3 r q).2.below hB (h3 r q).2.lt).ne b2 U0) _⟩,λr q=>⟨(h4 r q).1,((h4 r q).2.below hB (h4 r q).2.lt).far (((h4 r q).2.below hB (h4 r q).2.lt).ne b2 U0) _⟩,λr q=>⟨(h5 r q).1,((h5 r q).2.below hB (h5 r q).2.lt).far (((h5 r q).2.below hB (h5 r q).2.lt).ne b2 U0) _⟩⟩
  exact Us20
 exact Us5
theorem A1.iH(h:A1 z l k w m x)(r:DW)(hr:x.dq=some r):∃b,w.cell? ⟨z.wq k,5,none⟩=some (ptr b):=by
 obtain⟨bk,ov,gv,g,R,hk,⟨dv,tv,rv,pv,kv,nv,hb,h1,h2,h3,h4,h5⟩,C⟩:=h.parts
 exact⟨(g k).bd,by rw[<-(h1 r hr).1];exact hb.cell 5⟩
theorem A1.vY(h:A1 z l k w m x)(r:DW)(hr:x.dq=some r)(b:Nat)(hc:w.cell? ⟨z.wq k,5,none⟩=some (ptr b)):dw w b r:=by
 obtain⟨bk,ov,gv,g,R,hk,⟨dv,tv,rv,pv,kv,nv,hb,h1,h2,h3,h4,h5⟩,C⟩:=h.parts;have e:b=(g k).bd:=by
  exact Us100
 rw[e]
 exact(h1 r hr).2
theorem A1.Lp{z:Lay}{l:List WS}{k:Nat}{w w':World}{m:Co}{x:WS}(h:A1 z l k w m x)(r:DW)(hr:x.dq=some r)(b:Nat)(hc:w.cell? ⟨z.wq k,5,none⟩=some (ptr b))(r':DW)(L:List Int)(hL:L.length=m.RY.length)(hO:dw w' b r')(hS:aD w' z.ws z.wd L)(K:Kept (Two z.wd b) w w'):
  A1 z l k w' {m with RY:=L} {x with dq:=some r'}:=by
 have hO0:=h.vY r hr b hc;obtain⟨bk,ov,gv,g,R,hk,W,C⟩:=h.parts;have W0:=W;obtain⟨dv,tv,rv,pv,kv,nv,hb,h1,h2,h3,h4,h5⟩:=W;have e:b=(g k).bd:=by
  exact Us100
 subst e;have hgb:(g k).has x (g k).bd:=Or.inl ⟨dF hr,rfl⟩;have nyb:=(R.oB k hk (g k).bd (Or.inr U94)).2.2;have ob:∃cs,af w (g k).bd cs 229 :=hO0.blk;obtain⟨ocs,ob⟩:=ob;have sh:Shut w w':=Shut.kept K (λb q=>by
  rcases q with q|q
  ·exact U133
  ·subst q;exact⟨_,_,ob,by decide,by decide⟩)
 have jL:∀b cs t,af w b cs t->t≠ 3 ->t≠ 229 ->¬Two z.wd (g k).bd b:=λb cs t q e1 e2 z1=>by
  exact Us74
 have W1:rW w' (z.wq k) (g k) {x with dq:=some r'}:=by
  refine⟨dv,tv,rv,pv,kv,nv,K.blk hb (jL _ _ _ hb U0 U0),?_,λt q=>?_,?_,?_,?_⟩
  ·exact λr0 q=>by cases q;exact⟨(h1 r hr).1,hO⟩
  ·exact Us19
  ·exact U129
  ·exact U128
  ·exact U127
 have hh:∀b',Gw.has (g k) {x with dq:=some r'} b'->(g k).has x b':=λb' q=>by
  rcases q with⟨q1,q2⟩|⟨q1,q2⟩|⟨q1,q2⟩|⟨q1,q2⟩|q
  ·exact Or.inl ⟨dF hr,q2⟩
  ·exact Or.inr (Or.inl ⟨q1,q2⟩)
  ·exact U151
  ·exact U145
  ·exact U139
 have lt:∀b,(g k).has x b->b<w.heap.size:=λb q=>(R.oB k hk b (Or.inr U31)).2.1;have ny:∀b,(b=z.wq k∨(g k).has x b)->¬(z.y bk ov gv).has b:=λb q=>(R.oB k hk b U31).2.2
 exact A1.turn h.1 R K sh (λb q=>by
  rcases q with q|q
  ·exact U147
  ·right;right;subst q;exact hgb) _ bk ov gv (C.aC K (λb q=>by
  rcases q with q|q
  ·exact Or.inl q
  ·right;subst q;exact nyb) L hS hL) (λb q=>Or.inl q) _ (g k) W1 (λb q=>Or.inl (hh b q)) (λb q=>nL (lt b (hh b q)) K.size) (λb q=>ny b (q.imp id (hh b)))
theorem A1.Ow{z:Lay}{l:List WS}{k:Nat}{w0 w:World}{m:Co}{x:WS}(h:A1 z l k w0 m x)(hB:Below w0.heap.size w0 w)(b:Nat)(hge:w0.heap.size<=b)(r:RW)(hO:af w b (RW.arr r) 281):A1 z l k (w.setCell ⟨z.wq k,16,none⟩ (ptr b)) m {x with rt:=some r}:=by
 obtain⟨bk,ov,gv,g,R,hk,W,C⟩:=h.parts;obtain⟨dv,tv,rv,pv,kv,nv,hb,h1,h2,h3,h4,h5⟩:=W;have b2:=hb.below hB hb.lt;have K:=Kept.one w (z.wq k) 16 (ptr b);have KK:Kept (One (z.wq k)) w0 (w.setCell ⟨z.wq k,16,none⟩ (ptr b)):=(Kept.ob hB).trans K;have nq:∀b,(z.y bk ov gv).has b->¬One (z.wq k) b:=λb q e=>(R.oB k hk (z.wq k) (Or.inl rfl)).2.2 (e▸q);have sh:Shut w (w.setCell ⟨z.wq k,16,none⟩ (ptr b)):=Shut.kept K (λb e=>⟨_,_,(show b=z.wq k from e)▸b2,by decide,by decide⟩);have lt:∀b,(g k).has x b->b<w0.heap.size:=λb q=>(R.oB k hk b (Or.inr U31)).2.1;have ny:∀b,(b=z.wq k∨(g k).has x b)->¬(z.y bk ov gv).has b:=λb q=>(R.oB k hk b U31).2.2;have nbq:b≠z.wq k:=hO.ne b2 U0;have bl:b<w.heap.size:=hO.lt;have hh:∀b',Gw.has ⟨(g k).bd,b,(g k).bw,(g k).bn,(g k).bv,(g k).bt⟩ {x with rt:=some r} b'->(g k).has x b'∨b'=b:=λb' q=>by
  rcases q with⟨q1,q2⟩|⟨q1,q2⟩|⟨q1,q2⟩|⟨q1,q2⟩|q
  ·exact Or.inl (Or.inl ⟨q1,q2⟩)
  ·exact Or.inr q2
  ·exact U136
  ·exact U126
  ·exact U132
 have W1:rW (w.setCell ⟨z.wq k,16,none⟩ (ptr b)) (z.wq k) ⟨(g k).bd,b,(g k).bw,(g k).bn,(g k).bv,(g k).bt⟩ {x with rt:=some r}:=by
  refine⟨dv,tv,ptr b,pv,kv,nv,b2.set 16 (ptr b),λr q=>by
   obtain⟨e1,u,hv,hn⟩:=h1 r q
   exact⟨e1,u,(hv.below hB hv.lt).far ((hv.below hB hv.lt).ne b2 U0) _,(hn.shut (Shut.ai hB)).shut sh⟩,λt q=>?_,λr' q=>by
   cases q
   exact⟨rfl,hO.far nbq _⟩,λr q=>⟨(h4 r q).1,((h4 r q).2.below hB (h4 r q).2.lt).far (((h4 r q).2.below hB (h4 r q).2.lt).ne b2 U0) _⟩,λr q=>⟨(h5 r q).1,((h5 r q).2.below hB (h5 r q).2.lt).far (((h5 r q).2.below hB (h5 r q).2.lt).ne b2 U0) _⟩⟩
  exact Us20
 exact Us5
theorem A1.DK(h:A1 z l k w m x)(r:RW)(hr:x.rt=some r):∃b,w.cell? ⟨z.wq k,16,none⟩=some (ptr b):=by
 obtain⟨bk,ov,gv,g,R,hk,⟨dv,tv,rv,pv,kv,nv,hb,h1,h2,h3,h4,h5⟩,C⟩:=h.parts
 exact⟨(g k).br,by rw[<-(h3 r hr).1];exact hb.cell 16⟩
theorem A1.E8(h:A1 z l k w m x)(r:RW)(hr:x.rt=some r)(b:Nat)(hc:w.cell? ⟨z.wq k,16,none⟩=some (ptr b)):af w b (RW.arr r) 281 :=by
 obtain⟨bk,ov,gv,g,R,hk,⟨dv,tv,rv,pv,kv,nv,hb,h1,h2,h3,h4,h5⟩,C⟩:=h.parts;have e:b=(g k).br:=by
  exact Us97
 rw[e]
 exact(h3 r hr).2
theorem A1.Ls{z:Lay}{l:List WS}{k:Nat}{w w':World}{m:Co}{x:WS}(h:A1 z l k w m x)(r:RW)(hr:x.rt=some r)(b:Nat)(hc:w.cell? ⟨z.wq k,16,none⟩=some (ptr b))(r':RW)(L:List Int)(hL:L.length=m.RY.length)(hO:af w' b (RW.arr r') 281)(hS:aD w' z.ws z.wd L)(K:Kept (Two z.wd b) w w'):
  A1 z l k w' {m with RY:=L} {x with rt:=some r'}:=by
 have hO0:=h.E8 r hr b hc;obtain⟨bk,ov,gv,g,R,hk,W,C⟩:=h.parts;have W0:=W;obtain⟨dv,tv,rv,pv,kv,nv,hb,h1,h2,h3,h4,h5⟩:=W;have e:b=(g k).br:=by
  exact Us97
 subst e;have hgb:(g k).has x (g k).br:=Or.inr (Or.inl ⟨dF hr,rfl⟩);have nyb:=(R.oB k hk (g k).br (Or.inr U94)).2.2;have ob:∃cs,af w (g k).br cs 281 :=⟨_,hO0⟩;obtain⟨ocs,ob⟩:=ob;have sh:Shut w w':=Shut.kept K (λb q=>by
  rcases q with q|q
  ·exact U133
  ·subst q;exact⟨_,_,ob,by decide,by decide⟩)
 have jL:∀b cs t,af w b cs t->t≠ 3 ->t≠ 281 ->¬Two z.wd (g k).br b:=λb cs t q e1 e2 z1=>by
  exact Us74
 have W1:rW w' (z.wq k) (g k) {x with rt:=some r'}:=by
  refine⟨dv,tv,rv,pv,kv,nv,K.blk hb (jL _ _ _ hb U0 U0),?_,λt q=>?_,?_,?_,?_⟩
  ·exact U124
  ·exact Us19
  ·exact λr0 q=>by cases q;exact⟨(h3 r hr).1,hO⟩
  ·exact U128
  ·exact U127
 have hh:∀b',Gw.has (g k) {x with rt:=some r'} b'->(g k).has x b':=λb' q=>by
  rcases q with⟨q1,q2⟩|⟨q1,q2⟩|⟨q1,q2⟩|⟨q1,q2⟩|q
  ·exact Or.inl ⟨q1,q2⟩
  ·exact Or.inr (Or.inl ⟨dF hr,q2⟩)
  ·exact U151
  ·exact U145
  ·exact U139
 have lt:∀b,(g k).has x b->b<w.heap.size:=λb q=>(R.oB k hk b (Or.inr U31)).2.1;have ny:∀b,(b=z.wq k∨(g k).has x b)->¬(z.y bk ov gv).has b:=λb q=>(R.oB k hk b U31).2.2
 exact A1.turn h.1 R K sh (λb q=>by
  rcases q with q|q
  ·exact U147
  ·right;right;subst q;exact hgb) _ bk ov gv (C.aC K (λb q=>by
  rcases q with q|q
  ·exact Or.inl q
  ·right;subst q;exact nyb) L hS hL) (λb q=>Or.inl q) _ (g k) W1 (λb q=>Or.inl (hh b q)) (λb q=>nL (lt b (hh b q)) K.size) (λb q=>ny b (q.imp id (hh b)))
theorem A1.Ox{z:Lay}{l:List WS}{k:Nat}{w0 w:World}{m:Co}{x:WS}(h:A1 z l k w0 m x)(hB:Below w0.heap.size w0 w)(b:Nat)(hge:w0.heap.size<=b)(r:(NW×Bool))(hO:af w b (NW.rG r.1 r.2) 288):A1 z l k (w.setCell ⟨z.wq k,18,none⟩ (ptr b)) m {x with wk:=some r}:=by
 obtain⟨bk,ov,gv,g,R,hk,W,C⟩:=h.parts;obtain⟨dv,tv,rv,pv,kv,nv,hb,h1,h2,h3,h4,h5⟩:=W;have b2:=hb.below hB hb.lt;have K:=Kept.one w (z.wq k) 18 (ptr b);have KK:Kept (One (z.wq k)) w0 (w.setCell ⟨z.wq k,18,none⟩ (ptr b)):=(Kept.ob hB).trans K;have nq:∀b,(z.y bk ov gv).has b->¬One (z.wq k) b:=λb q e=>(R.oB k hk (z.wq k) (Or.inl rfl)).2.2 (e▸q);have sh:Shut w (w.setCell ⟨z.wq k,18,none⟩ (ptr b)):=Shut.kept K (λb e=>⟨_,_,(show b=z.wq k from e)▸b2,by decide,by decide⟩);have lt:∀b,(g k).has x b->b<w0.heap.size:=λb q=>(R.oB k hk b (Or.inr U31)).2.1;have ny:∀b,(b=z.wq k∨(g k).has x b)->¬(z.y bk ov gv).has b:=λb q=>(R.oB k hk b U31).2.2;have nbq:b≠z.wq k:=hO.ne b2 U0;have bl:b<w.heap.size:=hO.lt;have hh:∀b',Gw.has ⟨(g k).bd,(g k).br,b,(g k).bn,(g k).bv,(g k).bt⟩ {x with wk:=some r} b'->(g k).has x b'∨b'=b:=λb' q=>by
  rcases q with⟨q1,q2⟩|⟨q1,q2⟩|⟨q1,q2⟩|⟨q1,q2⟩|q
  ·exact Or.inl (Or.inl ⟨q1,q2⟩)
  ·exact U142
  ·exact Or.inr q2
  ·exact U126
  ·exact U132
 have W1:rW (w.setCell ⟨z.wq k,18,none⟩ (ptr b)) (z.wq k) ⟨(g k).bd,(g k).br,b,(g k).bn,(g k).bv,(g k).bt⟩ {x with wk:=some r}:=by
  refine⟨dv,tv,rv,pv,ptr b,nv,b2.set 18 (ptr b),λr q=>by
   obtain⟨e1,u,hv,hn⟩:=h1 r q
   exact⟨e1,u,(hv.below hB hv.lt).far ((hv.below hB hv.lt).ne b2 U0) _,(hn.shut (Shut.ai hB)).shut sh⟩,λt q=>?_,λr q=>⟨(h3 r q).1,((h3 r q).2.below hB (h3 r q).2.lt).far (((h3 r q).2.below hB (h3 r q).2.lt).ne b2 U0) _⟩,λr' q=>by
   cases q
   exact⟨rfl,hO.far nbq _⟩,λr q=>⟨(h5 r q).1,((h5 r q).2.below hB (h5 r q).2.lt).far (((h5 r q).2.below hB (h5 r q).2.lt).ne b2 U0) _⟩⟩
  exact Us20
 exact Us5
theorem A1.Nj(h:A1 z l k w m x)(r:(NW×Bool))(hr:x.wk=some r):∃b,w.cell? ⟨z.wq k,18,none⟩=some (ptr b):=by
 obtain⟨bk,ov,gv,g,R,hk,⟨dv,tv,rv,pv,kv,nv,hb,h1,h2,h3,h4,h5⟩,C⟩:=h.parts
 exact⟨(g k).bw,by rw[<-(h4 r hr).1];exact hb.cell 18⟩
theorem A1.E9(h:A1 z l k w m x)(r:(NW×Bool))(hr:x.wk=some r)(b:Nat)(hc:w.cell? ⟨z.wq k,18,none⟩=some (ptr b)):af w b (NW.rG r.1 r.2) 288 :=by
 obtain⟨bk,ov,gv,g,R,hk,⟨dv,tv,rv,pv,kv,nv,hb,h1,h2,h3,h4,h5⟩,C⟩:=h.parts;have e:b=(g k).bw:=by
  exact Us98
 rw[e]
 exact(h4 r hr).2
theorem A1.Lt{z:Lay}{l:List WS}{k:Nat}{w w':World}{m:Co}{x:WS}(h:A1 z l k w m x)(r:(NW×Bool))(hr:x.wk=some r)(b:Nat)(hc:w.cell? ⟨z.wq k,18,none⟩=some (ptr b))(r':(NW×Bool))(L:List Int)(hL:L.length=m.RY.length)(hO:af w' b (NW.rG r'.1 r'.2) 288)(hS:aD w' z.ws z.wd L)(K:Kept (Two z.wd b) w w'):
  A1 z l k w' {m with RY:=L} {x with wk:=some r'}:=by
 have hO0:=h.E9 r hr b hc;obtain⟨bk,ov,gv,g,R,hk,W,C⟩:=h.parts;have W0:=W;obtain⟨dv,tv,rv,pv,kv,nv,hb,h1,h2,h3,h4,h5⟩:=W;have e:b=(g k).bw:=by
  exact Us98
 subst e;have hgb:(g k).has x (g k).bw:=Or.inr (Or.inr (Or.inl ⟨dF hr,rfl⟩));have nyb:=(R.oB k hk (g k).bw (Or.inr U94)).2.2;have ob:∃cs,af w (g k).bw cs 288 :=⟨_,hO0⟩;obtain⟨ocs,ob⟩:=ob;have sh:Shut w w':=Shut.kept K (λb q=>by
  rcases q with q|q
  ·exact U133
  ·subst q;exact⟨_,_,ob,by decide,by decide⟩)
 have jL:∀b cs t,af w b cs t->t≠ 3 ->t≠ 288 ->¬Two z.wd (g k).bw b:=λb cs t q e1 e2 z1=>by
  exact Us74
 have W1:rW w' (z.wq k) (g k) {x with wk:=some r'}:=by
  refine⟨dv,tv,rv,pv,kv,nv,K.blk hb (jL _ _ _ hb U0 U0),?_,λt q=>?_,?_,?_,?_⟩
  ·exact U124
  ·exact Us19
  ·exact U129
  ·exact λr0 q=>by cases q;exact⟨(h4 r hr).1,hO⟩
  ·exact U127
 have hh:∀b',Gw.has (g k) {x with wk:=some r'} b'->(g k).has x b':=λb' q=>by
  rcases q with⟨q1,q2⟩|⟨q1,q2⟩|⟨q1,q2⟩|⟨q1,q2⟩|q
  ·exact Or.inl ⟨q1,q2⟩
  ·exact Or.inr (Or.inl ⟨q1,q2⟩)
  ·exact Or.inr (Or.inr (Or.inl ⟨dF hr,q2⟩))
  ·exact U145
  ·exact U139
 have lt:∀b,(g k).has x b->b<w.heap.size:=λb q=>(R.oB k hk b (Or.inr U31)).2.1;have ny:∀b,(b=z.wq k∨(g k).has x b)->¬(z.y bk ov gv).has b:=λb q=>(R.oB k hk b U31).2.2
 exact A1.turn h.1 R K sh (λb q=>by
  rcases q with q|q
  ·exact U147
  ·right;right;subst q;exact hgb) _ bk ov gv (C.aC K (λb q=>by
  rcases q with q|q
  ·exact Or.inl q
  ·right;subst q;exact nyb) L hS hL) (λb q=>Or.inl q) _ (g k) W1 (λb q=>Or.inl (hh b q)) (λb q=>nL (lt b (hh b q)) K.size) (λb q=>ny b (q.imp id (hh b)))
theorem A1.Ov{z:Lay}{l:List WS}{k:Nat}{w0 w:World}{m:Co}{x:WS}(h:A1 z l k w0 m x)(hB:Below w0.heap.size w0 w)(b:Nat)(hge:w0.heap.size<=b)(r:NW)(hO:af w b (NW.arr r) 307):A1 z l k (w.setCell ⟨z.wq k,19,none⟩ (ptr b)) m {x with np:=some r}:=by
 obtain⟨bk,ov,gv,g,R,hk,W,C⟩:=h.parts;obtain⟨dv,tv,rv,pv,kv,nv,hb,h1,h2,h3,h4,h5⟩:=W;have b2:=hb.below hB hb.lt;have K:=Kept.one w (z.wq k) 19 (ptr b);have KK:Kept (One (z.wq k)) w0 (w.setCell ⟨z.wq k,19,none⟩ (ptr b)):=(Kept.ob hB).trans K;have nq:∀b,(z.y bk ov gv).has b->¬One (z.wq k) b:=λb q e=>(R.oB k hk (z.wq k) (Or.inl rfl)).2.2 (e▸q);have sh:Shut w (w.setCell ⟨z.wq k,19,none⟩ (ptr b)):=Shut.kept K (λb e=>⟨_,_,(show b=z.wq k from e)▸b2,by decide,by decide⟩);have lt:∀b,(g k).has x b->b<w0.heap.size:=λb q=>(R.oB k hk b (Or.inr U31)).2.1;have ny:∀b,(b=z.wq k∨(g k).has x b)->¬(z.y bk ov gv).has b:=λb q=>(R.oB k hk b U31).2.2;have nbq:b≠z.wq k:=hO.ne b2 U0;have bl:b<w.heap.size:=hO.lt;have hh:∀b',Gw.has ⟨(g k).bd,(g k).br,(g k).bw,b,(g k).bv,(g k).bt⟩ {x with np:=some r} b'->(g k).has x b'∨b'=b:=λb' q=>by
  rcases q with⟨q1,q2⟩|⟨q1,q2⟩|⟨q1,q2⟩|⟨q1,q2⟩|q
  ·exact Or.inl (Or.inl ⟨q1,q2⟩)
  ·exact U142
  ·exact U136
  ·exact Or.inr q2
  ·exact U132
 have W1:rW (w.setCell ⟨z.wq k,19,none⟩ (ptr b)) (z.wq k) ⟨(g k).bd,(g k).br,(g k).bw,b,(g k).bv,(g k).bt⟩ {x with np:=some r}:=by
  refine⟨dv,tv,rv,pv,kv,ptr b,b2.set 19 (ptr b),λr q=>by
   obtain⟨e1,u,hv,hn⟩:=h1 r q
   exact⟨e1,u,(hv.below hB hv.lt).far ((hv.below hB hv.lt).ne b2 U0) _,(hn.shut (Shut.ai hB)).shut sh⟩,λt q=>?_,λr q=>⟨(h3 r q).1,((h3 r q).2.below hB (h3 r q).2.lt).far (((h3 r q).2.below hB (h3 r q).2.lt).ne b2 U0) _⟩,λr q=>⟨(h4 r q).1,((h4 r q).2.below hB (h4 r q).2.lt).far (((h4 r q).2.below hB (h4 r q).2.lt).ne b2 U0) _⟩,λr' q=>by
   cases q
   exact⟨rfl,hO.far nbq _⟩⟩
  exact Us20
 exact Us5
theorem A1.Ni(h:A1 z l k w m x)(r:NW)(hr:x.np=some r):∃b,w.cell? ⟨z.wq k,19,none⟩=some (ptr b):=by
 obtain⟨bk,ov,gv,g,R,hk,⟨dv,tv,rv,pv,kv,nv,hb,h1,h2,h3,h4,h5⟩,C⟩:=h.parts
 exact⟨(g k).bn,by rw[<-(h5 r hr).1];exact hb.cell 19⟩
theorem A1.EY(h:A1 z l k w m x)(r:NW)(hr:x.np=some r)(b:Nat)(hc:w.cell? ⟨z.wq k,19,none⟩=some (ptr b)):af w b (NW.arr r) 307 :=by
 obtain⟨bk,ov,gv,g,R,hk,⟨dv,tv,rv,pv,kv,nv,hb,h1,h2,h3,h4,h5⟩,C⟩:=h.parts;have e:b=(g k).bn:=by
  exact Us99
 rw[e]
 exact(h5 r hr).2
theorem A1.Lr{z:Lay}{l:List WS}{k:Nat}{w w':World}{m:Co}{x:WS}(h:A1 z l k w m x)(r:NW)(hr:x.np=some r)(b:Nat)(hc:w.cell? ⟨z.wq k,19,none⟩=some (ptr b))(r':NW)(L:List Int)(hL:L.length=m.RY.length)(hO:af w' b (NW.arr r') 307)(hS:aD w' z.ws z.wd L)(K:Kept (Two z.wd b) w w'):
  A1 z l k w' {m with RY:=L} {x with np:=some r'}:=by
 have hO0:=h.EY r hr b hc;obtain⟨bk,ov,gv,g,R,hk,W,C⟩:=h.parts;have W0:=W;obtain⟨dv,tv,rv,pv,kv,nv,hb,h1,h2,h3,h4,h5⟩:=W;have e:b=(g k).bn:=by
  exact Us99
 subst e;have hgb:(g k).has x (g k).bn:=Or.inr (Or.inr (Or.inr (Or.inl ⟨dF hr,rfl⟩)));have nyb:=(R.oB k hk (g k).bn (Or.inr U94)).2.2;have ob:∃cs,af w (g k).bn cs 307 :=⟨_,hO0⟩;obtain⟨ocs,ob⟩:=ob;have sh:Shut w w':=Shut.kept K (λb q=>by
  rcases q with q|q
  ·exact U133
  ·subst q;exact⟨_,_,ob,by decide,by decide⟩)
 have jL:∀b cs t,af w b cs t->t≠ 3 ->t≠ 307 ->¬Two z.wd (g k).bn b:=λb cs t q e1 e2 z1=>by
  exact Us74
 have W1:rW w' (z.wq k) (g k) {x with np:=some r'}:=by
  refine⟨dv,tv,rv,pv,kv,nv,K.blk hb (jL _ _ _ hb U0 U0),?_,λt q=>?_,?_,?_,?_⟩
  ·exact U124
  ·exact Us19
  ·exact U129
  ·exact U128
  ·exact λr0 q=>by cases q;exact⟨(h5 r hr).1,hO⟩
 have hh:∀b',Gw.has (g k) {x with np:=some r'} b'->(g k).has x b':=λb' q=>by
  rcases q with⟨q1,q2⟩|⟨q1,q2⟩|⟨q1,q2⟩|⟨q1,q2⟩|q
  ·exact Or.inl ⟨q1,q2⟩
  ·exact Or.inr (Or.inl ⟨q1,q2⟩)
  ·exact U151
  ·exact Or.inr (Or.inr (Or.inr (Or.inl ⟨dF hr,q2⟩)))
  ·exact U139
 have lt:∀b,(g k).has x b->b<w.heap.size:=λb q=>(R.oB k hk b (Or.inr U31)).2.1;have ny:∀b,(b=z.wq k∨(g k).has x b)->¬(z.y bk ov gv).has b:=λb q=>(R.oB k hk b U31).2.2
 exact A1.turn h.1 R K sh (λb q=>by
  rcases q with q|q
  ·exact U147
  ·right;right;subst q;exact hgb) _ bk ov gv (C.aC K (λb q=>by
  rcases q with q|q
  ·exact Or.inl q
  ·right;subst q;exact nyb) L hS hL) (λb q=>Or.inl q) _ (g k) W1 (λb q=>Or.inl (hh b q)) (λb q=>nL (lt b (hh b q)) K.size) (λb q=>ny b (q.imp id (hh b)))
end Go.Proofs.YteiignfflbmafaaGreat.Tp
