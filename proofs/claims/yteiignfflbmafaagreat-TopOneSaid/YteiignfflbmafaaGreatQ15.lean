/- TopOne, part 15. -/
import Derived.Test.YteiignfflbmafaaGreatQ14
set_option linter.unusedVariables false
set_option linter.unusedSimpArgs false
set_option maxRecDepth 100000
set_option maxHeartbeats 8000000
namespace Go.Proofs.YteiignfflbmafaaGreat.Tp
open Go.Proofs.Tryz
open Go.RowKit
inductive Ad where
 |q (v j:Nat)
 |f (i j:Nat)
deriving DecidableEq
def Ad.ix(p:Pl):Ad->Nat
 | .q v j=>v*(4+p.dq.toNat)+j
 | .f i j=>p.wk.toNat*(4+p.dq.toNat)+(i-1)*10+j
def Ad.yC(p:Pl):Ad->Prop
 | .q v j=>v<p.wk.toNat/\j<4+p.dq.toNat
 | .f i j=>1<=i/\i<=p.fr.toNat/\j<10
theorem Ad.KP{p:Pl}{v j:Nat}(h:(Ad.q v j).yC p):(Ad.q v j).ix p<p.wk.toNat*(4+p.dq.toNat):=by
 obtain⟨h1,h2⟩:=h;show v*(4+p.dq.toNat)+j<_;have q:(v+1)*(4+p.dq.toNat)<=p.wk.toNat*(4+p.dq.toNat):=Nat.mul_le_mul_right _ h1;rw[Nat.add_mul]at q
 omega
theorem Ad.inj{p:Pl}{a b:Ad}(ha:a.yC p)(hb:b.yC p)(h:a.ix p=b.ix p):a=b:=by
 match a,b,ha,hb,h with
 | .q v j,.q v' j',ha,hb,h=>
  have h':v*(4+p.dq.toNat)+j=v'*(4+p.dq.toNat)+j':=h;have e1:j%(4+p.dq.toNat)=j:=Nat.mod_eq_of_lt ha.2;have e2:j'%(4+p.dq.toNat)=j':=Nat.mod_eq_of_lt hb.2;have k1:=congrArg (· %(4+p.dq.toNat)) h';simp only[Nat.mul_add_mod_self_right,e1,e2]at k1;subst k1;have k2:v*(4+p.dq.toNat)=v'*(4+p.dq.toNat):=by omega
  have k3:=Nat.eq_of_mul_eq_mul_right U2 k2;rw[k3]
 | .q v j,.f i k,ha,hb,h=>
  have:=Ad.KP ha
  have h':(Ad.q v j).ix p=p.wk.toNat*(4+p.dq.toNat)+(i-1)*10+k:=h
  omega
 | .f i k,.q v j,ha,hb,h=>
  have:=Ad.KP hb
  have h':p.wk.toNat*(4+p.dq.toNat)+(i-1)*10+k=(Ad.q v j).ix p:=h
  omega
 | .f i j,.f i' j',ha,hb,h=>
  have h':p.wk.toNat*(4+p.dq.toNat)+(i-1)*10+j=p.wk.toNat*(4+p.dq.toNat)+(i'-1)*10+j':=h;obtain⟨a1,a2,a3⟩:=ha;obtain⟨b1,b2,b3⟩:=hb;have e:i=i'/\j=j':=by omega
  rw[e.1,e.2]
def Co.wd(m:Co)(a:Ad):Int:=m.RY.getD (a.ix m.pl) 0
def Co.Sn(m:Co):Prop:=m.pl.ok/\m.pl.th=1/\(m.RY.length:Int)=m.pl.size
theorem Ad.Fe{m:Co}(h:m.Sn){a:Ad}(ha:a.yC m.pl):a.ix m.pl<m.RY.length:=by
 obtain⟨hp,ht,hl⟩:=h;unfold Pl.size Pl.wide Pl.room at hl;rw[ht]at hl;have hw:(m.pl.wk.toNat:Int)=m.pl.wk:=by unfold Pl.ok at hp;omega
 have hd:(m.pl.dq.toNat:Int)=m.pl.dq:=by unfold Pl.ok at hp;omega
 have hf:(m.pl.fr.toNat:Int)=m.pl.fr:=by unfold Pl.ok at hp;omega
 have e:((m.pl.wk.toNat*(4+m.pl.dq.toNat):Nat):Int)=m.pl.wk*(4+m.pl.dq):=by rw[Int.natCast_mul,Int.natCast_add,hw,hd];rfl
 cases a with
 |q v j=>have:=Ad.KP ha;omega
 |f i j=>
  obtain⟨a1,a2,a3⟩:=ha;show m.pl.wk.toNat*(4+m.pl.dq.toNat)+(i-1)*10+j<_
  omega
theorem Co.Pw{m:Co}(h:m.Sn){a b:Ad}(ha:a.yC m.pl)(hb:b.yC m.pl)(x:Int)(m':Co)(hw:m'.RY=m.RY.set (a.ix m.pl) x)(hp:m'.pl=m.pl):m'.wd b=if b=a then x else m.wd b:=by
 unfold Co.wd;rw[hp,hw]
 by_cases e:b=a
 ·subst e
  rw[if_pos rfl];simp[List.getD,Ad.Fe h ha]
 ·rw[if_neg e]
  have ne:a.ix m.pl≠b.ix m.pl:=λq=>e (Ad.inj ha hb q).symm;simp[List.getD,List.getElem?_set_ne ne]
theorem vk{p:Pl}(hp:p.ok)(v:Nat)(hv:v<p.wk.toNat)(j:Nat):p.bN v j=(Ad.q v j).ix p:=by
 unfold Pl.bN Pl.base jc Pl.wide Ad.ix;have hd:(p.dq.toNat:Int)=p.dq:=by unfold Pl.ok at hp;omega
 have e:min (max (v:Int) 0) (p.wk-1)=v:=by omega
 rw[e,<-hd];have q:(v:Int)*(4+(p.dq.toNat:Int))+j=((v*(4+p.dq.toNat)+j:Nat):Int):=by simp
 rw[q]
 rfl
theorem Ms{p:Pl}(hp:p.ok)(v:Nat)(hv:v<p.wk.toNat)(n:Int)(hn:0<=n):p.sN v n=(Ad.q v (4+(n%p.dq).toNat)).ix p:=by
 unfold Pl.sN Pl.slot Pl.base jc Pl.wide Ad.ix;have hd:(p.dq.toNat:Int)=p.dq:=by unfold Pl.ok at hp;omega
 have e:min (max (v:Int) 0) (p.wk-1)=v:=by omega
 have e2:max n 0=n:=by omega
 have m0:=Int.emod_nonneg n (show p.dq≠0 by unfold Pl.ok at hp;omega);rw[e,e2];have q:(v:Int)*(4+p.dq)+4+n%p.dq=((v*(4+p.dq.toNat)+(4+(n%p.dq).toNat):Nat):Int):=by
  simp only[Int.natCast_add,Int.natCast_mul,hd,Int.toNat_of_nonneg m0,Int.cast_ofNat_Int]
  omega
 rw[q]
 rfl
theorem EI{p:Pl}(hp:p.ok)(ht:p.th=1)(i:Nat)(h1:1<=i)(h2:i<=p.fr.toNat)(j:Nat):(p.frame i+j).toNat=(Ad.f i j).ix p:=by
 show _=p.wk.toNat*(4+p.dq.toNat)+(i-1)*10+j;unfold Pl.frame jc Pl.wide Pl.room;have hd:(p.dq.toNat:Int)=p.dq:=by unfold Pl.ok at hp;omega
 have hw:(p.wk.toNat:Int)=p.wk:=by unfold Pl.ok at hp;omega
 have e:min (max (i:Int) 1) p.fr=i:=by unfold Pl.ok at hp;omega
 have e3:((p.wk.toNat*(4+p.dq.toNat):Nat):Int)=p.wk*(4+p.dq):=by simp only[Int.natCast_add,Int.natCast_mul,hd,hw];rfl
 rw[e,ht]
 omega
theorem Qe{p:Pl}(hp:p.ok)(ht:p.th=1)(i:Nat)(h1:1<=i)(h2:i<=p.fr.toNat):p.fN i=(Ad.f i 0).ix p:=by
 have q:=EI hp ht i h1 h2 0;rw[<-q];unfold Pl.fN
 simp
theorem Qr{p:Pl}(hp:p.ok)(ht:p.th=1)(i:Nat)(h1:1<=i)(h2:i<=p.fr.toNat):p.nN i=(Ad.f i 1).ix p:=EI hp ht i h1 h2 1
theorem QG{p:Pl}(hp:p.ok)(ht:p.th=1)(i:Nat)(h1:1<=i)(h2:i<=p.fr.toNat)(it o:Nat):p.wN i it o=(Ad.f i (2+4*(it%2)+o)).ix p:=by
 have q:=EI hp ht i h1 h2 (2+4*(it%2)+o);rw[<-q];unfold Pl.wN Pl.word;rw[ht];have e:max (it:Int) 0%(1+1)=((it%2:Nat):Int):=by omega
 rw[e]
 congr 1
 omega
theorem Us101 {p:Prop} (h:p:=by
 have k1:e.kind≠1:=by omega
 have k4:e.kind≠4:=by omega
 rw[if_neg k1,if_neg k4];simp[iD,k1,k4]):p:=h
theorem Us77 {p:Prop} (h:p:=by
 rw[eq]
 rcases List.mem_append.1 hx with h1|h1
 ·have:=I.le x h1 hxs
  rw[q]at this
  simp at this⊢
  omega
 ·simp at h1;subst h1;simp;omega):p:=h
theorem Us21 {p:Prop} (h:p:=by
 have eq:eQ (l++[e]) e.loop=eQ l e.loop:=by rw[if_neg U2,if_neg U2]at eq;exact eq
 have hf:∀j,Fin (l++[e]) e.loop j↔Fin l e.loop j:=λj=>⟨λ⟨x,hx,a,b,c⟩=>by
  rcases List.mem_append.1 hx with h1|h1
  ·exact⟨x,h1,a,b,c⟩
  ·simp at h1;subst h1;omega,λf=>f.snoc e⟩
 refine⟨λj hj hb=>?_,λj fj=>?_,λx hx hxs=>?_,λz=>?_,?_⟩
 ·exact U146
 ·exact U155
 ·rw[eq]
  rcases List.mem_append.1 hx with h1|h1
  ·exact I.le x h1 hxs
  ·simp at h1;subst h1;rw[q];simp;omega
 ·rw[eq]at z⊢;exact I.pos z
 ·rw[eq,List.filter_append,List.length_append,I.cnt]
  have:e.kind≠1:=by omega
  simp[this]):p:=h
def j6(s:Int)(st:Nat×Bool)(e:Ev):Nat×Bool:=
 if e.loop=s then(if e.kind=1 then(st.1+1,true)else if e.kind=4 then(st.1,false)else st)else st
def eQ(l:List Ev)(s:Int):Nat×Bool:=l.foldl (j6 s) (0,false)
theorem iX(l:List Ev)(e:Ev)(s:Int):eQ (l++[e]) s=j6 s (eQ l s) e:=by unfold eQ;rw[List.foldl_append];rfl
theorem tq{l:List Ev}{e:Ev}{s:Int}(h:e.loop≠s):eQ (l++[e]) s=eQ l s:=by rw[iX];unfold j6;rw[if_neg h]
def Dw(l:List Ev)(e:Ev):Prop:=
 (e.kind=1/\eQ l e.loop=(e.iter.toNat,false)/\0<=e.iter)∨
 (e.kind=4/\eQ l e.loop=(e.iter.toNat+1,true)/\0<=e.iter)∨
 ((e.kind=2∨e.kind=3∨e.kind=6)/\eQ l e.loop=(e.iter.toNat+1,true)/\0<=e.iter)∨
 (e.kind=5/\eQ l e.loop=(e.iter.toNat,false)/\0<=e.iter)
inductive cZ:List Ev->Prop
 |nil:cZ []
 |snoc {l:List Ev} {e:Ev}:cZ l->Dw l e->0<=e.loop->cZ (l++[e])
def Fin(l:List Ev)(s it:Int):Prop:=∃e∈l,e.kind=4/\e.loop=s/\e.iter=it
theorem Fin.snoc{l:List Ev}{s it:Int}(h:Fin l s it)(e:Ev):Fin (l++[e]) s it:=by
 obtain⟨x,hx,r⟩:=h
 exact⟨x,List.mem_append_left _ hx,r⟩
theorem Fin.new{l:List Ev}(e:Ev)(h:e.kind=4):Fin (l++[e]) e.loop e.iter:=⟨e,by simp,h,rfl,rfl⟩
structure Mw(l:List Ev)(s:Int):Prop where
 fin:∀j:Nat,j<(eQ l s).1->((eQ l s).2=true->j+1<(eQ l s).1)->Fin l s j
 not:∀j:Int,Fin l s j->0<=j/\j<(eQ l s).1/\((eQ l s).2=true->j+1<(eQ l s).1)
 le:∀e∈l,e.loop=s->e.iter<=(eQ l s).1/\((eQ l s).2=true->e.iter<(eQ l s).1)
 pos:(eQ l s).2=true->1<=(eQ l s).1
 cnt:(l.filter (λe=>e.loop==s&&e.kind==1)).length=(eQ l s).1
theorem qI{l:List Ev}(h:cZ l):∀s,Mw l s:=by
 induction h with
 |nil=>exact λs=>⟨(λj hj=>by simp[eQ]at hj),(λj ⟨e,he,_⟩=>by cases he),(λe he=>by cases he),(λq=>by simp[eQ]at q),rfl⟩
 | @snoc l e hl he hb ih=>
  intro s;have I:=ih s
  by_cases hs:e.loop=s
  ·subst hs
   have eq:=iX l e e.loop;unfold j6 at eq;rw[if_pos rfl]at eq
   rcases he with⟨k,q,n⟩|⟨k,q,n⟩|⟨k,q,n⟩|⟨k,q,n⟩
   ·rw[if_pos k,q]at eq
    have hf:∀j,Fin (l++[e]) e.loop j↔Fin l e.loop j:=λj=>⟨λ⟨x,hx,a,b,c⟩=>by
     rcases List.mem_append.1 hx with h1|h1
     ·exact⟨x,h1,a,b,c⟩
     ·simp at h1;subst h1;omega,λf=>f.snoc e⟩
    refine⟨λj hj hb=>?_,λj fj=>?_,λx hx hxs=>?_,(λ_=>by rw[eq];simp),?_⟩
    ·rw[eq]at hj hb
     have:=hb rfl
     exact(I.fin j (by rw[q];simp at this⊢;omega) (λz=>by rw[q]at z;cases z)).snoc e
    ·have:=I.not j ((hf j).1 fj)
     rw[q]at this;rw[eq]
     simp at this⊢
     omega
    ·exact Us77
    ·rw[eq,List.filter_append,List.length_append,I.cnt,q]
     simp[k]
   ·rw[if_neg U2,if_pos k,q]at eq
    refine⟨λj hj _=>?_,λj fj=>?_,λx hx hxs=>?_,(λz=>by rw[eq]at z;cases z),?_⟩
    ·rw[eq]at hj
     by_cases ej:j=e.iter.toNat
     ·have:=Fin.new (l:=l) e k
      rw[show e.iter=((e.iter.toNat:Nat):Int)by omega]at this;rw[ej];exact this
     ·exact(I.fin j (by rw[q];simp at hj⊢;omega) (λ_=>by rw[q];simp at hj⊢;omega)).snoc e
    ·obtain⟨x,hx,a,b,c⟩:=fj
     rw[eq]
     rcases List.mem_append.1 hx with h1|h1
     ·have:=I.not j ⟨x,h1,a,b,c⟩
      rw[q]at this
      simp at this⊢
      omega
     ·simp at h1;subst h1;simp;omega
    ·exact Us77
    ·rw[eq,List.filter_append,List.length_append,I.cnt,q]
     simp[k]
   ·exact Us21
   ·exact Us21
  ·have eq:=tq (l:=l) hs
   have hf:∀j,Fin (l++[e]) s j↔Fin l s j:=λj=>⟨λ⟨x,hx,a,b,c⟩=>by
    rcases List.mem_append.1 hx with h1|h1
    ·exact⟨x,h1,a,b,c⟩
    ·simp at h1;subst h1;exact absurd b hs,λf=>f.snoc e⟩
   refine⟨λj hj hb=>?_,λj fj=>?_,λx hx hxs=>?_,λz=>?_,?_⟩
   ·exact U146
   ·exact U155
   ·rw[eq]
    rcases List.mem_append.1 hx with h1|h1
    ·exact I.le x h1 hxs
    ·simp at h1;subst h1;exact absurd hxs hs
   ·rw[eq]at z⊢;exact I.pos z
   ·rw[eq,List.filter_append,List.length_append,I.cnt]
    simp[hs]
theorem cZ.ge{l:List Ev}(h:cZ l):∀e∈l,0<=e.loop:=by
 induction h with
 |nil=>exact λe h=>(by cases h)
 | @snoc l e hl he hb ih=>
  intro x hx
  rcases List.mem_append.1 hx with h|h
  ·exact ih x h
  ·simp at h;subst h;exact hb
def Be(l:List Ev):Prop:=cZ l/\(∀e∈l,e.loop<=90000)/\(l.length:Int)<=90000
theorem cZ.take{l:List Ev}(h:cZ l)(n:Nat):cZ (l.take n):=by
 induction h with
 |nil=>simp;exact .nil
 | @snoc l e hl he hb ih=>
  by_cases hn:n<=l.length
  ·rw[List.take_append_of_le_length hn];exact ih
  ·rw[List.take_of_length_le U41];exact .snoc hl he hb
theorem cZ.at_{l:List Ev}(h:cZ l)(n:Nat)(hn:n<l.length):Dw (l.take n) l[n]:=by
 induction h with
 |nil=>cases hn
 | @snoc l e hl he hb ih=>
  by_cases hn':n<l.length
  ·rw[List.take_append_of_le_length U2,List.getElem_append_left hn'];exact ih hn'
  ·have:n=l.length:=by simp at hn;omega
   subst this
   simp
   exact he
theorem Cf{l:List Ev}(h:cZ l)(i k:Nat)(hi:i<l.length)(hk:k<i)(hl:(l[k]'U2).loop=l[i].loop):(l[k]'U2).iter<=l[i].iter:=by
 have e:=h.at_ i hi;have I:=qI (h.take i) l[i].loop;have m:l[k]'U2∈l.take i:=by rw[List.mem_take_iff_getElem];exact⟨k,by omega,rfl⟩
 have q:=I.le _ m hl
 rcases e with⟨_,e,n⟩|⟨_,e,n⟩|⟨_,e,n⟩|⟨_,e,n⟩<;>rw[e]at q<;>simp at q<;>omega
theorem Cg{l:List Ev}(h:cZ l)(i:Nat)(hi:i<l.length)(hk:l[i].kind=1):
  (((l.take i).filter (λe=>e.loop==l[i].loop&&e.kind==1)).length:Int)=l[i].iter/\(l[i].iter=0∨(0<l[i].iter/\Fin (l.take i) l[i].loop (l[i].iter-1))):=by
 have e:=h.at_ i hi;have I:=qI (h.take i) l[i].loop
 rcases e with⟨k,e,n⟩|⟨k,e,n⟩|⟨k,e,n⟩|⟨k,e,n⟩
 ·refine⟨by rw[I.cnt,e];simp;omega,?_⟩
  by_cases z:l[i].iter=0
  ·exact Or.inl z
  ·have q:=I.fin (l[i].iter.toNat-1) (by rw[e];simp;omega) (λz=>by rw[e]at z;cases z)
   refine Or.inr ⟨by omega,?_⟩;rw[show((l[i].iter.toNat-1:Nat):Int)=l[i].iter-1 by omega]at q
   exact q
 all_goals omega
def iD(e:Ev):Int:=if e.kind=1 then 1 else if e.kind=4 then-1 else 0
def iQ(l:List Ev)(s:Int):Int:=((l.filter (λe=>e.loop==s)).map iD).sum
theorem Km{l:List Ev}(h:cZ l)(s:Int):iQ l s=if(eQ l s).2=true then 1 else 0:=by
 induction h with
 |nil=>rfl
 | @snoc l e hl he hb ih=>
  unfold iQ at ih⊢;rw[List.filter_append,List.map_append,List.sum_append,ih]
  by_cases hs:e.loop=s
  ·subst hs
   rw[iX];unfold j6;rw[if_pos rfl]
   rcases he with⟨k,q,n⟩|⟨k,q,n⟩|⟨k,q,n⟩|⟨k,q,n⟩
   ·rw[if_pos k,q];simp[iD,k]
   ·have k1:e.kind≠1:=by omega
    rw[if_neg k1,if_pos k,q];simp[iD,k]
   ·exact Us101
   ·exact Us101
  ·rw[tq hs];simp[hs]
end Go.Proofs.YteiignfflbmafaaGreat.Tp
namespace Go.Proofs.YteiignfflbmafaaGreat.Tp
open Go.Proofs.Tryz
open Go.RowKit Go.Proofs.YteiignfflbmafaaGreat.Tok
inductive aY where
 |F
 |W (k r:Nat)
 |D (v:Nat) (n:Int)
 |Z
 |S
 |I (c:Nat)
 |P (l:Nat)
deriving DecidableEq
structure Gh where
 Sq:Nat->aY
 aU:Nat->Nat
 H:Nat->Int
 T:Nat->Int
 dk:Nat->Nat
 cr:Nat->Option Nat
 tk:Nat->Int->Nat
 cur:Nat->Nat
 ph:Nat->Nat
structure Fv where
 kind:Int
 Sg:Nat
 az:Bool
 due:Bool
 index:Nat
 Sc:Int
 R9:Nat
 ae:Int
def Fr.fv(f:Fr):Fv:=⟨f.kind,f.Sg.toNat,f.az,f.due,f.index,f.Sc,f.R9,f.ae⟩
structure Vw where
 pl:Pl
 W:Ad->Int
 fr:Nat->Fv
 Sj:Nat->Bool
 log:List Ev
 ae:Int
abbrev Vw.hd(m:Vw)(v:Nat):Int:=m.W (.q v 0)
abbrev Vw.tl(m:Vw)(v:Nat):Int:=m.W (.q v 1)
abbrev Vw.nx(m:Vw)(v:Nat):Int:=m.W (.q v 2)
abbrev Vw.sv(m:Vw)(v:Nat):Int:=m.W (.q v 3)
abbrev Vw.sl(m:Vw)(v:Nat)(n:Int):Int:=m.W (.q v (4+(n%m.pl.dq).toNat))
abbrev Vw.jn(m:Vw)(f:Nat):Int:=m.W (.f f 0)
abbrev Vw.np(m:Vw)(f:Nat):Int:=m.W (.f f 1)
abbrev Vw.cn(m:Vw)(f b:Nat):Int:=m.W (.f f (2+4*b))
abbrev Vw.stt(m:Vw)(f b:Nat):Int:=m.W (.f f (3+4*b))
abbrev Vw.dn(m:Vw)(f b:Nat):Int:=m.W (.f f (5+4*b))
abbrev Vw.kd(m:Vw)(f:Nat):Int:=(m.fr f).kind
abbrev Vw.pa(m:Vw)(f:Nat):Nat:=(m.fr f).Sg
def Sd{α β:Type}[DecidableEq α](f:α->β)(a:α)(b:β):α->β:=λc=>if c=a then b else f c
theorem Sb{α β:Type}[DecidableEq α](f:α->β)(a:α)(b:β):Sd f a b a=b:=if_pos rfl
theorem Sm{α β:Type}[DecidableEq α](f:α->β){a c:α}(b:β)(h:c≠a):Sd f a b c=f c:=if_neg h
def Ready(G:Gh)(m:Vw)(i:Nat):Prop:=m.kd i=2->G.ph i=1
def Gh.lo(G:Gh)(v:Nat):Int:=G.H v-(if G.dk v=2 then 1 else 0)
structure eP(G:Gh)(m:Vw)(tm:Int)(v:Nat):Prop where
 hd:m.hd v=G.H v+(if G.dk v=1 then 1 else 0)
 lo:0<=G.lo v
 le:G.H v<=G.T v
 top:G.T v<=tm
 tl:m.tl v<=G.T v/\G.T v-1<=m.tl v
 sl:∀n,G.H v<=n->n<G.T v->∃i:Nat,m.sl v n=i/\G.Sq i=.D v n/\Ready G m i
 sv:0<=m.sv v/\m.sv v<=m.nx v/\m.nx v<=tm
 dk:G.dk v≠0->m.sv v<m.nx v/\∃c,G.cr v=some c/\G.tk v (m.sv v)=c
 cr:G.dk v=0->G.cr v=none
 d2:G.dk v<=2
def Wait(G:Gh)(m:Vw)(k v:Nat)(r:DW):Prop:=r.ta=m.pl.bN v 2/\r.tn<m.nx v/\G.tk v r.tn=k/\G.cr v≠some k
def jH(G:Gh)(m:Vw)(k v:Nat)(r:DW):Prop:=r.ta=m.pl.bN v 2/\r.tn=m.sv v/\m.sv v<m.nx v/\G.tk v r.tn=k
def ig(G:Gh)(m:Vw)(k:Nat)(r:DW):Prop:=
 r.p=m.pl/\r.Sk=k/\m.tl k=r.t/\G.T k=r.t/\r.Sn=false/\
 match r.nx with
 | .room=>True
 | .lay=>r.t-G.lo k<=m.pl.dq-1
 | .grow=>r.t-G.lo k<=m.pl.dq-1/\m.sl k r.t=r.x
 |_=>False
def xI(G:Gh)(m:Vw)(k:Nat)(r:DW):Prop:=
 r.p=m.pl/\r.Sk=k/\r.Sl=false/\
 match r.nx with
 | .less=>m.tl k=r.t/\G.T k=r.t
 | .looks=>m.tl k=r.t-1/\G.T k=r.t
 | .takes=>m.tl k=G.T k/\r.t=G.T k+1/\∃i:Nat,m.sl k (G.T k)=i/\G.Sq i=.W k 0/\Ready G m i
 | .aX=>m.tl k=r.t-1/\G.T k=r.t
 | .ask .again=>m.tl k=r.t/\G.T k=r.t
 | .mine .again=>m.tl k=r.t/\G.T k=r.t/\Wait G m k k r
 | .aW=>m.tl k=r.t/\G.T k=r.t/\jH G m k k r/\G.cr k≠some k
 | .aI=>m.tl k=r.t-1/\G.T k=r.t/\jH G m k k r/\G.cr k≠some k
 | .leave true=>m.tl k=G.T k/\r.t=G.T k+1/\(∃i:Nat,m.sl k (G.T k)=i/\G.Sq i=.W k 0/\Ready G m i)/\jH G m k k r/\G.cr k≠some k
 | .puts=>m.tl k=r.t-1/\G.T k=r.t/\jH G m k k r/\G.cr k≠some k
 | .leave false=>m.tl k=r.t/\G.T k=r.t/\jH G m k k r/\G.cr k≠some k
 |_=>False
def lD(G:Gh)(m:Vw)(k v:Nat)(r:DW):Prop:=
 r.p=m.pl/\r.Sk=v/\v<m.pl.wk.toNat/\
 match r.nx with
 | .ask .first=>r.Sl=false
 | .mine .first=>r.Sl=false/\Wait G m k v r
 | .first=>r.Sl=false/\jH G m k v r/\G.cr v≠some k
 | .claims=>r.Sl=false/\jH G m k v r/\G.cr v≠some k/\r.h=G.H v
 | .finds=>r.Sl=false/\jH G m k v r/\G.cr v=some k/\G.dk v=1/\r.h=G.H v
 | .aS=>r.Sl=false/\jH G m k v r/\G.cr v=some k/\G.dk v=1/\r.h=G.H v
 | .carries=>r.Sl=false/\jH G m k v r/\G.cr v=some k/\G.dk v=2/\r.h=G.H v-1/\∃i:Nat,m.sl v r.h=i/\G.Sq i=.W k 0/\Ready G m i
 | .leave false=>jH G m k v r/\G.cr v≠some k/\(r.Sl=true->∃i:Nat,r.x=i/\G.Sq i=.W k 0/\Ready G m i)
 |_=>False
def zJ(G:Gh)(m:Vw)(k:Nat)(x:WS)(i:Nat)(ph:Nat):Prop:=x.Sa=i/\G.Sq i=.W k 0/\m.kd i=2/\G.ph i=ph/\(m.fr i).az=false
def Run(G:Gh)(m:Vw)(i:Nat):Prop:=m.kd i≠3/\(m.kd i=2->G.ph i=1)
def Ring(m:Vw)(i:Nat)(r:NW):Prop:=r.p=m.pl/\r.over=false/\r.id=(m.pa i:Nat)/\r.au=(m.fr (m.pa i)).ae/\r.it=(m.fr i).index
inductive Cl(G:Gh)(m:Vw)(k:Nat)(x:WS):Prop
 |yU:x.R8=0->Cl G m k x
 |dM (r:DW) (v:Nat):x.R8=1->x.dq=some r->lD G m k v r->Cl G m k x
 |pop (r:DW):x.R8=2->x.dq=some r->xI G m k r->Cl G m k x
 |tC (r:DW) (i l:Nat):x.R8=3->x.dq=some r->ig G m k r->r.x=l->G.Sq l=.W k 0->Ready G m l->x.thn=some .aL->x.Sa=i->G.Sq i=.W k 1->m.kd i=2->G.ph i=1->(m.fr i).az=false->(m.fr i).Sc≠0->x.aB<=1048575->Cl G m k x
 |tF (r:DW) (l j:Nat):x.R8=3->x.dq=some r->ig G m k r->r.x=l->G.Sq l=.W k 0->Ready G m l->x.thn=some (.runs j)->G.Sq j=.W k 1->Run G m j->Cl G m k x
 |run (i:Nat):x.R8=4->x.Sa=i->G.Sq i=.W k 0->Run G m i->Cl G m k x
 |joined (i:Nat):x.R8=5->x.Sa=i->G.Sq i=.W k 2->Run G m i->Cl G m k x
 |spawn (i j:Nat):x.R8=6->x.Sa=i->x.other=j->G.Sq i=.W k 0->G.Sq j=.W k 3->Run G m i->m.kd j=1->m.pa j=i->G.aU j=0->(m.fr i).az=true->Cl G m k x
 |lI (p:Nat):x.R8=7->x.other=p->G.aU (2000+k)=p->1<=p->Cl G m k x
 |resume (p:Nat):x.R8=8->x.other=p->G.Sq p=.W k 2->Run G m p->Cl G m k x
 |advance (i:Nat):x.R8=9->zJ G m k x i 1->(m.fr i).Sc<x.aB->x.aB<=1048575->Cl G m k x
 |wH (i:Nat):x.R8=10->zJ G m k x i 1->(m.fr i).Sc≠0->x.aB<=1048575->Cl G m k x
 |lK (i:Nat) (r:RW):x.R8=11->zJ G m k x i 1->(m.fr i).Sc≠0->x.aB<=1048575->x.gy=0->x.rt=some r->r.p=m.pl->r.nx=0->r.Sl=false->r.id=(m.pa i:Nat)->Cl G m k x
 |pY (i:Nat) (r:RW):x.R8=11->zJ G m k x i 2->x.gy=2->x.rt=some r->r.p=m.pl->r.nx=0->r.Sl=false->r.fm=0->r.id=(m.pa i:Nat)->(x.eh=true↔(m.fr i).Sc=0)->x.ew=false->Cl G m k x
 |look (i:Nat):x.R8=12->zJ G m k x i 1->(m.fr i).Sc≠0->x.aB<=1048575->1<=(m.fr i).index->Cl G m k x
 |ending (i:Nat):x.R8=14->zJ G m k x i 1->(x.eh=true↔(m.fr i).Sc=0)->x.ew=false->Cl G m k x
 |closing (i:Nat) (r:NW) (lk:Bool):x.R8=15->zJ G m k x i 2->(x.eh=true↔(m.fr i).Sc=0)->x.ew=false->x.er=0->x.wk=some (r,lk)->Ring m i r->lk= !x.eh->(r.at_=0∨(lk=true/\(r.at_=1∨r.at_=2)))->r.iG=false->Cl G m k x
 |drop (i:Nat):x.R8=16->zJ G m k x i 2->(x.eh=true↔(m.fr i).Sc=0)->x.er=0->(x.ew=true->x.eh=false/\G.Sq (m.pa i)=.W k 1)->Cl G m k x
 |finish (l:Nat):x.R8=17->x.other=l->G.Sq l=.W k 0->m.kd l=3->Cl G m k x
 |complete (l:Nat):x.R8=18->x.Sa=l->G.Sq l=.W k 2->m.kd l=3->Cl G m k x
 |loop (l:Nat):x.R8=19->x.Sa=l->G.Sq l=.W k 0->m.kd l=3->Cl G m k x
 |gI (l:Nat) (r:NW):x.R8=20->x.other=l->x.np=some r->r.p=m.pl->r.over=false->r.iG=false->r.id=l->1<=l->l<=m.pl.fr.toNat->1<=r.au->r.au<=m.ae->r.it<=100000->
   (r.at_=0∨r.at_=1∨r.at_=2)->(r.at_=0->G.Sq l=.W k 0/\m.kd l=3/\r.au=(m.fr l).ae/\r.it+1=(m.fr l).R9)->(r.at_=2->Fin m.log r.au r.it)->Cl G m k x
 |start (l:Nat):x.R8=21->x.Sa=l->G.Sq l=.W k 0->m.kd l=3->1<=(m.fr l).R9->Fin m.log (m.fr l).ae ((m.fr l).R9-1:Nat)->Cl G m k x
 |begins (l c:Nat):(x.R8=22∨x.R8=23∨x.R8=24)->x.Sa=l->x.other=c->G.Sq l=.W k 0->G.Sq c=.W k 3->m.kd l=3->m.kd c=2->m.pa c=l->G.ph c=0->G.aU c=0->Cl G m k x
def Idle(G:Gh)(m:Vw)(tm:Int)(k:Nat)(x:WS):Prop:=x.Sq=k/\(x.R8≠2->x.R8≠3->m.tl k=x.tail/\G.T k=x.tail)/\(0<=x.ag/\x.ag<=tm)/\(∀v,G.cr v=some k->x.R8=1/\∃r,x.dq=some r/\r.Sk=v/\(r.nx=.finds∨r.nx=.aS∨r.nx=.carries))/\
 (∀i,G.Sq i=.W k 3->(x.R8=6∨x.R8=22∨x.R8=23∨x.R8=24)/\x.other=i)/\(x.R8≠7->G.aU (2000+k)=0)
def cnt(o:Nat->Nat)(f:Nat):Nat:=((List.range 2100).filter (λd=>o d==f)).length
def aY.acts:aY->Int
 | .F=>0
 | .W _ r=>if r=2 then 0 else 1
 | .D _ _=>1
 | .Z=>1
 | .S=>0
 | .I _=>1
 | .P _=>1
def aY.new:aY->Nat
 | .W k r=>if r=3 then k+1 else 0
 |_=>0
def aY.hand:aY->Nat
 | .W k r=>if r=0 then k+1 else 0
 |_=>0
theorem aY.fA{p:aY}{k:Nat}(h:p.new=k+1):p=.W k 3:=by
 unfold aY.new at h
 split at h
 ·split at h
  ·simp_all
  ·cases h
 ·cases h
theorem aY.Kb{p:aY}{k:Nat}(h:p.hand=k+1):p=.W k 0:=by
 unfold aY.hand at h
 split at h
 ·split at h
  ·simp_all
  ·cases h
 ·cases h
def Dn(l:List Ev)(n w:Int):Prop:=∃s it:Int,1<=s/\s<=n/\0<=it/\it<=100000/\w=aA s it 0/\Fin l s it
theorem Dn.mono{l l':List Ev}{n n' w:Int}(h:Dn l n w)(hf:∀s it,Fin l s it->Fin l' s it)(hn:n<=n'):Dn l' n' w:=by
 obtain⟨s,it,a,b,c,d,e,f⟩:=h
 exact⟨s,it,a,Int.le_trans b hn,c,d,e,hf _ _ f⟩
structure bP(G:Gh)(m:Vw)(tm:Int):Prop where
 hld:∀f,m.Sj f=true↔G.Sq f≠ .F
 bd:∀f,G.Sq f≠ .F->1<=f/\f<=m.pl.fr.toNat/\f<=256
 kind:∀f,G.Sq f≠ .F->m.kd f=1∨m.kd f=2∨m.kd f=3
 due:∀f,G.Sq f≠ .F->(m.fr f).due=true->m.kd f=2
 bF:∀f,G.Sq f≠ .F->m.kd f=1->m.pa f≠0->G.Sq (m.pa f)≠ .F/\m.kd (m.pa f)≠3
 kC:∀f,G.Sq f≠ .F->m.kd f=1->m.pa f≠0->G.aU f≠m.pa f->(G.Sq f).new≠0/\(G.Sq (m.pa f)).hand=(G.Sq f).new
 iter:∀f,G.Sq f≠ .F->m.kd f=2->G.Sq (m.pa f)≠ .F/\m.kd (m.pa f)=3
 ix:∀f,G.Sq f≠ .F->m.kd f=2->(m.fr f).index<(m.fr (m.pa f)).R9/\0<=(m.fr f).Sc/\(m.fr f).Sc<=1048575/\((m.fr f).az=true->G.ph f=1)/\G.ph f<=2
 jD:∀f,G.Sq f≠ .F->m.kd f=2->G.ph f=0->(G.Sq f).new≠0/\(G.Sq (m.pa f)).hand=(G.Sq f).new/\(m.fr f).Sc=0/\(m.fr f).index+1=(m.fr (m.pa f)).R9/\G.cur (m.pa f)=f/\eQ m.log (m.fr (m.pa f)).ae=((m.fr f).index,false)
 iO:∀f,G.Sq f≠ .F->m.kd f=2->G.ph f=1->G.aU f=m.pa f/\(m.fr f).index+1=(m.fr (m.pa f)).R9/\G.cur (m.pa f)=f/\eQ m.log (m.fr (m.pa f)).ae=((m.fr f).index+1,true)
 jq:∀f,G.Sq f≠ .F->m.kd f=2->G.ph f=2->G.aU f=m.pa f/\Fin m.log (m.fr (m.pa f)).ae (m.fr f).index
 st0:∀f,G.Sq f≠ .F->m.kd f=2->G.ph f≠0->(m.fr f).Sc=0->G.Sq (m.pa f)=.I f
 loop:∀f,G.Sq f≠ .F->m.kd f=3->G.Sq (m.pa f)=.P f/\m.kd (m.pa f)≠3/\(m.kd (m.pa f)=2->G.ph (m.pa f)=1)
 au:∀f,G.Sq f≠ .F->m.kd f=3->1<=(m.fr f).ae/\(m.fr f).ae<=m.ae
 jG:∀f,G.Sq f≠ .F->m.kd f=3->((m.fr f).R9:Int)<=tm
 dO:∀f,G.Sq f≠ .F->m.kd f=3->(eQ m.log (m.fr f).ae).1<=(m.fr f).R9/\(m.fr f).R9<=(eQ m.log (m.fr f).ae).1+1
 dU:∀f,G.Sq f≠ .F->m.kd f=3->(eQ m.log (m.fr f).ae).2=true->(eQ m.log (m.fr f).ae).1=(m.fr f).R9/\G.Sq (G.cur f)≠ .F/\m.kd (G.cur f)=2/\m.pa (G.cur f)=f/\G.ph (G.cur f)=1
 dV:∀f,G.Sq f≠ .F->m.kd f=3->(eQ m.log (m.fr f).ae).1+1=(m.fr f).R9->G.Sq (G.cur f)≠ .F/\m.kd (G.cur f)=2/\m.pa (G.cur f)=f/\G.ph (G.cur f)=0
 c1:∀f,G.Sq f≠ .F->m.kd f=3->2<=(m.fr f).R9->m.cn f ((m.fr f).R9%2)=1048576
 c2:∀f,G.Sq f≠ .F->m.kd f=3->1<=(m.fr f).R9->Fin m.log (m.fr f).ae ((m.fr f).R9-1:Nat)->m.cn f (((m.fr f).R9+1)%2)=1048576
 dn:∀f b,1<=f->f<=m.pl.fr.toNat->b<2->m.dn f b≠0->Dn m.log m.ae (m.dn f b)
 jn:∀f,G.Sq f≠ .F->(cnt G.aU f:Int)+(G.Sq f).acts<=m.jn f/\m.jn f<=tm
 jz:∀f k,G.Sq f=.W k 2->m.jn f=0
 dG:∀f,G.Sq f≠ .F->m.kd f≠3->(m.fr f).az=false->cnt G.aU f=0
 one:∀f g,G.Sq f≠ .F->G.Sq g≠ .F->m.kd f=3->m.kd g=3->(m.fr f).ae=(m.fr g).ae->f=g
 ko:∀f,1<=f->f<=m.pl.fr.toNat->m.np f≠0->m.kd f=3/\G.Sq f=.Z/\1<=(m.fr f).R9/\m.np f=aA (m.fr f).ae ((m.fr f).R9-1:Nat) 0
 stt:∀f b,1<=f->f<=m.pl.fr.toNat->b<2->m.stt f b=0
 dJ:∀d,G.aU d≠0->d<2000->G.Sq d≠ .F/\m.kd d≠3/\m.pa d=G.aU d
 dK:∀k,G.aU (2000+k)≠0->G.Sq (G.aU (2000+k))≠ .F/\m.kd (G.aU (2000+k))≠3
 dP:∀d,2100<=d->G.aU d=0
 dC:∀f k,G.Sq f=.W k 3->G.aU f=0
 lg:cZ m.log
 sr:0<=m.ae/\m.ae<=tm
 seen:∀e∈m.log,e.loop<=m.ae
 few:(m.log.length:Int)<=tm
structure Inv(G:Gh)(m:Vw)(ws:Nat->Option WS)(tm:Int):Prop where
 ok:m.pl.ok
 Pg:1<=tm/\tm<=90000
 Dr:∀k x,ws k=some x->k<m.pl.wk.toNat
 dq:∀v,v<m.pl.wk.toNat->eP G m tm v
 cl:∀k x,ws k=some x->Cl G m k x/\Idle G m tm k x
 aJ:bP G m tm
theorem jW(o:Nat->Nat)(d p f:Nat):∀(l:List Nat),l.Nodup->((l.filter (λx=>Sd o d p x==f)).length+(if d∈l/\o d=f then 1 else 0)=(l.filter (λx=>o x==f)).length+(if d∈l/\p=f then 1 else 0))
 |[],_=>by simp
 |a::l,h=>by
  have hn:=List.nodup_cons.1 h;have ih:=jW o d p f l hn.2
  by_cases e:a=d
  ·subst e
   have q:Sd o a p a=p:=Sb _ _ _;simp only[List.filter_cons,q,hn.1,List.mem_cons,true_or,false_and,true_and,if_false,Nat.add_zero,beq_iff_eq]at ih⊢
   by_cases h1:p=f<;>by_cases h2:o a=f<;>simp[h1,h2]at ih⊢ <;>omega
  ·have q:Sd o d p a=o a:=Sm _ _ e
   have e':¬d=a:=λz=>e z.symm;simp only[List.filter_cons,q,List.mem_cons,e',false_or]at ih⊢
   by_cases h1:(o a==f)=true
   ·simp only[h1,if_true,List.length_cons];omega
   ·simp only[h1];simpa using ih
theorem eU(o:Nat->Nat)(d p f:Nat)(hd:d<2100):cnt (Sd o d p) f+(if o d=f then 1 else 0)=cnt o f+(if p=f then 1 else 0):=by
 have q:=jW o d p f (List.range 2100) List.nodup_range;have hm:d∈List.range 2100:=List.mem_range.2 hd;simp only[hm,true_and]at q
 exact q
theorem fG{o:Nat->Nat}{d f:Nat}(hd:d<2100)(h:o d=f):1<=cnt o f:=by
 unfold cnt;refine List.length_pos_iff.2 (λz=>?_)
 have:d∈(List.range 2100).filter (λd=>o d==f):=List.mem_filter.2 ⟨List.mem_range.2 hd,by simp[h]⟩
 rw[z]at this
 cases this
theorem iR{o:Nat->Nat}{f:Nat}(h:cnt o f=0){d:Nat}(hd:d<2100):o d≠f:=λe=>by
 have:=fG hd e
 omega
theorem qh{o:Nat->Nat}{f:Nat}(h:∀d,d<2100->o d≠f):cnt o f=0:=by
 unfold cnt;refine List.length_eq_zero_iff.2 (List.filter_eq_nil_iff.2 (λa ha=>?_))
 have:=h a (List.mem_range.1 ha)
 simpa using this
structure NS(G:Gh)(m:Vw)(G':Gh)(m':Vw)(k:Nat):Prop where
 pl:m'.pl=m.pl
 q:∀v j,m'.W (.q v j)=m.W (.q v j)
 H:G'.H=G.H
 T:G'.T=G.T
 dk:G'.dk=G.dk
 cr:G'.cr=G.cr
 tk:G'.tk=G.tk
 Re:∀i v n,G.Sq i=.D v n->G'.Sq i=.D v n/\m'.fr i=m.fr i/\G'.ph i=G.ph i
 Rx:∀i j r,j≠k->G.Sq i=.W j r->G'.Sq i=.W j r/\m'.fr i=m.fr i/\G'.ph i=G.ph i/\G'.aU i=G.aU i
 w3:∀i j,j≠k->G'.Sq i=.W j 3->G.Sq i=.W j 3
 au:∀i,G.Sq i≠ .F->(m'.fr i).ae=(m.fr i).ae
 aU:∀j,j≠k->G'.aU (2000+j)=G.aU (2000+j)
 fin:∀s it,Fin m.log s it->Fin m'.log s it
 ae:m.ae<=m'.ae
theorem FU{l:List Ev}{s:Int}(h:∀e∈l,e.loop≠s):eQ l s=(0,false):=by
 unfold eQ
 suffices H:∀(l:List Ev)(st:Nat×Bool),(∀e∈l,e.loop≠s)->l.foldl (j6 s) st=st from H l _ h
 intro l
 induction l with
 |nil=>intro st _;rfl
 |cons a l ih=>
  intro st hl;have ha:j6 s st a=st:=by unfold j6;rw[if_neg (hl a U8)]
  rw[List.foldl_cons,ha]
  exact ih st (λe he=>hl e (by simp[he]))
theorem Fin.Az{l:List Ev}{e:Ev}{s it:Int}(h:Fin (l++[e]) s it):Fin l s it∨(e.kind=4/\e.loop=s/\e.iter=it):=by
 obtain⟨x,hx,a,b,c⟩:=h
 rcases List.mem_append.1 hx with h1|h1
 ·exact Or.inl ⟨x,h1,a,b,c⟩
 ·simp at h1;subst h1;exact Or.inr ⟨a,b,c⟩
theorem Fin.seen{l:List Ev}{s it n:Int}(h:Fin l s it)(hs:∀e∈l,e.loop<=n):s<=n:=by
 obtain⟨x,hx,a,b,c⟩:=h;rw[<-b];exact hs x hx
theorem Fin.Ap{l:List Ev}(hl:cZ l){s:Int}{n:Nat}(h:eQ l s=(n+1,true)):¬Fin l s n:=λf=>by
 have:=(qI hl s).not _ f
 rw[h]at this
 simp at this
theorem Fin.Aq{l:List Ev}(hl:cZ l){s:Int}{n:Nat}{b:Bool}(h:eQ l s=(n,b)):¬Fin l s n:=λf=>by
 have:=(qI hl s).not _ f
 rw[h]at this
 simp at this
theorem bP.qd{G:Gh}{m:Vw}{tm:Int}(F:bP G m tm){j:Nat}(h:G.Sq j=.F)(hj:j≠0):cnt G.aU j=0:=qh λd hd e=>by
 by_cases q:d<2000
 ·obtain⟨a,b,c⟩:=F.dJ d U2 q
  have k:=F.kind d a;have t:=F.bF d a;have it:=F.iter d a;rw[e]at c
  rcases k with k|k|k
  ·exact(t k U2).1 (by rw[c];exact h)
  ·exact(it k).1 (by rw[c];exact h)
  ·exact b k
 ·have r:=F.dK (d-2000)
  rw[show 2000+(d-2000)=d by omega]at r
  exact(r U2).1 (by rw[e];exact h)
def Vw.put(m:Vw)(i j:Nat)(v:Int):Vw:={m with W:=Sd m.W (.f i j) v}
def blank(W:Ad->Int)(j:Nat):Ad->Int
 | .q v b=>W (.q v b)
 | .f i b=>if i=j then(if b=0 then 1 else 0)else W (.f i b)
theorem RH{p:Prop}(h:p:=by
 try simp only[Vw.kd,Vw.pa,Vw.jn,Vw.cn,Vw.dn,Vw.np,Vw.stt,fF]at*
 grind[Sd,aY.new,aY.hand,aY.acts]):p:=h
theorem Jh{p:Prop}(h:p:=by
 simp only[Vw.kd,Vw.pa,Vw.jn,Vw.cn,Vw.dn,Vw.np,Vw.stt,e_kind,e_parent,e_dirty,e_due,e_index,e_stage,e_started,e_serial,iy]at*
 grind[Sd,aY.new,aY.hand,aY.acts]):p:=h
theorem uZ{p:Prop}(h:p:=by
 simp only[Vw.kd,Vw.pa,Vw.jn,Vw.cn,Vw.dn,Vw.np,Vw.stt,fF]at*
 grind[Sd,aY.new,aY.hand,aY.acts]):p:=h
theorem RI{p:Prop}(h:p:=by
 try simp only[Vw.kd,Vw.pa,Vw.jn,Vw.cn,Vw.dn,Vw.np,Vw.stt,fF,lq,fq]at*
 grind[Sd,aY.new,aY.hand,aY.acts]):p:=h
theorem xH{p:Prop}(h:p:=by
 simp only[Vw.kd,Vw.pa,Vw.jn,Vw.cn,Vw.dn,Vw.np,Vw.stt,fF,lq,fq]at*
 grind[Sd,aY.new,aY.hand,aY.acts]):p:=h
theorem RJ{p:Prop}(h:p:=by
 try simp only[Vw.kd,Vw.pa,Vw.jn,Vw.cn,Vw.dn,Vw.np,Vw.stt,fF,e_kind,e_parent,e_dirty,e_due,e_index,e_stage,e_started,e_serial]at*
 grind[Sd,aY.new,aY.hand,aY.acts]):p:=h
theorem PI{p:Prop}(h:p:=by
 simp only[Vw.kd,Vw.pa,Vw.jn,Vw.cn,Vw.dn,Vw.np,Vw.stt,fF,e_kind,e_parent,e_dirty,e_due,e_index,e_stage,e_started,e_serial]at*
 grind[Sd,aY.new,aY.hand,aY.acts]):p:=h
theorem RN{p:Prop}(h:p:=by
 simp only[Vw.jn,fF]at*
 grind[Sd,aY.acts]):p:=h
theorem J1{a p:Prop}(x:a)(h:a->p:=by
 intro this
 grind[Sd,aY.new,aY.hand]):p:=h x
theorem J2{a p:Prop}(x:a)(h:a->p:=by
 intro this
 exact RH):p:=h x
theorem J3{a p:Prop}(x:a)(h:a->p:=by
 intro this
 exact Jh):p:=h x
theorem J4{a p:Prop}(x:a)(h:a->p:=by
 intro zz;intro f hf;have hf3:G.Sq f≠ .F:=hf
 have:=zz f hf3;clear zz
 exact uZ):p:=h x
theorem J5{a p:Prop}(x:a)(h:a->p:=by
 intro zz;intro f hf;have hf3:G.Sq f≠ .F:=(not_congr (hF f)).1 hf
 have:=zz f hf3;clear zz
 exact uZ):p:=h x
theorem J6{a p:Prop}(x:a)(h:a->p:=by
 intro zz;intro f hf;have hf3:G.Sq f≠ .F:=((hF f).1 hf).1
 have:=zz f hf3;clear zz
 exact uZ):p:=h x
theorem J7{a p:Prop}(x:a)(h:a->p:=by
 intro zz;intro f hf;have hf2:=(not_congr (hF f)).1 hf
 by_cases e:f=j
 ·subst e
  exact Jh
 ·have hf3:G.Sq f≠ .F:=λz=>hf2 ⟨z,e⟩
  have:=zz f hf3;clear zz
  have p1:=pj1 f hf3;have p2:=pj2 f hf3;have p3:=pj3 f hf3;have p4:=F.iter f hf3;have p5:=F.bF f hf3;clear pj1 pj2 pj3
  exact Jh):p:=h x
theorem J8{a p:Prop}(x:a)(h:a->p:=by
 intro this
 exact RI):p:=h x
theorem J9{a p:Prop}(x:a)(h:a->p:=by
 intro zz;intro f hf;have hf3:G.Sq f≠ .F:=hf
 have:=zz f hf3;clear zz
 exact xH):p:=h x
theorem J10{a p:Prop}(x:a)(h:a->p:=by
 intro this
 exact RJ):p:=h x
theorem J11{a p:Prop}(x:a)(h:a->p:=by
 intro zz;intro f hf;have hf3:G.Sq f≠ .F:=hf
 have:=zz f hf3;clear zz
 exact PI):p:=h x
theorem J12{a p:Prop}(x:a)(h:a->p:=by
 intro zz;have s0:=F.iter;have:=zz;clear zz;grind[Sd,aY.new,aY.hand]):p:=h x
theorem J13{a p:Prop}(x:a)(h:a->p:=by
 intro this
 exact⟨this.1,Int.le_trans this.2 U2⟩):p:=h x
theorem J14{a p:Prop}(x:a)(h:a->p:=by
 intro this
 show(m.log.length:Int)<=_;omega):p:=h x
theorem J15{a p:Prop}(x:a)(h:a->p:=by
 intro zz;intro f hf;have hf3:G.Sq f≠ .F:=((hF f).1 hf).1
 have:=zz f hf3;clear zz
 have u2:=np2 f hf3;have e:=((hF f).1 hf).2;have p0:=F.iter f hf3;clear np1 np2 np3 q hn2
 exact uZ):p:=h x
theorem J16{a p:Prop}(x:a)(h:a->p:=by
 intro zz;intro f hf;have hf3:G.Sq f≠ .F:=(not_congr (hF f)).1 hf
 have:=zz f hf3;clear zz
 exact PI):p:=h x
theorem J17{a p:Prop}(x:a)(h:a->p:=by
 intro zz;intro f hf;have hf3:G.Sq f≠ .F:=hf
 have:=zz f hf3;clear zz
 have p0:=F.iter f hf3
 exact uZ):p:=h x
theorem J18{a p:Prop}(x:a)(h:a->p:=by
 intro zz;intro f hf;have hf3:G.Sq f≠ .F:=(not_congr (hF f)).1 hf
 have:=zz f hf3;clear zz
 have p0:=F.iter f hf3
 exact uZ):p:=h x
theorem J19{a p:Prop}(x:a)(h:a->p:=by
 intro zz;intro f hf;have hf3:G.Sq f≠ .F:=(not_congr (hF f)).1 hf
 have:=zz f hf3;clear zz
 exact xH):p:=h x
theorem J20{a p:Prop}(x:a)(h:a->p:=by
 intro zz;intro f hf;have hf3:G.Sq f≠ .F:=((hF f).1 hf).1
 have:=zz f hf3;clear zz
 exact xH):p:=h x
theorem J21{a p:Prop}(x:a)(h:a->p:=by
 intro zz;intro f hf;have hf3:G.Sq f≠ .F:=hf
 have:=zz f hf3;clear zz
 have p0:=F.iter f hf3
 exact PI):p:=h x
theorem J22{a p:Prop}(x:a)(h:a->p:=by
 intro zz;intro f hf;have hf3:G.Sq f≠ .F:=hf
 have:=zz f hf3;clear zz
 have p0:=F.iter f hf3
 exact xH):p:=h x
theorem J23{a p:Prop}(x:a)(h:a->p:=by
 intro zz;intro f hf;have hf3:G.Sq f≠ .F:=(not_congr (hF f)).1 hf
 have:=zz f hf3;clear zz
 have p0:=F.iter f hf3
 exact PI):p:=h x
theorem J24{a p:Prop}(x:a)(h:a->p:=by
 intro zz;intro f hf;have hf3:G.Sq f≠ .F:=hf
 have:=zz f hf3;clear zz
 have u1:=i2 f hf3;have u2:=so (m.pa f);have u3:=F.iter f hf3;have p0:=F.iter f hf3
 exact xH):p:=h x
theorem J25{a p:Prop}(x:a)(h:a->p:=by
 intro zz;intro f;have a:=zz f;have b:=hF f;show Sd m.Sj i false f=true↔_
 by_cases e:f=i
 ·exact U150
 ·rw[Sm _ _ e,a];exact⟨λz=>b.2 ⟨z,e⟩,λz=>(b.1 z).1⟩):p:=h x
theorem J26{a p:Prop}(x:a)(h:a->p:=by
 intro zz;intro f hf
 exact zz f ((hF f).1 hf).1):p:=h x
theorem J27{a p:Prop}(x:a)(h:a->p:=by
 intro zz;intro f hf;have hf3:G.Sq f≠ .F:=((hF f).1 hf).1
 have:=zz f hf3;clear zz
 have u2:=np2 f hf3;have e:=((hF f).1 hf).2;have p0:=F.iter f hf3;have b1:=(F.bd f hf3).2.2;clear np1 np2 np3 q q2 hn2
 exact uZ):p:=h x
theorem J28{a p:Prop}(x:a)(h:a->p:=by
 intro zz;intro f hf;have hf3:G.Sq f≠ .F:=((hF f).1 hf).1
 have:=zz f hf3;clear zz
 have u2:=np2 f hf3;have u3:=np5 f hf3;have e:=((hF f).1 hf).2;have p0:=F.iter f hf3;clear np1 np2 np3 np4 np5
 exact xH):p:=h x
theorem J29{a p:Prop}(x:a)(h:a->p:=by
 intro zz;have s0:=F.bF;have:=zz;clear zz;grind[Sd,aY.new,aY.hand]):p:=h x
theorem J30{a p:Prop}(x:a)(h:a->p:=by
 intro zz;have s0:=F.bd;have:=zz;clear zz;grind[Sd,aY.new,aY.hand]):p:=h x
theorem J31{a p:Prop}(x:a)(h:a->p:=by
 intro zz;have s0:=F.iter;have s1:=F.bd;have:=zz;clear zz;grind[Sd,aY.new,aY.hand]):p:=h x
theorem J32{a p:Prop}(x:a)(h:a->p:=by
 intro zz;intro f hf;have hf3:G.Sq f≠ .F:=(not_congr (hF f)).1 hf
 have:=zz f hf3;clear zz
 have u1:=p2l f hf3;have u2:=so (m.pa f);have p0:=F.iter f hf3;clear p2l tn tn2 tn3 so hx q lq1
 exact xH):p:=h x
theorem J33{a p:Prop}(x:a)(h:a->p:=by
 intro zz;intro f hf;have hf3:G.Sq f≠ .F:=((hF f).1 hf).1
 have:=zz f hf3;clear zz
 have u1:=np1 f hf3;have e:=((hF f).1 hf).2;clear np1 np2 np3 q hn2
 exact uZ):p:=h x
theorem J34{a p:Prop}(x:a)(h:a->p:=by
 intro zz;intro f hf;have hf3:G.Sq f≠ .F:=((hF f).1 hf).1
 have:=zz f hf3;clear zz
 have u1:=np1 f hf3;have e:=((hF f).1 hf).2;have p0:=F.bF f hf3;clear np1 np2 np3 q hn2
 exact uZ):p:=h x
theorem J35{a p:Prop}(x:a)(h:a->p:=by
 intro zz;intro f hf;have hf3:G.Sq f≠ .F:=((hF f).1 hf).1
 have:=zz f hf3;clear zz
 have u2:=np2 f hf3;have e:=((hF f).1 hf).2;clear np1 np2 np3 q hn2
 exact uZ):p:=h x
theorem J36{a p:Prop}(x:a)(h:a->p:=by
 intro zz;intro f hf;have hf3:G.Sq f≠ .F:=((hF f).1 hf).1
 have:=zz f hf3;clear zz
 have u1:=np3 f hf3;have e:=((hF f).1 hf).2;clear np1 np2 np3 q hn2
 exact uZ):p:=h x
theorem J37{a p:Prop}(x:a)(h:a->p:=by
 intro zz;intro f hf;have hf3:G.Sq f≠ .F:=((hF f).1 hf).1
 have:=zz f hf3;clear zz
 have qf:=q f;have bb:=(F.bd f hf3).1
 exact RN):p:=h x
theorem J38{a p:Prop}(x:a)(h:a->p:=by
 intro zz;intro f hf a b;have hf3:G.Sq f≠ .F:=((hF f).1 hf).1;have qf:=q f;have bb:=(F.bd f hf3).1
 have:=zz f hf3 a b;clear zz
 simp only at*
 grind):p:=h x
theorem J39{a p:Prop}(x:a)(h:a->p:=by
 intro zz;intro d a b;have e:d≠i:=by
  rintro rfl
  exact a (Sb _ _ _)
 have a2:G.aU d≠0:=λz=>a ((Sm _ _ e).trans z);obtain⟨x,y,z⟩:=zz d a2 b
 exact⟨(hF d).2 ⟨x,e⟩,y,z.trans (Sm G.aU 0 e).symm⟩):p:=h x
theorem J40{a p:Prop}(x:a)(h:a->p:=by
 intro zz;intro j a;have e:2000+j≠i:=by omega
 have ee:Sd G.aU i 0 (2000+j)=G.aU (2000+j):=Sm _ _ e;dsimp only at a⊢;rw[ee]at a⊢;obtain⟨x,y⟩:=zz j a;refine⟨(hF _).2 ⟨x,λz=>?_⟩,y⟩
 by_cases jj:2000+j<2100
 ·exact iR ci jj z
 ·exact a (F.dP _ U2)):p:=h x
theorem J41{a p:Prop}(x:a)(h:a->p:=by
 intro zz;intro d hd
 have:=zz d hd;clear zz
 unfold Sd;dsimp only
 split
 ·rfl
 ·exact this):p:=h x
theorem J42{a p:Prop}(x:a)(h:a->p:=by
 intro this
 grind[Sd,aY.acts]):p:=h x
theorem J43{a p:Prop}(x:a)(h:a->p:=by
 intro zz;intro f hf;have hf2:=(not_congr (hF f)).1 hf
 by_cases e:f=j
 ·subst e
  exact Jh
 ·have hf3:G.Sq f≠ .F:=λz=>hf2 ⟨z,e⟩
  have:=zz f hf3
  have p1:=pj1 f hf3;have p2:=pj2 f hf3;have p3:=pj3 f hf3;have p4:=F.iter f hf3;have p5:=zz f hf3;clear pj1 pj2 pj3
  exact Jh):p:=h x
theorem J44{a p:Prop}(x:a)(h:a->p:=by
 intro zz;intro f hf;have hf2:=(not_congr (hF f)).1 hf
 by_cases e:f=j
 ·subst e
  exact Jh
 ·have hf3:G.Sq f≠ .F:=λz=>hf2 ⟨z,e⟩
  have:=zz f hf3
  have p1:=pj1 f hf3;have p2:=pj2 f hf3;have p3:=pj3 f hf3;have p4:=zz f hf3;have p5:=F.bF f hf3;clear pj1 pj2 pj3
  exact Jh):p:=h x
theorem J45{a p:Prop}(x:a)(h:a->p:=by
 intro zz;intro f b h1 h2 h3 h4
 by_cases e:f=j
 ·exfalso
  apply h4
  show blank m.W j (.f f (5+4*b))=0;rw[iy,if_pos e,if_neg U2]
 ·have e2:blank m.W j (.f f (5+4*b))=m.dn f b:=by rw[iy,if_neg e]
  simp only[Vw.dn]at h4⊢;rw[e2]at h4⊢
  exact(zz f b h1 h2 h3 h4).mono (λ_ _ z=>z) (by first|exact Int.le_refl _|(show m.ae<=m.ae+1;omega))):p:=h x
theorem J46{a p:Prop}(x:a)(h:a->p:=by
 intro zz;intro f hf;have hf3:G.Sq f≠ .F:=hf
 have:=zz f hf3;clear zz
 have p0:=F.bF f hf3
 exact uZ):p:=h x
theorem J47{a p:Prop}(x:a)(h:a->p:=by
 intro zz;intro f hf;have hf3:G.Sq f≠ .F:=(not_congr (hF f)).1 hf
 have:=zz f hf3;clear zz
 have p0:=F.bF f hf3
 exact uZ):p:=h x
theorem J48{a p:Prop}(x:a)(h:a->p:=by
 intro this;have bd:=F.bd
 grind[Sd,aY.acts]):p:=h x
theorem J49{a p:Prop}(x:a)(h:a->p:=by
 intro this;have bd:=F.bd
 grind):p:=h x
theorem J50{a p:Prop}(x:a)(h:a->p:=by
 intro zz;intro f hf;have hf3:G.Sq f≠ .F:=hf
 have:=zz f hf3;clear zz
 have p0:=F.bF f hf3
 exact xH):p:=h x
theorem J51{a p:Prop}(x:a)(h:a->p:=by
 intro zz;intro f b h1 h2 h3 h4
 exact(zz f b h1 h2 h3 h4).mono (λs it h=>(fq s it).2 h) (Int.le_refl _)):p:=h x
theorem J52{a p:Prop}(x:a)(h:a->p:=by
 intro zz;intro f hf;have hf3:G.Sq f≠ .F:=hf
 have:=zz f hf3;clear zz
 have p0:=F.bF f hf3
 exact PI):p:=h x
theorem J53{a p:Prop}(x:a)(h:a->p:=by
 intro zz;intro f hf;have hf3:G.Sq f≠ .F:=(not_congr (hF f)).1 hf
 have:=zz f hf3;clear zz
 clear p2l tn tn2 tn3 so hx q lq1
 exact xH):p:=h x
theorem J54{a p:Prop}(x:a)(h:a->p:=by
 intro this;have q:=λf=>eU G.aU j i f U2
 grind[Sd,aY.acts]):p:=h x
theorem J55{a p:Prop}(x:a)(h:a->p:=by
 intro this;have q:=λf=>eU G.aU j i f U2
 grind):p:=h x
theorem J56{a p:Prop}(x:a)(h:a->p:=by
 intro this;obtain⟨w1,w2⟩:=F.dK k U2;rw[h1]at w1;have j:=F.jn p w1;have c1:=fG (o:=G.aU) (d:=2000+k) (f:=p) U2 h1
 grind[Sd,aY.acts]):p:=h x
theorem J57{a p:Prop}(x:a)(h:a->p:=by
 intro this;have q:=F.sr;simp only[Vw.kd,Vw.pa,Vw.jn,Vw.cn,Vw.dn,Vw.np,Vw.stt,e_kind,e_parent,e_dirty,e_due,e_index,e_stage,e_started,e_serial,iy]at*
 grind):p:=h x
theorem J58{a p:Prop}(x:a)(h:a->p:=by
 intro this;have s:=F.au;simp only[Vw.kd,Vw.pa,Vw.jn,Vw.cn,Vw.dn,Vw.np,Vw.stt,e_kind,e_parent,e_dirty,e_due,e_index,e_stage,e_started,e_serial,iy]at*
 grind):p:=h x
theorem J59{a p:Prop}(x:a)(h:a->p:=by
 intro this;show 0<=m.ae+1/\m.ae+1<=_
 omega):p:=h x
theorem J60{a p:Prop}(x:a)(h:a->p:=by
 intro this;intro e he
 have:=this e he
 show _<=m.ae+1
 omega):p:=h x
theorem J61{a p:Prop}(x:a)(h:a->p:=by
 intro zz;intro f hf;have hf2:=(not_congr (hF f)).1 hf
 by_cases e:f=j
 ·subst e
  exact Jh
 ·have hf3:G.Sq f≠ .F:=λz=>hf2 ⟨z,e⟩
  have:=zz f hf3;clear zz
  have c2:=F.c2 f hf3;have p1:=pj1 f hf3;have p2:=pj2 f hf3;have p3:=pj3 f hf3;have p4:=F.iter f hf3;have p5:=F.bF f hf3;clear pj1 pj2 pj3
  exact Jh):p:=h x
theorem J62{a p:Prop}(x:a)(h:a->p:=by
 intro zz;intro f hf;have hf3:G.Sq f≠ .F:=(not_congr (hF f)).1 hf
 have:=zz f hf3;clear zz
 have p0:=F.bF f hf3
 exact PI):p:=h x
theorem J63{a p:Prop}(x:a)(h:a->p:=by
 intro zz;intro f hf;have hf3:G.Sq f≠ .F:=(not_congr (hF f)).1 hf
 have:=zz f hf3;clear zz
 have u1:=tn f hf3;have u2:=tn3 f hf3;have p0:=F.bF f hf3;clear p2l tn tn2 tn3 so hx q lq1
 exact xH):p:=h x
theorem J64{a p:Prop}(x:a)(h:a->p:=by
 intro zz;intro f hf hk hp;have hf3:G.Sq f≠ .F:=(not_congr (hF f)).1 hf;have hfc:f≠c:=by
  rintro rfl;have e:=Sb G.ph f 1
  exact absurd (e.symm.trans hp) U0
 have hp':G.ph f=0:=(Sm G.ph 1 hfc).symm.trans hp;have p4:=F.iter f hf3 hk;have hpl:m.pa f≠l:=λz=>by have:=p2l f hf3 hk z hfc;omega
 have hpc:m.pa f≠c:=λz=>by have:=p4.2;rw[z,c2]at this;cases this
 have hfl:f≠l:=λz=>by have:=l3;rw[<-z,hk]at this;cases this
 have e1:(Sd (Sd G.Sq c (.W k 0)) l (.I c)) f=G.Sq f:=(Sm _ _ hfl).trans (Sm _ _ hfc);have e2:(Sd (Sd G.Sq c (.W k 0)) l (.I c)) (m.pa f)=G.Sq (m.pa f):=(Sm _ _ hpl).trans (Sm _ _ hpc);obtain⟨q1,q2,q3,q4,q5,q6⟩:=zz f hf3 hk hp';refine⟨λz=>q1 ((congrArg aY.new e1).symm.trans z),(congrArg aY.hand e2).trans (q2.trans (congrArg aY.new e1).symm),q3,q4,q5,?_⟩
 exact((lq _).trans (if_neg (so _ p4.1 p4.2 hpl))).trans q6):p:=h x
theorem J65{a p:Prop}(x:a)(h:a->p:=by
 intro zz;intro f hf;have hf3:G.Sq f≠ .F:=(not_congr (hF f)).1 hf
 have:=zz f hf3;clear zz
 have u1:=tn2 f hf3;clear p2l tn tn2 tn3 so hx q lq1
 exact xH):p:=h x
theorem J66{a p:Prop}(x:a)(h:a->p:=by
 intro zz;intro f b h1 h2 h3 h4;have e:Sd m.W (.f l 0) (m.jn l+1) (.f f (5+4*b))=m.dn f b:=by rw[fF,if_neg U2]
 simp only[Vw.dn]at h4⊢;rw[e]at h4⊢
 exact(zz f b h1 h2 h3 h4).mono (λs it h=>(fq s it).2 h) (Int.le_refl _)):p:=h x
theorem J67{a p:Prop}(x:a)(h:a->p:=by
 intro zz;intro f b h1 h2 h3 h4;have e:Sd m.W (.f l (2+4*((m.fr i).index%2))) 1048576 (.f f (5+4*b))=m.dn f b:=by rw[fF,if_neg U2]
 simp only[Vw.dn]at h4⊢;rw[e]at h4⊢
 exact(zz f b h1 h2 h3 h4).mono (λs it h=>(fq s it).2 (Or.inl h)) (Int.le_refl _)):p:=h x
theorem J68{a p:Prop}(x:a)(h:a->p:=by
 intro zz;intro f b h1 h2 h3 h4
 by_cases e:f=l/\5+4*b=5+4*((m.fr i).index%2)
 ·have e2:Sd m.W (.f l (5+4*((m.fr i).index%2))) (aA (m.fr l).ae (m.fr i).index 0) (.f f (5+4*b))=aA (m.fr l).ae (m.fr i).index 0:=by rw[fF,if_pos e]
  simp only[Vw.dn]at h4⊢;rw[e2]
  exact⟨_,_,sr.1,sr.2,by omega,by omega,rfl,a2⟩
 ·have e2:Sd m.W (.f l (5+4*((m.fr i).index%2))) (aA (m.fr l).ae (m.fr i).index 0) (.f f (5+4*b))=m.dn f b:=by rw[fF,if_neg e]
  simp only[Vw.dn]at h4⊢;rw[e2]at h4⊢
  exact zz f b h1 h2 h3 h4):p:=h x
theorem J69{a p:Prop}(x:a)(h:a->p:=by
 intro zz;intro f hf;have hf3:G.Sq f≠ .F:=((hF f).1 hf).1
 have:=zz f hf3;clear zz
 have u1:=np1 f hf3;have e:=((hF f).1 hf).2;have b1:=(F.bd f hf3).2.2;clear np1 np2 np3 q q2 hn2
 exact uZ):p:=h x
theorem J70{a p:Prop}(x:a)(h:a->p:=by
 intro zz;intro f hf;have hf3:G.Sq f≠ .F:=((hF f).1 hf).1
 have:=zz f hf3;clear zz
 have u1:=np1 f hf3;have e:=((hF f).1 hf).2;have p0:=F.bF f hf3;have b1:=(F.bd f hf3).2.2;clear np1 np2 np3 q q2 hn2
 exact uZ):p:=h x
theorem J71{a p:Prop}(x:a)(h:a->p:=by
 intro zz;intro f hf;have hf3:G.Sq f≠ .F:=((hF f).1 hf).1
 have:=zz f hf3;clear zz
 have u2:=np2 f hf3;have e:=((hF f).1 hf).2;have b1:=(F.bd f hf3).2.2;clear np1 np2 np3 q q2 hn2
 exact uZ):p:=h x
theorem J72{a p:Prop}(x:a)(h:a->p:=by
 intro zz;intro f hf;have hf3:G.Sq f≠ .F:=((hF f).1 hf).1
 have:=zz f hf3;clear zz
 have u1:=np3 f hf3;have e:=((hF f).1 hf).2;have b1:=(F.bd f hf3).2.2;clear np1 np2 np3 q q2 hn2
 exact uZ):p:=h x
theorem J73{a p:Prop}(x:a)(h:a->p:=by
 intro zz;intro f hf;have hf3:G.Sq f≠ .F:=((hF f).1 hf).1
 have:=zz f hf3;clear zz
 have qf:=q f;have qg:=q2 f;have bb:=(F.bd f hf3).1;simp only at*
 grind[Sd,aY.acts]):p:=h x
theorem J74{a p:Prop}(x:a)(h:a->p:=by
 intro zz;intro f hf a b;have hf3:G.Sq f≠ .F:=((hF f).1 hf).1;have qf:=q f;have qg:=q2 f;have bb:=(F.bd f hf3).1
 have:=zz f hf3 a b;clear zz
 simp only at*
 grind):p:=h x
theorem J75{a p:Prop}(x:a)(h:a->p:=by
 intro zz;intro d a b;have ee:Sd (Sd G.aU i 0) (2000+k) (m.pa i) d=Sd G.aU i 0 d:=Sm _ _ U2;dsimp only at a⊢;rw[ee]at a⊢;have e:d≠i:=by
  rintro rfl
  exact a (Sb _ _ _)
 have a2:G.aU d≠0:=λz=>a ((Sm _ _ e).trans z);obtain⟨x,y,z⟩:=zz d a2 b
 exact⟨(hF d).2 ⟨x,e⟩,y,z.trans (Sm G.aU 0 e).symm⟩):p:=h x
theorem J76{a p:Prop}(x:a)(h:a->p:=by
 intro zz;intro j a;dsimp only at a⊢
 by_cases jk:j=k
 ·subst jk
  rw[Sb]
  exact⟨(hF _).2 ⟨t1,t3⟩,t2⟩
 ·have ee:Sd (Sd G.aU i 0) (2000+k) (m.pa i) (2000+j)=G.aU (2000+j):=(Sm _ _ U2).trans (Sm _ _ U2)
  rw[ee]at a⊢;obtain⟨x,y⟩:=zz j a;refine⟨(hF _).2 ⟨x,λz=>?_⟩,y⟩
  by_cases jj:2000+j<2100
  ·exact iR ci jj z
  ·exact a (F.dP _ U2)):p:=h x
theorem J77{a p:Prop}(x:a)(h:a->p:=by
 intro zz;intro d hd
 have:=zz d hd;clear zz
 exact(Sm _ _ U2).trans ((Sm _ _ U2).trans this)):p:=h x
theorem J78{a p:Prop}(x:a)(h:a->p:=by
 intro zz;intro f j a;have hf3:G.Sq f≠ .F:=((hF f).1 U99).1;have e:f≠i:=((hF f).1 U99).2;have b1:=(F.bd f hf3).2.2
 have:=zz f j ((Sm _ _ e).symm.trans a);clear zz
 exact(Sm (Sd G.aU i 0) _ U2).trans ((Sm G.aU 0 e).trans this)):p:=h x
theorem J79{a p:Prop}(x:a)(h:a->p:=by
 intro zz;intro f;have a:=zz f;have b:=hF f;show Sd m.Sj l false f=true↔_
 by_cases e:f=l
 ·exact U150
 ·rw[Sm _ _ e,a];exact⟨λz=>b.2 ⟨z,e⟩,λz=>(b.1 z).1⟩):p:=h x
theorem J80{a p:Prop}(x:a)(h:a->p:=by
 intro zz;intro f hf;have hf3:G.Sq f≠ .F:=((hF f).1 hf).1
 have:=zz f hf3;clear zz
 have u1:=np1 f hf3;have e:=((hF f).1 hf).2;have u3:=F.dC f;clear np1 np2 np3 np4 np5
 exact xH):p:=h x
theorem J81{a p:Prop}(x:a)(h:a->p:=by
 intro zz;intro f hf;have hf3:G.Sq f≠ .F:=((hF f).1 hf).1
 have:=zz f hf3;clear zz
 have u1:=np1 f hf3;have e:=((hF f).1 hf).2;have u3:=F.dC f;have p0:=F.bF f hf3;clear np1 np2 np3 np4 np5
 exact xH):p:=h x
theorem J82{a p:Prop}(x:a)(h:a->p:=by
 intro zz;intro f hf;have hf3:G.Sq f≠ .F:=((hF f).1 hf).1
 have:=zz f hf3;clear zz
 have u2:=np2 f hf3;have u3:=np5 f hf3;have e:=((hF f).1 hf).2;clear np1 np2 np3 np4 np5
 exact xH):p:=h x
theorem J83{a p:Prop}(x:a)(h:a->p:=by
 intro zz;intro f hf;have hf3:G.Sq f≠ .F:=((hF f).1 hf).1
 have:=zz f hf3;clear zz
 have u1:=np3 f hf3;have u2:=np4 f hf3;have e:=((hF f).1 hf).2;clear np1 np2 np3 np4 np5
 exact xH):p:=h x
theorem J84{a p:Prop}(x:a)(h:a->p:=by
 intro zz;intro d a b;obtain⟨x,y,z⟩:=zz d a b
 exact⟨(hF d).2 ⟨x,λe=>y (e▸h2)⟩,y,z⟩):p:=h x
theorem J85{a p:Prop}(x:a)(h:a->p:=by
 intro zz;intro j a;obtain⟨x,y⟩:=zz j a
 exact⟨(hF _).2 ⟨x,λe=>y (e▸h2)⟩,y⟩):p:=h x
theorem Us68 {p:Prop} (h:p:=by
 rw[e]at hj
 by_cases r2:r=2
 ·subst r2;have:=z j e;omega
 ·simp[aY.acts,r2]at hj;omega):p:=h
theorem bP.spawn{G:Gh}{m:Vw}{tm:Int}(F:bP G m tm)(k i j:Nat)(h1:G.Sq i=.W k 0)(h2:G.Sq j=.W k 3)(h3:m.kd j=1)(h4:m.pa j=i)(h5:(m.fr i).az=true)(h6:m.kd i≠3):
  bP {G with Sq:=Sd G.Sq j (.W k 1),aU:=Sd G.aU j i} (m.put i 0 (m.jn i+1)) (tm+1):=by
 unfold Vw.put;have ij:i≠j:=by rintro rfl;rw[h1]at h2;cases h2
 have hF:∀f,Sd G.Sq j (.W k 1) f=.F↔G.Sq f=.F:=λf=>by unfold Sd;split<;>simp_all
 obtain⟨b1,b2,b3⟩:=F.bd j (by rw[h2];exact λz=>by cases z);have hs:=F.dC j k h2;refine⟨J1 F.hld,J1 F.bd,J1 F.kind,J1 F.due,J1 F.bF,J29 F.kC,J1 F.iter,J12 F.ix,J12 F.jD,J12 F.iO,J12 F.jq,J12 F.st0,J1 F.loop,J1 F.au,J1 F.jG,J1 F.dO,J1 F.dU,J1 F.dV,J1 F.c1,J1 F.c2,J1 F.dn,J54 F.jn,J1 F.jz,J55 F.dG,J1 F.one,?ko,J1 F.stt,J1 F.dJ,J1 F.dK,J1 F.dP,J1 F.dC,F.lg,J13 F.sr,F.seen,J14 F.few⟩
 ·exact U125
theorem bP.lU{G:Gh}{m:Vw}{tm:Int}(F:bP G m tm)(k i:Nat)(h1:G.Sq i=.W k 0)(hn:∀g,G.Sq g≠ .W k 3):
  bP {G with Sq:=Sd G.Sq i .S} (m.put i 0 (m.jn i-1)) (tm+1):=by
 have hn2:∀g,(G.Sq g).new≠k+1:=λg z=>hn g (aY.fA z);unfold Vw.put;have hF:∀f,Sd G.Sq i .S f=.F↔G.Sq f=.F:=λf=>by unfold Sd;split<;>simp_all
 refine⟨J1 F.hld,J1 F.bd,J1 F.kind,J1 F.due,J1 F.bF,J29 F.kC,J1 F.iter,J12 F.ix,J12 F.jD,J12 F.iO,J12 F.jq,J12 F.st0,J1 F.loop,J1 F.au,J1 F.jG,J1 F.dO,J1 F.dU,J1 F.dV,J1 F.c1,J1 F.c2,J1 F.dn,J42 F.jn,J1 F.jz,J1 F.dG,J1 F.one,?ko,J1 F.stt,J1 F.dJ,J1 F.dK,J1 F.dP,J1 F.dC,F.lg,J13 F.sr,F.seen,J14 F.few⟩
 ·exact U125
theorem bP.qG{G:Gh}{m:Vw}{tm:Int}(F:bP G m tm)(k i:Nat)(h1:G.Sq i=.W k 0)(hn:∀g,G.Sq g≠ .W k 3)(hl:m.jn i=1):
  bP {G with Sq:=Sd G.Sq i (.W k 2)} (m.put i 0 (m.jn i-1)) (tm+1):=by
 have hn2:∀g,(G.Sq g).new≠k+1:=λg z=>hn g (aY.fA z);unfold Vw.put;have hF:∀f,Sd G.Sq i (.W k 2) f=.F↔G.Sq f=.F:=λf=>by unfold Sd;split<;>simp_all
 refine⟨J1 F.hld,J1 F.bd,J1 F.kind,J1 F.due,J1 F.bF,J29 F.kC,J1 F.iter,J12 F.ix,J12 F.jD,J12 F.iO,J12 F.jq,J12 F.st0,J1 F.loop,J1 F.au,J1 F.jG,J1 F.dO,J1 F.dU,J1 F.dV,J1 F.c1,J1 F.c2,J1 F.dn,J42 F.jn,J1 F.jz,J1 F.dG,J1 F.one,?ko,J1 F.stt,J1 F.dJ,J1 F.dK,J1 F.dP,J1 F.dC,F.lg,J13 F.sr,F.seen,J14 F.few⟩
 ·exact U125
theorem bP.again{G:Gh}{m:Vw}{tm:Int}(F:bP G m tm)(k i:Nat)(h1:G.Sq i=.W k 2)(h2:m.kd i≠3):
  bP {G with Sq:=Sd G.Sq i (.W k 0)} {m.put i 0 1 with fr:=Sd m.fr i {m.fr i with az:=false}} (tm+1):=by
 unfold Vw.put;have hF:∀f,Sd G.Sq i (.W k 0) f=.F↔G.Sq f=.F:=λf=>by unfold Sd;split<;>simp_all
 have hz:=F.jz i k h1;have hj:=F.jn i (by rw[h1];exact λz=>by cases z);have ht:=F.few;have hc:cnt G.aU i=0:=by rw[h1]at hj;simp[aY.acts]at hj;omega
 refine⟨J1 F.hld,J1 F.bd,J1 F.kind,J1 F.due,J1 F.bF,J29 F.kC,J1 F.iter,J12 F.ix,J12 F.jD,J12 F.iO,J12 F.jq,J12 F.st0,J1 F.loop,J1 F.au,J1 F.jG,J1 F.dO,J1 F.dU,J1 F.dV,J1 F.c1,J1 F.c2,J1 F.dn,J42 F.jn,J1 F.jz,J1 F.dG,J1 F.one,?ko,J1 F.stt,J1 F.dJ,J1 F.dK,J1 F.dP,J1 F.dC,F.lg,J13 F.sr,F.seen,J14 F.few⟩
 ·exact U125
theorem bP.OP{G:Gh}{m:Vw}{tm:Int}(F:bP G m tm)(k p:Nat)(hk:k<100)(h1:G.aU (2000+k)=p)(h2:1<=p):
  bP {G with aU:=Sd G.aU (2000+k) 0} (m.put p 0 (m.jn p-1)) (tm+1):=by
 unfold Vw.put;have q:=λf=>eU G.aU (2000+k) 0 f U2;refine⟨J1 F.hld,J1 F.bd,J1 F.kind,J1 F.due,J1 F.bF,J30 F.kC,J1 F.iter,J12 F.ix,J12 F.jD,J31 F.iO,J31 F.jq,J12 F.st0,J1 F.loop,J1 F.au,J1 F.jG,J1 F.dO,J1 F.dU,J1 F.dV,J1 F.c1,J1 F.c2,J1 F.dn,J48 F.jn,J56 F.jz,J49 F.dG,J1 F.one,?ko,J1 F.stt,J1 F.dJ,J1 F.dK,J1 F.dP,J30 F.dC,F.lg,J13 F.sr,F.seen,J14 F.few⟩
 ·exact U125
theorem bP.OJ{G:Gh}{m:Vw}{tm:Int}(F:bP G m tm)(k p:Nat)(hk:k<100)(h1:G.aU (2000+k)=p)(h2:1<=p)(hl:m.jn p=1):
  bP {G with Sq:=Sd G.Sq p (.W k 2),aU:=Sd G.aU (2000+k) 0} (m.put p 0 (m.jn p-1)) (tm+1):=by
 unfold Vw.put;have q:=λf=>eU G.aU (2000+k) 0 f U2;obtain⟨w1,w2⟩:=F.dK k U2;rw[h1]at w1 w2;have hS:G.Sq p=.S:=by
  have hj:=F.jn p w1;have c1:=fG (o:=G.aU) (d:=2000+k) (f:=p) U2 h1;have z:=F.jz p
  cases e:G.Sq p with
  |S=>rfl
  |F=>exact absurd e w1
  |W j r=>
   exact Us68
  |_=>rw[e]at hj;simp[aY.acts]at hj;omega
 have hF:∀f,Sd G.Sq p (.W k 2) f=.F↔G.Sq f=.F:=λf=>by unfold Sd;split<;>simp_all
 refine⟨J1 F.hld,J1 F.bd,J1 F.kind,J1 F.due,J1 F.bF,J30 F.kC,J1 F.iter,J12 F.ix,J12 F.jD,J31 F.iO,J31 F.jq,J12 F.st0,J1 F.loop,J1 F.au,J1 F.jG,J1 F.dO,J1 F.dU,J1 F.dV,J1 F.c1,J1 F.c2,J1 F.dn,J48 F.jn,J1 F.jz,J49 F.dG,J1 F.one,?ko,J1 F.stt,J1 F.dJ,J1 F.dK,J1 F.dP,J30 F.dC,F.lg,J13 F.sr,F.seen,J14 F.few⟩
 ·exact U125
theorem Us105 {p:Prop} (h:p:=by
 have:G.ph f≠1:=λz=>by
  have:=congrArg Prod.snd (q1 z).2.2.2
  simp at this
 omega):p:=h
theorem Us75 {p:Prop} (h:p:=by
 have:=F.dJ j
 by_cases q:G.aU j=0
 ·exact q
 ·exact absurd hj (this q U2).1):p:=h
def Vw.made(m:Vw)(j:Nat)(x:Fv):Vw:={m with W:=blank m.W j,fr:=Sd m.fr j x,Sj:=Sd m.Sj j true}
theorem iy(W:Ad->Int)(j i b:Nat):blank W j (.f i b)=if i=j then(if b=0 then 1 else 0)else W (.f i b):=rfl
theorem bP.fork{G:Gh}{m:Vw}{tm:Int}(F:bP G m tm)(k i j:Nat)(h1:G.Sq i=.W k 0)(hj:G.Sq j=.F)(b1:1<=j)(b2:j<=m.pl.fr.toNat)(b3:j<=256)(h2:m.kd i≠3)(h3:m.kd i=2->G.ph i=1):
  bP {G with Sq:=Sd G.Sq j (.W k 3)} {m.made j ⟨1,i,false,false,0,0,0,0⟩with fr:=Sd (m.made j ⟨1,i,false,false,0,0,0,0⟩).fr i {m.fr i with az:=true}} (tm+1):=by
 unfold Vw.made;have j1:j≠0:=by omega
 have ht:=F.few;have ij:i≠j:=by rintro rfl;rw[h1]at hj;cases hj
 have hF:∀f,Sd G.Sq j (.W k 3) f=.F↔(G.Sq f=.F/\f≠j):=λf=>by unfold Sd;by_cases e:f=j<;>by_cases e2:f=i<;>simp_all
 have cj:cnt G.aU j=0:=F.qd hj U2;have oj:G.aU j=0:=by
  exact Us75
 have pj1:∀f,G.Sq f≠ .F->m.kd f=1->m.pa f≠j:=λf a b c=>(F.bF f a b (by rw[c];omega)).1 U77;have pj2:∀f,G.Sq f≠ .F->m.kd f=2->m.pa f≠j:=λf a b c=>(F.iter f a b).1 U77;have pj3:∀f,G.Sq f≠ .F->m.kd f=3->m.pa f≠j:=λf a b c=>by have:=(F.loop f a b).1;rw[c,hj]at this;cases this
 have e_kind:∀f,((Sd (Sd m.fr j ⟨1,i,false,false,0,0,0,0⟩) i {m.fr i with az:=true}) f).kind=if f=j then 1 else(m.fr f).kind:=λf=>by unfold Sd;by_cases e:f=j<;>by_cases e2:f=i<;>simp_all
 have e_parent:∀f,((Sd (Sd m.fr j ⟨1,i,false,false,0,0,0,0⟩) i {m.fr i with az:=true}) f).Sg=if f=j then i else(m.fr f).Sg:=λf=>by unfold Sd;by_cases e:f=j<;>by_cases e2:f=i<;>simp_all
 have e_dirty:∀f,((Sd (Sd m.fr j ⟨1,i,false,false,0,0,0,0⟩) i {m.fr i with az:=true}) f).az=if f=j then false else if f=i then true else(m.fr f).az:=λf=>by unfold Sd;by_cases e:f=j<;>by_cases e2:f=i<;>simp_all
 have e_due:∀f,((Sd (Sd m.fr j ⟨1,i,false,false,0,0,0,0⟩) i {m.fr i with az:=true}) f).due=if f=j then false else(m.fr f).due:=λf=>by unfold Sd;by_cases e:f=j<;>by_cases e2:f=i<;>simp_all
 have e_index:∀f,((Sd (Sd m.fr j ⟨1,i,false,false,0,0,0,0⟩) i {m.fr i with az:=true}) f).index=if f=j then 0 else(m.fr f).index:=λf=>by unfold Sd;by_cases e:f=j<;>by_cases e2:f=i<;>simp_all
 have e_stage:∀f,((Sd (Sd m.fr j ⟨1,i,false,false,0,0,0,0⟩) i {m.fr i with az:=true}) f).Sc=if f=j then 0 else(m.fr f).Sc:=λf=>by unfold Sd;by_cases e:f=j<;>by_cases e2:f=i<;>simp_all
 have e_started:∀f,((Sd (Sd m.fr j ⟨1,i,false,false,0,0,0,0⟩) i {m.fr i with az:=true}) f).R9=if f=j then 0 else(m.fr f).R9:=λf=>by unfold Sd;by_cases e:f=j<;>by_cases e2:f=i<;>simp_all
 have e_serial:∀f,((Sd (Sd m.fr j ⟨1,i,false,false,0,0,0,0⟩) i {m.fr i with az:=true}) f).ae=if f=j then 0 else(m.fr f).ae:=λf=>by unfold Sd;by_cases e:f=j<;>by_cases e2:f=i<;>simp_all
 generalize(Sd (Sd m.fr j ⟨1,i,false,false,0,0,0,0⟩) i {m.fr i with az:=true})=fr at*
 exact⟨J3 F.hld,J3 F.bd,J3 F.kind,J3 F.due,J43 F.bF,J7 F.kC,J44 F.iter,J7 F.ix,J7 F.jD,J7 F.iO,J7 F.jq,J7 F.st0,J7 F.loop,J3 F.au,J3 F.jG,J7 F.dO,J7 F.dU,J7 F.dV,J7 F.c1,J7 F.c2,J45 F.dn,J3 F.jn,J3 F.jz,J3 F.dG,J3 F.one,J3 F.ko,J3 F.stt,J3 F.dJ,J3 F.dK,J3 F.dP,J3 F.dC,F.lg,J13 F.sr,F.seen,J14 F.few⟩
theorem bP.pipe{G:Gh}{m:Vw}{tm:Int}(F:bP G m tm)(k i j:Nat)(h1:G.Sq i=.W k 0)(hj:G.Sq j=.F)(b1:1<=j)(b2:j<=m.pl.fr.toNat)(b3:j<=256)(hn:∀g,G.Sq g≠ .W k 3)(h2:m.kd i≠3)(h3:m.kd i=2->G.ph i=1):
  bP {G with Sq:=Sd (Sd G.Sq j (.W k 0)) i (.P j)} {m.made j ⟨3,i,false,false,0,0,0,m.ae+1⟩with ae:=m.ae+1} (tm+1):=by
 have hn2:∀g,(G.Sq g).new≠k+1:=λg z=>hn g (aY.fA z);unfold Vw.made;have j1:j≠0:=by omega
 have ht:=F.few;have ij:i≠j:=by rintro rfl;rw[h1]at hj;cases hj
 have hF:∀f,Sd (Sd G.Sq j (.W k 0)) i (.P j) f=.F↔(G.Sq f=.F/\f≠j):=λf=>by unfold Sd;by_cases e:f=j<;>by_cases e2:f=i<;>simp_all
 have cj:cnt G.aU j=0:=F.qd hj U2;have oj:G.aU j=0:=by
  exact Us75
 have pj1:∀f,G.Sq f≠ .F->m.kd f=1->m.pa f≠j:=λf a b c=>(F.bF f a b (by rw[c];omega)).1 U77;have pj2:∀f,G.Sq f≠ .F->m.kd f=2->m.pa f≠j:=λf a b c=>(F.iter f a b).1 U77;have pj3:∀f,G.Sq f≠ .F->m.kd f=3->m.pa f≠j:=λf a b c=>by have:=(F.loop f a b).1;rw[c,hj]at this;cases this
 have ls:eQ m.log (m.ae+1)=(0,false):=FU (λe he z=>by have:=F.seen e he;omega);have e_kind:∀f,((Sd m.fr j ⟨3,i,false,false,0,0,0,m.ae+1⟩) f).kind=if f=j then 3 else(m.fr f).kind:=λf=>by unfold Sd;by_cases e:f=j<;>by_cases e2:f=i<;>simp_all
 have e_parent:∀f,((Sd m.fr j ⟨3,i,false,false,0,0,0,m.ae+1⟩) f).Sg=if f=j then i else(m.fr f).Sg:=λf=>by unfold Sd;by_cases e:f=j<;>by_cases e2:f=i<;>simp_all
 have e_dirty:∀f,((Sd m.fr j ⟨3,i,false,false,0,0,0,m.ae+1⟩) f).az=if f=j then false else(m.fr f).az:=λf=>by unfold Sd;by_cases e:f=j<;>by_cases e2:f=i<;>simp_all
 have e_due:∀f,((Sd m.fr j ⟨3,i,false,false,0,0,0,m.ae+1⟩) f).due=if f=j then false else(m.fr f).due:=λf=>by unfold Sd;by_cases e:f=j<;>by_cases e2:f=i<;>simp_all
 have e_index:∀f,((Sd m.fr j ⟨3,i,false,false,0,0,0,m.ae+1⟩) f).index=if f=j then 0 else(m.fr f).index:=λf=>by unfold Sd;by_cases e:f=j<;>by_cases e2:f=i<;>simp_all
 have e_stage:∀f,((Sd m.fr j ⟨3,i,false,false,0,0,0,m.ae+1⟩) f).Sc=if f=j then 0 else(m.fr f).Sc:=λf=>by unfold Sd;by_cases e:f=j<;>by_cases e2:f=i<;>simp_all
 have e_started:∀f,((Sd m.fr j ⟨3,i,false,false,0,0,0,m.ae+1⟩) f).R9=if f=j then 0 else(m.fr f).R9:=λf=>by unfold Sd;by_cases e:f=j<;>by_cases e2:f=i<;>simp_all
 have e_serial:∀f,((Sd m.fr j ⟨3,i,false,false,0,0,0,m.ae+1⟩) f).ae=if f=j then m.ae+1 else(m.fr f).ae:=λf=>by unfold Sd;by_cases e:f=j<;>by_cases e2:f=i<;>simp_all
 generalize(Sd m.fr j ⟨3,i,false,false,0,0,0,m.ae+1⟩)=fr at*
 exact⟨J3 F.hld,J3 F.bd,J3 F.kind,J3 F.due,J43 F.bF,J7 F.kC,J44 F.iter,J7 F.ix,J7 F.jD,J7 F.iO,J7 F.jq,J7 F.st0,J7 F.loop,J57 F.au,J3 F.jG,J7 F.dO,J7 F.dU,J7 F.dV,J7 F.c1,J7 F.c2,J45 F.dn,J3 F.jn,J3 F.jz,J3 F.dG,J58 F.one,J3 F.ko,J3 F.stt,J3 F.dJ,J3 F.dK,J3 F.dP,J3 F.dC,F.lg,J59 F.sr,J60 F.seen,J14 F.few⟩
theorem bP.start{G:Gh}{m:Vw}{tm:Int}(F:bP G m tm)(k i j:Nat)(h1:G.Sq i=.W k 0)(hj:G.Sq j=.F)(b1:1<=j)(b2:j<=m.pl.fr.toNat)(b3:j<=256)(hn:∀g,G.Sq g≠ .W k 3)(h2:m.kd i=3)(h3:(m.fr i).R9=0∨Fin m.log (m.fr i).ae ((m.fr i).R9-1:Nat)):
  bP {G with Sq:=Sd G.Sq j (.W k 3),ph:=Sd G.ph j 0,cur:=Sd G.cur i j} {m.made j ⟨2,i,false,false,(m.fr i).R9,0,0,0⟩with fr:=Sd (m.made j ⟨2,i,false,false,(m.fr i).R9,0,0,0⟩).fr i {m.fr i with R9:=(m.fr i).R9+1}} (tm+1):=by
 have hn2:∀g,(G.Sq g).new≠k+1:=λg z=>hn g (aY.fA z);have iF:G.Sq i≠ .F:=by rw[h1];exact λz=>by cases z
 have ls:eQ m.log (m.fr i).ae=((m.fr i).R9,false):=by
  have a:=F.dO i iF h2;have I:=qI F.lg (m.fr i).ae;have p:=I.pos;have q:=I.not;clear I
  cases hs:eQ m.log (m.fr i).ae with
  |mk n b=>
   rw[hs]at a p q;dsimp only at a p q
   rcases h3 with h3|h3
   ·have:n=0:=by omega
    subst this
    cases b
    ·rw[h3]
    ·have:=p rfl;omega
   ·obtain⟨q0,q1,q2⟩:=q _ h3
    have:n=(m.fr i).R9:=by omega
    subst this
    cases b
    ·rfl
    ·have:=q2 rfl
     omega
 have nf:¬Fin m.log (m.fr i).ae ((m.fr i).R9:Nat):=Fin.Aq F.lg ls;have p2i:∀f,G.Sq f≠ .F->m.kd f=2->m.pa f=i->G.ph f=2:=λf a b c=>by
  have q:=(F.ix f a b).2.2.2.2;have q0:=F.jD f a b;have q1:=F.iO f a b;rw[c]at q0 q1;rw[ls]at q1
  have:G.ph f≠0:=λz=>by
   obtain⟨a1,a2,_⟩:=q0 z;rw[h1]at a2
   exact hn2 f a2.symm
  exact Us105
 unfold Vw.made;have j1:j≠0:=by omega
 have ht:=F.few;have ij:i≠j:=by rintro rfl;rw[h1]at hj;cases hj
 have hF:∀f,Sd G.Sq j (.W k 3) f=.F↔(G.Sq f=.F/\f≠j):=λf=>by unfold Sd;by_cases e:f=j<;>by_cases e2:f=i<;>simp_all
 have cj:cnt G.aU j=0:=F.qd hj U2;have oj:G.aU j=0:=by
  exact Us75
 have pj1:∀f,G.Sq f≠ .F->m.kd f=1->m.pa f≠j:=λf a b c=>(F.bF f a b (by rw[c];omega)).1 U77;have pj2:∀f,G.Sq f≠ .F->m.kd f=2->m.pa f≠j:=λf a b c=>(F.iter f a b).1 U77;have pj3:∀f,G.Sq f≠ .F->m.kd f=3->m.pa f≠j:=λf a b c=>by have:=(F.loop f a b).1;rw[c,hj]at this;cases this
 have e_kind:∀f,((Sd (Sd m.fr j ⟨2,i,false,false,(m.fr i).R9,0,0,0⟩) i {m.fr i with R9:=(m.fr i).R9+1}) f).kind=if f=j then 2 else(m.fr f).kind:=λf=>by unfold Sd;by_cases e:f=j<;>by_cases e2:f=i<;>simp_all
 have e_parent:∀f,((Sd (Sd m.fr j ⟨2,i,false,false,(m.fr i).R9,0,0,0⟩) i {m.fr i with R9:=(m.fr i).R9+1}) f).Sg=if f=j then i else(m.fr f).Sg:=λf=>by unfold Sd;by_cases e:f=j<;>by_cases e2:f=i<;>simp_all
 have e_dirty:∀f,((Sd (Sd m.fr j ⟨2,i,false,false,(m.fr i).R9,0,0,0⟩) i {m.fr i with R9:=(m.fr i).R9+1}) f).az=if f=j then false else(m.fr f).az:=λf=>by unfold Sd;by_cases e:f=j<;>by_cases e2:f=i<;>simp_all
 have e_due:∀f,((Sd (Sd m.fr j ⟨2,i,false,false,(m.fr i).R9,0,0,0⟩) i {m.fr i with R9:=(m.fr i).R9+1}) f).due=if f=j then false else(m.fr f).due:=λf=>by unfold Sd;by_cases e:f=j<;>by_cases e2:f=i<;>simp_all
 have e_index:∀f,((Sd (Sd m.fr j ⟨2,i,false,false,(m.fr i).R9,0,0,0⟩) i {m.fr i with R9:=(m.fr i).R9+1}) f).index=if f=j then(m.fr i).R9 else(m.fr f).index:=λf=>by unfold Sd;by_cases e:f=j<;>by_cases e2:f=i<;>simp_all
 have e_stage:∀f,((Sd (Sd m.fr j ⟨2,i,false,false,(m.fr i).R9,0,0,0⟩) i {m.fr i with R9:=(m.fr i).R9+1}) f).Sc=if f=j then 0 else(m.fr f).Sc:=λf=>by unfold Sd;by_cases e:f=j<;>by_cases e2:f=i<;>simp_all
 have e_started:∀f,((Sd (Sd m.fr j ⟨2,i,false,false,(m.fr i).R9,0,0,0⟩) i {m.fr i with R9:=(m.fr i).R9+1}) f).R9=if f=j then 0 else if f=i then(m.fr i).R9+1 else(m.fr f).R9:=λf=>by unfold Sd;by_cases e:f=j<;>by_cases e2:f=i<;>simp_all
 have e_serial:∀f,((Sd (Sd m.fr j ⟨2,i,false,false,(m.fr i).R9,0,0,0⟩) i {m.fr i with R9:=(m.fr i).R9+1}) f).ae=if f=j then 0 else(m.fr f).ae:=λf=>by unfold Sd;by_cases e:f=j<;>by_cases e2:f=i<;>simp_all
 generalize(Sd (Sd m.fr j ⟨2,i,false,false,(m.fr i).R9,0,0,0⟩) i {m.fr i with R9:=(m.fr i).R9+1})=fr at*
 exact⟨J3 F.hld,J3 F.bd,J3 F.kind,J3 F.due,J43 F.bF,J7 F.kC,J44 F.iter,J7 F.ix,J7 F.jD,J7 F.iO,J7 F.jq,J7 F.st0,J7 F.loop,J3 F.au,J3 F.jG,J7 F.dO,J7 F.dU,J7 F.dV,J61 F.c1,J7 F.c2,J45 F.dn,J3 F.jn,J3 F.jz,J3 F.dG,J3 F.one,J3 F.ko,J3 F.stt,J3 F.dJ,J3 F.dK,J3 F.dP,J3 F.dC,F.lg,J13 F.sr,F.seen,J14 F.few⟩
end Go.Proofs.YteiignfflbmafaaGreat.Tp
