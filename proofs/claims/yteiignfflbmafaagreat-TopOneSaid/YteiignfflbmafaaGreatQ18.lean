/- TopOne, part 18. -/
import Derived.Test.YteiignfflbmafaaGreatQ16
import Derived.Test.YteiignfflbmafaaGreatQ17
set_option linter.unusedVariables false
set_option linter.unusedSimpArgs false
set_option maxRecDepth 100000
set_option maxHeartbeats 8000000
namespace Go.Proofs.YteiignfflbmafaaGreat.Tp
open Go.Proofs.Tryz
open Go.RowKit Go.Proofs.YteiignfflbmafaaGreat.Tok
theorem Us104 {p:Prop} (h:p:=by
 rw[C.jn i h1 h2,C.fN i h1 h2,wrap_small U2 U2]
 exact⟨C.set _ _,C.oM i 0 h1 h2 U0 _⟩):p:=h
theorem Us102 {p:Prop} (h:p:=by
 by_cases q:j<c/\a<=j/\j<a+k
 ·rw[if_pos q,if_pos ⟨by omega,q.2⟩]
 ·rw[if_neg q,if_neg U2]):p:=h
structure bO(m:Co):Prop where
 Sn:m.Sn
 hlen:m.Sj.length=m.pl.fr.toNat+1
 eZ:m.aJ.length=m.pl.fr.toNat+1
 nd:m.back.Nodup
 bk:∀i∈m.back,1<=i/\i<=m.fresh/\m.Sj.getD i false=false
 hd:∀i,m.Sj.getD i false=true->1<=i/\i<=m.fresh
 fs:m.fresh<m.Sj.length
 pk:0<=m.bY
 par:∀i,0<=(m.fr i).Sg
 most:m.most<=1000
theorem bO.NM{m:Co}(C:bO m):m.pl.fr.toNat<=256:=by have:=C.Sn.1;unfold Pl.ok at this;omega
theorem nQ:∀(n:Nat)(l:List Nat),l.Nodup->(∀i∈l,i<n)->l.length<=n
 |0,l,_,h=>by
  cases l with
  |nil=>simp
  |cons a l=>exact absurd (h a U8) U2
 |n+1,l,hd,h=>by
  by_cases e:n∈l
  ·have q:=nQ n (l.erase n) (hd.erase n) (λi hi=>by
    have h1:=List.mem_of_mem_erase hi;have h2:i≠n:=λz=>by subst z;exact(List.Nodup.not_mem_erase hd) hi
    have:=h i h1
    omega)
   rw[List.length_erase_of_mem e]at q
   omega
  ·have:=nQ n l hd (λi hi=>by
    have:=h i hi
    have h2:i≠n:=λz=>by subst z;exact e hi
    omega)
   omega
theorem bO.gG{m:Co}(C:bO m):m.gG:=by
 have b:=C.NM;have h:=C.hlen;have f:=C.fs;refine⟨by omega,f,?_,λi hi=>by have:=(C.bk i hi).2.1;omega,C.pk⟩
 have:=nQ (m.fresh+1) m.back C.nd (λi hi=>by have:=(C.bk i hi).2.1;omega)
 omega
theorem bO.has{m:Co}(C:bO m){i:Nat}(h:m.vw.Sj i=true):m.ok i:=by
 have q:=C.hd i h
 have:=C.fs
 exact⟨by omega,by omega,h⟩
theorem Co.Kc{m:Co}{i:Nat}(h:m.ok i):m.has (i:Int)=true:=decide_eq_true ⟨h,rfl⟩
theorem Co.bJ{m:Co}{i:Nat}{n:Int}(h:m.ok i)(e:n=(i:Int)):m.has n=true:=by subst e;exact Co.Kc h
theorem bO.up{m:Co}(C:bO m)(i:Nat):(m.fr i).Sg=((m.vw.pa i:Nat):Int):=by
 have:=C.par i
 show _=(((m.fr i).Sg.toNat:Nat):Int)
 omega
theorem bO.RY{m m':Co}(C:bO m)(L:List Int)(hl:L.length=m.RY.length)(e:m'={m with RY:=L}):bO m':=by
 subst e
 exact⟨⟨C.Sn.1,C.Sn.2.1,by show(L.length:Int)=_;rw[hl];exact C.Sn.2.2⟩,C.hlen,C.eZ,C.nd,C.bk,C.hd,C.fs,C.pk,C.par,C.most⟩
theorem bO.set{m:Co}(C:bO m)(k:Nat)(v:Int):bO {m with RY:=m.RY.set k v}:=C.RY _ U8 rfl
theorem bO.oM{m:Co}(C:bO m)(i j:Nat)(h1:1<=i)(h2:i<=m.pl.fr.toNat)(hj:j<10)(v:Int):({m with RY:=m.RY.set ((Ad.f i j).ix m.pl) v}:Co).vw={m.vw with W:=Sd m.vw.W (.f i j) v}:=
 Co.zg C.Sn (Ad.Qf i j h1 h2 hj) v rfl rfl rfl rfl rfl rfl
theorem bO.NR{m:Co}(C:bO m)(i j:Nat)(h1:1<=i)(h2:i<=m.pl.fr.toNat)(hj:j<10):m.RY.getD ((Ad.f i j).ix m.pl) 0=m.vw.W (.f i j):=(Co.QY (Ad.Qf i j h1 h2 hj)).symm
theorem bO.fN{m:Co}(C:bO m)(i:Nat)(h1:1<=i)(h2:i<=m.pl.fr.toNat):m.pl.fN i=(Ad.f i 0).ix m.pl:=Qe C.Sn.1 C.Sn.2.1 i h1 h2
theorem bO.jn{m:Co}(C:bO m)(i:Nat)(h1:1<=i)(h2:i<=m.pl.fr.toNat):m.RY.getD (m.pl.fN i) 0=m.vw.jn i:=by rw[C.fN i h1 h2];exact C.NR i 0 h1 h2 U0
theorem bO.leave{m:Co}(C:bO m)(i:Nat)(h1:1<=i)(h2:i<=m.pl.fr.toNat)(hb:0<=m.vw.jn i/\m.vw.jn i<=100000):bO (m.leave i)/\(m.leave i).vw=m.vw.put i 0 (m.vw.jn i-1):=by
 unfold Co.leave
 exact Us104
theorem bO.spawn{m:Co}(C:bO m)(i:Nat)(h1:1<=i)(h2:i<=m.pl.fr.toNat)(hb:0<=m.vw.jn i/\m.vw.jn i<=100000):bO (m.spawn i)/\(m.spawn i).vw=m.vw.put i 0 (m.vw.jn i+1):=by
 unfold Co.spawn
 exact Us104
theorem bO.again{m:Co}(C:bO m)(i:Nat)(h1:1<=i)(h2:i<=m.pl.fr.toNat):bO (m.again i)/\(m.again i).vw=m.vw.put i 0 1:=by
 unfold Co.again;rw[C.fN i h1 h2]
 exact⟨C.set _ _,C.oM i 0 h1 h2 U0 _⟩
theorem bO.last{m:Co}(C:bO m)(i:Nat)(h1:1<=i)(h2:i<=m.pl.fr.toNat):m.last i=true↔m.vw.jn i=1:=by
 unfold Co.last;rw[C.jn i h1 h2,beq_iff_eq]
theorem bO.wN{m:Co}(C:bO m)(i:Nat)(h1:1<=i)(h2:i<=m.pl.fr.toNat)(it o:Nat):m.pl.wN i it o=(Ad.f i (2+4*(it%2)+o)).ix m.pl:=QG C.Sn.1 C.Sn.2.1 i h1 h2 it o
theorem bO.nN{m:Co}(C:bO m)(i:Nat)(h1:1<=i)(h2:i<=m.pl.fr.toNat):m.pl.nN i=(Ad.f i 1).ix m.pl:=Qr C.Sn.1 C.Sn.2.1 i h1 h2
theorem bO.setW{m:Co}(C:bO m)(i:Nat)(h1:1<=i)(h2:i<=m.pl.fr.toNat)(it o:Nat)(ho:o<4)(v:Int):bO {m with RY:=m.RY.set (m.pl.wN i it o) v}/\({m with RY:=m.RY.set (m.pl.wN i it o) v}:Co).vw={m.vw with W:=Sd m.vw.W (.f i (2+4*(it%2)+o)) v}:=by
 rw[C.wN i h1 h2]
 exact⟨C.set _ _,C.oM i _ h1 h2 U2 v⟩
theorem bO.JY{m:Co}(C:bO m)(i:Nat)(h1:1<=i)(h2:i<=m.pl.fr.toNat)(it o:Nat)(ho:o<4):m.RY.getD (m.pl.wN i it o) 0=m.vw.W (.f i (2+4*(it%2)+o)):=by
 rw[C.wN i h1 h2];exact C.NR i _ h1 h2 U2
theorem Co.kw(m:Co)(i:Nat)(f:Fr)(h:i<m.aJ.length)(j:Nat):(m.ak i f).fr j=if j=i then f else m.fr j:=by
 unfold Co.ak Co.fr
 by_cases e:j=i
 ·subst e;simp[List.getD,h]
 ·exact U134
theorem bO.ak{m:Co}(C:bO m)(i:Nat)(h2:i<=m.pl.fr.toNat)(f:Fr)(hp:0<=f.Sg):bO (m.ak i f)/\(m.ak i f).vw={m.vw with fr:=Sd m.vw.fr i f.fv}:=by
 have hl:i<m.aJ.length:=by have:=C.eZ;omega
 refine⟨⟨C.Sn,C.hlen,by show(m.aJ.set i f).length=_;rw[List.length_set];exact C.eZ,C.nd,C.bk,C.hd,C.fs,C.pk,λj=>?_,C.most⟩,?_⟩
 ·rw[Co.kw m i f hl]
  split
  ·exact hp
  ·exact C.par j
 ·have e:(λj=>((m.ak i f).fr j).fv)=Sd (λj=>(m.fr j).fv) i f.fv:=by
   funext j
   rw[Co.kw m i f hl];unfold Sd
   split<;>rfl
  show({pl:=m.pl,W:=m.vw.W,fr:=λj=>((m.ak i f).fr j).fv,Sj:=m.vw.Sj,log:=m.log,ae:=m.ae}:Vw)=_
  rw[e]
  rfl
theorem bO.yX{m:Co}(C:bO m)(i:Nat)(h2:i<=m.pl.fr.toNat)(f:Fr)(hp:f.Sg=(m.fr i).Sg)(hv:f.fv=(m.fr i).fv):bO (m.ak i f)/\(m.ak i f).vw=m.vw:=by
 obtain⟨a,b⟩:=C.ak i h2 f (by rw[hp];exact C.par i);refine⟨a,b.trans ?_⟩
 have:Sd m.vw.fr i f.fv=m.vw.fr:=by
  funext j
  unfold Sd
  split
  ·rename_i e;rw[e,hv];rfl
  ·rfl
 rw[this]
theorem bO.other{m m':Co}(C:bO m)(e1:m'.pl=m.pl)(e2:m'.RY=m.RY)(e3:m'.Sj=m.Sj)(e4:m'.back=m.back)(e5:m'.fresh=m.fresh)(e6:m'.bY=m.bY)(e7:m'.aJ=m.aJ)(e8:m'.most=m.most):bO m':=by
 have f:m'.fr=m.fr:=by unfold Co.fr;rw[e7]
 refine⟨?_,by rw[e1,e3];exact C.hlen,by rw[e1,e7];exact C.eZ,by rw[e4];exact C.nd,by rw[e3,e4,e5];exact C.bk,by rw[e3,e5];exact C.hd,by rw[e3,e5];exact C.fs,by rw[e6];exact C.pk,by rw[f];exact C.par,by rw[e8];exact C.most⟩;unfold Co.Sn;rw[e1,e2]
 exact C.Sn
theorem bO.bM{m:Co}(C:bO m)(i p:Nat)(k:Int):bO (m.bM i p k)/\(m.bM i p k).vw={m.vw with log:=m.log++[⟨k,(m.fr p).ae,(m.fr i).index,(m.fr i).Sc⟩]}:=⟨C.other rfl rfl rfl rfl rfl rfl rfl rfl,rfl⟩
theorem bO.Si{m:Co}(C:bO m)(i:Nat)(h:m.vw.Sj i=true):bO (m.Si i)/\(m.Si i).vw={m.vw with Sj:=Sd m.vw.Sj i false}:=by
 obtain⟨h1,h2⟩:=C.hd i h;have hh:m.Sj.getD i false=true:=h;have hl:=C.fs;have hg:∀j,(m.Sj.set i false).getD j false=if j=i then false else m.Sj.getD j false:=λj=>by
  by_cases e:j=i
  ·subst e;rw[if_pos rfl];simp[List.getD,show j<m.Sj.length by omega]
  ·exact U134
 refine⟨⟨C.Sn,by show(m.Sj.set i false).length=_;rw[List.length_set];exact C.hlen,C.eZ,?_,λj hj=>?_,λj hj=>?_,by show _<(m.Sj.set i false).length;rw[List.length_set];exact hl,C.pk,C.par,C.most⟩,?_⟩
 ·show(m.back++[i]).Nodup
  refine List.nodup_append.2 ⟨C.nd,by simp,λa ha b hb=>?_⟩
  simp at hb
  subst hb;rintro rfl
  have:=(C.bk a ha).2.2
  rw[hh]at this
  cases this
 ·have hj:j∈m.back++[i]:=hj
  show 1<=j/\j<=m.fresh/\(m.Sj.set i false).getD j false=false;rw[hg]
  rcases List.mem_append.1 hj with q|q
  ·obtain⟨a,b,c⟩:=C.bk j q
   refine⟨a,b,?_⟩
   split
   ·rfl
   ·exact c
  ·simp at q
   subst q
   exact⟨h1,h2,if_pos rfl⟩
 ·have hj:(m.Sj.set i false).getD j false=true:=hj
  rw[hg]at hj
  split at hj
  ·cases hj
  ·exact C.hd j hj
 ·show({pl:=m.pl,W:=m.vw.W,fr:=m.vw.fr,Sj:=λj=>(m.Sj.set i false).getD j false,log:=m.log,ae:=m.ae}:Vw)=_
  have e:(λj=>(m.Sj.set i false).getD j false)=Sd m.vw.Sj i false:=by
   funext j
   rw[hg]
   rfl
  rw[e]
  rfl
theorem bO.pick{m:Co}(C:bO m){j:Nat}{B:List Nat}{f:Nat}(h:m.pick=some (j,B,f)):1<=j/\j<=m.pl.fr.toNat/\m.vw.Sj j=false/\B.Nodup/\(∀i∈B,i∈m.back/\i≠j)/\m.fresh<=f/\j<=f/\f<m.Sj.length/\(∀i,i<=f->i≠j->i<=m.fresh):=by
 unfold Co.pick at h;have hl:=C.hlen;have fs:=C.fs
 split at h
 ·rename_i i hi
  cases h
  have hm:m.back=m.back.dropLast++[j]:=by
   obtain⟨ys,e⟩:=List.getLast?_eq_some_iff.1 hi;rw[e,List.dropLast_concat]
  have nd:=C.nd;rw[hm]at nd;obtain⟨n1,n2,n3⟩:=List.nodup_append.1 nd;have jm:j∈m.back:=by rw[hm];simp
  obtain⟨a,b,c⟩:=C.bk j jm
  exact⟨a,by omega,c,n1,λi hi=>⟨by rw[hm];exact List.mem_append_left _ hi,λz=>n3 i hi j U8 z⟩,Nat.le_refl _,b,fs,λi hi _=>hi⟩
 ·rename_i hi
  split at h
  ·cases h
   have hb:m.back=[]:=by simpa using hi
   refine⟨by omega,by omega,?_,C.nd,λi (hi:i∈m.back)=>absurd hi (by rw[hb];simp),by omega,Nat.le_refl _,by omega,λi h1 h2=>by omega⟩
   cases e:m.vw.Sj (m.fresh+1)with
   |false=>rfl
   |true=>have:=(C.hd _ e).2;omega
  ·cases h
theorem lS(L:List Int)(a k:Nat)(n:Int):∀(c:Nat),c<=L.length->∀j,(dA L a k n c).getD j 0=if j<c/\a<=j/\j<a+k then n else L.getD j 0
 |0,_,j=>by simp[dA]
 |c+1,hc,j=>by
  have ih:=lS L a k n c U2;have hl:(dA L a k n c).length=L.length:=fillTo_len' L a k n c;unfold dA
  split
  ·rename_i h
   by_cases e:j=c
   ·subst e
    rw[if_pos ⟨by omega,h.1,h.2⟩];simp[List.getD,hl,show j<L.length by omega]
   ·have:((dA L a k n c).set c n).getD j 0=(dA L a k n c).getD j 0:=by simp[List.getD,List.getElem?_set_ne (λz=>e z.symm)]
    rw[this,ih j]
    exact Us102
  ·rename_i h
   rw[ih j]
   exact Us102
where fillTo_len' (L:List Int) (a k:Nat) (n:Int):∀c,(dA L a k n c).length=L.length
 |0=>rfl
 |c+1=>by unfold dA;split<;>simp[fillTo_len' L a k n c]
theorem sO(L:List Int)(a k:Nat)(n:Int)(j:Nat)(hj:j<L.length):(fQ L a k n).getD j 0=if a<=j/\j<a+k then n else L.getD j 0:=by
 unfold fQ;rw[lS L a k n _ nr]
 by_cases q:a<=j/\j<a+k
 ·rw[if_pos q,if_pos ⟨hj,q⟩]
 ·rw[if_neg q,if_neg (λz=>q z.2)]
theorem lQ(L:List Int)(a k:Nat)(n:Int):(fQ L a k n).length=L.length:=lS.fillTo_len' L a k n _
theorem bO.made{m:Co}(C:bO m){j:Nat}{B:List Nat}{f:Nat}(h:m.pick=some (j,B,f))(x:Fr)(hp:0<=x.Sg):bO (m.made j B f x)/\(m.made j B f x).vw=m.vw.made j x.fv:=by
 obtain⟨j1,j2,j3,b1,b2,f1,f2,f3,f4⟩:=C.pick h;have hh:m.Sj.getD j false=false:=j3;have hl:j<m.Sj.length:=by omega
 have hfl:j<m.aJ.length:=by rw[C.eZ];omega
 have hg:∀i,(m.Sj.set j true).getD i false=if i=j then true else m.Sj.getD i false:=λi=>by
  by_cases e:i=j
  ·subst e;rw[if_pos rfl];simp[List.getD,hl]
  ·exact U134
 have hfr:∀i,(m.made j B f x).fr i=if i=j then x else m.fr i:=λi=>by
  show(m.aJ.set j x).getD i aM=_
  by_cases e:i=j
  ·subst e;rw[if_pos rfl];simp[List.getD,hfl]
  ·rw[if_neg e];simp[List.getD,List.getElem?_set_ne (λz=>e z.symm)];rfl
 have hlen:(m.made j B f x).RY.length=m.RY.length:=by
  show(fQ (fQ m.RY _ _ 0) _ 1 1).length=_
  rw[lQ,lQ]
 have hb:=C.NM;refine⟨⟨⟨C.Sn.1,C.Sn.2.1,by rw[hlen];exact C.Sn.2.2⟩,by show(m.Sj.set j true).length=_;rw[List.length_set];exact C.hlen,by show(m.aJ.set j x).length=_;rw[List.length_set];exact C.eZ,b1,λi hi=>?_,λi hi=>?_,by show f<(m.Sj.set j true).length;rw[List.length_set];exact f3,?_,λi=>?_,C.most⟩,?_⟩
 ·obtain⟨c1,c2⟩:=b2 i hi
  obtain⟨d1,d2,d3⟩:=C.bk i c1;refine⟨d1,by show i<=f;omega,?_⟩
  show(m.Sj.set j true).getD i false=false
  rw[hg,if_neg c2];exact d3
 ·have hi:(m.Sj.set j true).getD i false=true:=hi
  rw[hg]at hi
  split at hi
  ·rename_i e;subst e;exact⟨j1,f2⟩
  ·have:=C.hd i hi;exact⟨this.1,by show i<=f;omega⟩
 ·show 0<=max m.bY _
  have:=C.pk
  omega
 ·rw[hfr]
  split
  ·exact hp
  ·exact C.par i
 ·have eW:(m.made j B f x).vw.W=blank m.vw.W j:=by
   funext a
   show(if a.Ke m.pl=true then(m.made j B f x).wd a else 0)=_
   by_cases ha:a.Ke m.pl=true
   ·rw[if_pos ha]
    have hin:=(Ad.mK _ _).1 ha;have hlt:=Ad.Fe C.Sn hin
    show(fQ (fQ m.RY (m.pl.fN j) m.pl.rN 0) (m.pl.fN j) 1 1).getD (a.ix m.pl) 0=_
    rw[sO _ _ _ _ _ (by rw[lQ];exact hlt),sO _ _ _ _ _ hlt,C.fN j j1 j2];have rN:m.pl.rN=10:=by unfold Pl.rN Pl.room;rw[C.Sn.2.1];rfl
    rw[rN];have hw:m.RY.getD (a.ix m.pl) 0=m.vw.W a:=(Co.QY hin).symm;rw[hw];have e0:(Ad.f j 0).ix m.pl=m.pl.wk.toNat*(4+m.pl.dq.toNat)+(j-1)*10+0:=rfl
    cases a with
    |q v b=>
     have:=Ad.KP hin
     rw[if_neg U2,if_neg U2]
     rfl
    |f i b=>
     obtain⟨i1,i2,i3⟩:=hin;have e1:(Ad.f i b).ix m.pl=m.pl.wk.toNat*(4+m.pl.dq.toNat)+(i-1)*10+b:=rfl;rw[iy]
     by_cases e:i=j
     ·subst e
      rw[if_pos rfl]
      by_cases b0:b=0
      ·rw[if_pos b0,if_pos U2]
      ·rw[if_neg b0,if_neg U2,if_pos U2]
     ·rw[if_neg e,if_neg U2,if_neg U2]
   ·rw[if_neg ha]
    have hw:m.vw.W a=0:=if_neg ha
    cases a with
    |q v b=>exact hw.symm
    |f i b=>
     rw[iy]
     split
     ·rename_i e
      subst e
      have:¬(Ad.f i b).yC m.pl:=λz=>ha ((Ad.mK _ _).2 z)
      rw[if_neg];intro b0
      exact this ⟨j1,j2,by omega⟩
     ·exact hw.symm
  have eF:(m.made j B f x).vw.fr=Sd m.vw.fr j x.fv:=by
   funext i
   show((m.made j B f x).fr i).fv=_
   rw[hfr];unfold Sd
   split<;>rfl
  have eH:(m.made j B f x).vw.Sj=Sd m.vw.Sj j true:=by
   funext i
   show(m.Sj.set j true).getD i false=_
   rw[hg]
   rfl
  show({pl:=m.pl,W:=(m.made j B f x).vw.W,fr:=(m.made j B f x).vw.fr,Sj:=(m.made j B f x).vw.Sj,log:=m.log,ae:=m.ae}:Vw)=_
  rw[eW,eF,eH]
  rfl
theorem Us103 {p:Prop} (h:p:=by
 right
 refine⟨nP (by rw[e_1];exact h2) (λj hj=>?_),λhh=>?_⟩
 all_goals grind[Sd]):p:=h
theorem Us94 {p:Prop} (h:p:=by
 cases q:G.Sq f with
 |F=>rfl
 |_=>exact absurd (bd f U65) U2):p:=h
theorem Us61 {p:Prop} (h:p:=by
 right
 refine⟨uD (by rw[e_1];exact hj) (λj hj=>?_),λhh=>?_⟩
 all_goals grind[Sd]):p:=h
theorem Us60 {p:Prop} (h:p:=by
 subst h
 exact⟨λ_ _ z=>U47,λj r hj z=>U47,h'⟩):p:=h
theorem Us55 {p:Prop} (h:p:=by
 by_cases e_2:f=i
 ·right
  refine⟨nP U90 (λj hj=>?_),λhh=>?_⟩
  all_goals grind[Sd]
 ·exact U135):p:=h
theorem Us15 {p:Prop} (h:p:=by
 right
 refine⟨nP U37 (λj hj=>?_),λhh=>?_⟩
 all_goals grind[Sd]):p:=h
def Mine(k:Nat)(p p':aY):Prop:=(∀v n,p≠ .D v n)/\(∀j r,j≠k->p≠ .W j r)/\(∀j,j≠k->p'≠ .W j 3)
theorem NS.of{G G':Gh}{m m':Vw}{k:Nat}(hp:m'.pl=m.pl)(hq:∀v j,m'.W (.q v j)=m.W (.q v j))(hg:G'.H=G.H/\G'.T=G.T/\G'.dk=G.dk/\G'.cr=G.cr/\G'.tk=G.tk)
  (hc:∀i,(G'.Sq i=G.Sq i/\m'.fr i=m.fr i/\G'.ph i=G.ph i/\G'.aU i=G.aU i)∨(Mine k (G.Sq i) (G'.Sq i)/\(G.Sq i≠ .F->(m'.fr i).ae=(m.fr i).ae)))
  (ho:∀j,j≠k->G'.aU (2000+j)=G.aU (2000+j)) (hf:∀s it,Fin m.log s it->Fin m'.log s it) (hs:m.ae<=m'.ae):NS G m G' m' k:=by
 obtain⟨g1,g2,g3,g4,g5⟩:=hg;refine⟨hp,hq,g1,g2,g3,g4,g5,λi v n h=>?_,λi j r hj h=>?_,λi j hj h=>?_,λi h=>?_,ho,hf,hs⟩
 ·rcases hc i with⟨a,b,c,d⟩|⟨⟨a,b,c⟩,d⟩
  ·exact⟨a.trans h,b,c⟩
  ·exact absurd h (a v n)
 ·rcases hc i with⟨a,b,c,d⟩|⟨⟨a,b,c⟩,d⟩
  ·exact⟨a.trans h,b,c,d⟩
  ·exact absurd h (b j r hj)
 ·rcases hc i with⟨a,b,c,d⟩|⟨⟨a,b,c⟩,d⟩
  ·exact a.symm.trans h
  ·exact absurd h (c j hj)
 ·rcases hc i with⟨a,b,c,d⟩|⟨⟨a,b,c⟩,d⟩
  ·rw[b]
  ·exact d h
theorem nP{k r:Nat}{p p':aY}(h:p=.W k r)(h':∀j,j≠k->p'≠ .W j 3):Mine k p p':=by
 subst h
 exact⟨λ_ _ z=>U47,λj r hj z=>(by cases z;exact hj rfl),h'⟩
theorem uD{k:Nat}{p p':aY}(h:p=.F)(h':∀j,j≠k->p'≠ .W j 3):Mine k p p':=by
 exact Us60
theorem F8{k:Nat}{p p':aY}(h:p=.S)(h':∀j,j≠k->p'≠ .W j 3):Mine k p p':=by
 exact Us60
theorem F9{k:Nat}{p p':aY}(h:p=.Z)(h':∀j,j≠k->p'≠ .W j 3):Mine k p p':=by
 exact Us60
theorem F7{k c:Nat}{p p':aY}(h:p=.I c)(h':∀j,j≠k->p'≠ .W j 3):Mine k p p':=by
 exact Us60
theorem Oo{k c:Nat}{p p':aY}(h:p=.P c)(h':∀j,j≠k->p'≠ .W j 3):Mine k p p':=by
 exact Us60
theorem NS.spawn{G:Gh}{m:Vw}(k i j:Nat)(hb:j<2000)(h2:G.Sq j=.W k 3):
  NS G m {G with Sq:=Sd G.Sq j (.W k 1),aU:=Sd G.aU j i} (m.put i 0 (m.jn i+1)) k:=by
 unfold Vw.put;refine NS.of rfl (λv j=>rfl) ⟨rfl,rfl,rfl,rfl,rfl⟩ (λf=>?_) (λj hj=>Sm _ _ U2) (λ_ _ h=>h) (Int.le_refl _)
 by_cases e_1:f=j
 ·exact Us103
 ·exact U135
theorem NS.lU{G:Gh}{m:Vw}(k i:Nat)(h1:G.Sq i=.W k 0):
  NS G m {G with Sq:=Sd G.Sq i .S} (m.put i 0 (m.jn i-1)) k:=by
 unfold Vw.put;refine NS.of rfl (λv j=>rfl) ⟨rfl,rfl,rfl,rfl,rfl⟩ (λf=>?_) (λj hj=>rfl) (λ_ _ h=>h) (Int.le_refl _)
 by_cases e_1:f=i
 ·exact Us15
 ·exact U135
theorem NS.qG{G:Gh}{m:Vw}(k i:Nat)(h1:G.Sq i=.W k 0):
  NS G m {G with Sq:=Sd G.Sq i (.W k 2)} (m.put i 0 (m.jn i-1)) k:=by
 unfold Vw.put;refine NS.of rfl (λv j=>rfl) ⟨rfl,rfl,rfl,rfl,rfl⟩ (λf=>?_) (λj hj=>rfl) (λ_ _ h=>h) (Int.le_refl _)
 by_cases e_1:f=i
 ·exact Us15
 ·exact U135
theorem NS.again{G:Gh}{m:Vw}(k i:Nat)(h1:G.Sq i=.W k 2):
  NS G m {G with Sq:=Sd G.Sq i (.W k 0)} {m.put i 0 1 with fr:=Sd m.fr i {m.fr i with az:=false}} k:=by
 unfold Vw.put;refine NS.of rfl (λv j=>rfl) ⟨rfl,rfl,rfl,rfl,rfl⟩ (λf=>?_) (λj hj=>rfl) (λ_ _ h=>h) (Int.le_refl _)
 by_cases e_1:f=i
 ·exact Us15
 ·exact U135
theorem NS.OP{G:Gh}{m:Vw}(k p:Nat)(bd:∀f,G.Sq f≠ .F->f<2000):
  NS G m {G with aU:=Sd G.aU (2000+k) 0} (m.put p 0 (m.jn p-1)) k:=by
 unfold Vw.put;refine NS.of rfl (λv j=>rfl) ⟨rfl,rfl,rfl,rfl,rfl⟩ (λf=>?_) (λj hj=>Sm _ _ U2) (λ_ _ h=>h) (Int.le_refl _)
 by_cases e:f=2000+k
 ·right
  have:G.Sq f=.F:=by
   exact Us94
  exact⟨uD this (λj hj z=>by have z:G.Sq f=_:=z;rw[this]at z;cases z),λ_=>rfl⟩
 ·left;exact⟨rfl,rfl,rfl,Sm _ _ e⟩
theorem NS.OJ{G:Gh}{m:Vw}(k p:Nat)(hS:G.Sq p=.S)(bd:∀f,G.Sq f≠ .F->f<2000):
  NS G m {G with Sq:=Sd G.Sq p (.W k 2),aU:=Sd G.aU (2000+k) 0} (m.put p 0 (m.jn p-1)) k:=by
 unfold Vw.put;refine NS.of rfl (λv j=>rfl) ⟨rfl,rfl,rfl,rfl,rfl⟩ (λf=>?_) (λj hj=>Sm _ _ U2) (λ_ _ h=>h) (Int.le_refl _)
 by_cases e2:f=p
 ·right
  exact⟨F8 (by rw[e2];exact hS) (λj hj=>by show Sd G.Sq p (.W k 2) f≠_;rw[e2,Sb];exact λz=>by cases z),λ_=>rfl⟩
 by_cases e:f=2000+k
 ·right
  have:G.Sq f=.F:=by
   exact Us94
  exact⟨uD this (λj hj=>by show Sd G.Sq p (.W k 2) f≠_;rw[Sm _ _ e2,this];exact λz=>by cases z),λ_=>rfl⟩
 ·left;exact⟨Sm _ _ e2,rfl,rfl,Sm _ _ e⟩
theorem NS.fork{G:Gh}{m:Vw}(k i j:Nat)(h1:G.Sq i=.W k 0)(hj:G.Sq j=.F):
  NS G m {G with Sq:=Sd G.Sq j (.W k 3)} {m.made j ⟨1,i,false,false,0,0,0,0⟩with fr:=Sd (m.made j ⟨1,i,false,false,0,0,0,0⟩).fr i {m.fr i with az:=true}} k:=by
 unfold Vw.made;refine NS.of rfl (λv j=>rfl) ⟨rfl,rfl,rfl,rfl,rfl⟩ (λf=>?_) (λj hj=>rfl) (λ_ _ h=>h) (Int.le_refl _)
 by_cases e_1:f=j
 ·exact Us61
 ·exact Us55
theorem NS.pipe{G:Gh}{m:Vw}(k i j:Nat)(h1:G.Sq i=.W k 0)(hj:G.Sq j=.F):
  NS G m {G with Sq:=Sd (Sd G.Sq j (.W k 0)) i (.P j)} {m.made j ⟨3,i,false,false,0,0,0,m.ae+1⟩with ae:=m.ae+1} k:=by
 unfold Vw.made;refine NS.of rfl (λv j=>rfl) ⟨rfl,rfl,rfl,rfl,rfl⟩ (λf=>?_) (λj hj=>rfl) (λ_ _ h=>h) (by show m.ae<=m.ae+1;omega)
 by_cases e_1:f=j
 ·exact Us61
 ·exact Us55
theorem NS.start{G:Gh}{m:Vw}(k i j:Nat)(h1:G.Sq i=.W k 0)(hj:G.Sq j=.F):
  NS G m {G with Sq:=Sd G.Sq j (.W k 3),ph:=Sd G.ph j 0,cur:=Sd G.cur i j} {m.made j ⟨2,i,false,false,(m.fr i).R9,0,0,0⟩with fr:=Sd (m.made j ⟨2,i,false,false,(m.fr i).R9,0,0,0⟩).fr i {m.fr i with R9:=(m.fr i).R9+1}} k:=by
 unfold Vw.made;refine NS.of rfl (λv j=>rfl) ⟨rfl,rfl,rfl,rfl,rfl⟩ (λf=>?_) (λj hj=>rfl) (λ_ _ h=>h) (Int.le_refl _)
 by_cases e_1:f=j
 ·exact Us61
 ·exact Us55
theorem NS.tell{G:Gh}{m:Vw}(k:Nat)(e:Ev):
  NS G m G {m with log:=m.log++[e]} k:=by
 refine NS.of rfl (λv j=>rfl) ⟨rfl,rfl,rfl,rfl,rfl⟩ (λf=>?_) (λj hj=>rfl) (λ_ _ h=>h.snoc _) (Int.le_refl _)
 left;exact⟨rfl,rfl,rfl,rfl⟩
theorem NS.lW{G:Gh}{m:Vw}(k i r:Nat)(b:Bool)(h1:G.Sq i=.W k r)(h3:r≠3):
  NS G m G {m with fr:=Sd m.fr i {m.fr i with due:=b}} k:=by
 refine NS.of rfl (λv j=>rfl) ⟨rfl,rfl,rfl,rfl,rfl⟩ (λf=>?_) (λj hj=>rfl) (λ_ _ h=>h) (Int.le_refl _)
 by_cases e_1:f=i
 ·exact Us15
 ·exact U135
theorem NS.M9{G:Gh}{m:Vw}(k i:Nat)(h1:G.Sq i=.W k 0)(g:Int):
  NS G m G {m with W:=Sd m.W (.f (m.pa i) (2+4*((m.fr i).index%2))) g,fr:=Sd m.fr i {m.fr i with Sc:=g}} k:=by
 refine NS.of rfl (λv j=>rfl) ⟨rfl,rfl,rfl,rfl,rfl⟩ (λf=>?_) (λj hj=>rfl) (λ_ _ h=>h) (Int.le_refl _)
 by_cases e_1:f=i
 ·exact Us15
 ·exact U135
theorem NS.M8{G:Gh}{m:Vw}(k i:Nat)(h1:G.Sq i=.W k 0)(hI:G.Sq (m.pa i)=.I i)(g:Int):
  NS G m {G with Sq:=Sd (Sd G.Sq (m.pa i) (.W k 0)) i (.W k 1)} {m with W:=Sd m.W (.f (m.pa i) (2+4*((m.fr i).index%2))) g,fr:=Sd m.fr i {m.fr i with Sc:=g}} k:=by
 refine NS.of rfl (λv j=>rfl) ⟨rfl,rfl,rfl,rfl,rfl⟩ (λf=>?_) (λj hj=>rfl) (λ_ _ h=>h) (Int.le_refl _)
 by_cases e_1:f=i
 ·exact Us15
 ·by_cases e_2:f=m.pa i
  ·right
   refine⟨F7 (by rw[e_2];exact hI) (λj hj=>?_),λhh=>?_⟩
   all_goals grind[Sd]
  ·exact U135
theorem NS.joins{G:Gh}{m:Vw}(k l c:Nat)(h1:G.Sq l=.W k 0)(h2:G.Sq c=.W k 3)(hb:c<2000)(e1 e2:Ev):
  NS G m {G with Sq:=Sd (Sd G.Sq c (.W k 0)) l (.I c),aU:=Sd G.aU c l,ph:=Sd G.ph c 1} {m with W:=Sd m.W (.f l 0) (m.jn l+1),log:=(m.log++[e1])++[e2]} k:=by
 refine NS.of rfl (λv j=>rfl) ⟨rfl,rfl,rfl,rfl,rfl⟩ (λf=>?_) (λj hj=>Sm _ _ U2) (λ_ _ h=>(h.snoc _).snoc _) (Int.le_refl _)
 by_cases e_1:f=c
 ·exact Us103
 ·by_cases e_2:f=l
  ·right
   refine⟨nP U90 (λj hj=>?_),λhh=>?_⟩
   all_goals grind[Sd]
  ·exact U135
theorem NS.finish{G:Gh}{m:Vw}(k i:Nat)(h1:G.Sq i=.W k 0)(s1:Int):
  NS G m {G with ph:=Sd G.ph i 2} {m with W:=Sd m.W (.f (m.pa i) (2+4*((m.fr i).index%2))) 1048576,log:=(m.log++[(Ev.mk 4 (m.fr (m.pa i)).ae (m.fr i).index s1)])} k:=by
 refine NS.of rfl (λv j=>rfl) ⟨rfl,rfl,rfl,rfl,rfl⟩ (λf=>?_) (λj hj=>rfl) (λ_ _ h=>h.snoc _) (Int.le_refl _)
 by_cases e_1:f=i
 ·exact Us15
 ·exact U135
theorem NS.put{G:Gh}{m:Vw}(k l b:Nat)(v:Int):
  NS G m G {m with W:=Sd m.W (.f l b) v} k:=by
 refine NS.of rfl (λv j=>rfl) ⟨rfl,rfl,rfl,rfl,rfl⟩ (λf=>?_) (λj hj=>rfl) (λ_ _ h=>h) (Int.le_refl _)
 left;exact⟨rfl,rfl,rfl,rfl⟩
theorem NS.Ou{G:Gh}{m:Vw}(k l:Nat)(v:Int)(h1:G.Sq l=.W k 0):
  NS G m {G with Sq:=Sd G.Sq l .Z} {m with W:=Sd m.W (.f l 1) v} k:=by
 refine NS.of rfl (λv j=>rfl) ⟨rfl,rfl,rfl,rfl,rfl⟩ (λf=>?_) (λj hj=>rfl) (λ_ _ h=>h) (Int.le_refl _)
 by_cases e_1:f=l
 ·exact Us15
 ·exact U135
theorem NS.I5{G:Gh}{m:Vw}(k l:Nat)(v:Int)(h1:G.Sq l=.Z):
  NS G m {G with Sq:=Sd G.Sq l (.W k 0)} {m with W:=Sd m.W (.f l 1) v} k:=by
 refine NS.of rfl (λv j=>rfl) ⟨rfl,rfl,rfl,rfl,rfl⟩ (λf=>?_) (λj hj=>rfl) (λ_ _ h=>h) (Int.le_refl _)
 by_cases e_1:f=l
 ·right
  refine⟨F9 U37 (λj hj=>?_),λhh=>?_⟩
  all_goals grind[Sd]
 ·exact U135
theorem NS.I6{G:Gh}{m:Vw}(k l:Nat)(v:Int)(h1:G.Sq l=.Z):
  NS G m {G with Sq:=Sd G.Sq l (.W k 1)} {m with W:=Sd m.W (.f l 1) v} k:=by
 refine NS.of rfl (λv j=>rfl) ⟨rfl,rfl,rfl,rfl,rfl⟩ (λf=>?_) (λj hj=>rfl) (λ_ _ h=>h) (Int.le_refl _)
 by_cases e_1:f=l
 ·right
  refine⟨F9 U37 (λj hj=>?_),λhh=>?_⟩
  all_goals grind[Sd]
 ·exact U135
theorem NS.El{G:Gh}{m:Vw}(k i:Nat)(h1:G.Sq i=.W k 0)(hb:i<2000)(h5:G.Sq (m.pa i)=.I i):
  NS G m {G with Sq:=Sd (Sd G.Sq i .F) (m.pa i) (.W k 0),aU:=Sd G.aU i 0} {m with W:=Sd m.W (.f (m.pa i) 0) (m.jn (m.pa i)-1),Sj:=Sd m.Sj i false} k:=by
 refine NS.of rfl (λv j=>rfl) ⟨rfl,rfl,rfl,rfl,rfl⟩ (λf=>?_) (λj hj=>Sm _ _ U2) (λ_ _ h=>h) (Int.le_refl _)
 by_cases e_1:f=i
 ·exact Us15
 ·by_cases e_2:f=m.pa i
  ·right
   refine⟨F7 (by rw[e_2];exact h5) (λj hj=>?_),λhh=>?_⟩
   all_goals grind[Sd]
  ·exact U135
theorem NS.Em{G:Gh}{m:Vw}(k i:Nat)(h1:G.Sq i=.W k 0)(hb:i<2000)(h5:G.Sq (m.pa i)=.S):
  NS G m {G with Sq:=Sd (Sd G.Sq i .F) (m.pa i) (.W k 2),aU:=Sd G.aU i 0} {m with W:=Sd m.W (.f (m.pa i) 0) (m.jn (m.pa i)-1),Sj:=Sd m.Sj i false} k:=by
 refine NS.of rfl (λv j=>rfl) ⟨rfl,rfl,rfl,rfl,rfl⟩ (λf=>?_) (λj hj=>Sm _ _ U2) (λ_ _ h=>h) (Int.le_refl _)
 by_cases e_1:f=i
 ·exact Us15
 ·by_cases e_2:f=m.pa i
  ·right
   refine⟨F8 (by rw[e_2];exact h5) (λj hj=>?_),λhh=>?_⟩
   all_goals grind[Sd]
  ·exact U135
theorem NS.Eo{G:Gh}{m:Vw}(k i:Nat)(h1:G.Sq i=.W k 0)(hb:i<2000)(h5:G.Sq (m.pa i)=.W k 1):
  NS G m {G with Sq:=Sd (Sd G.Sq i .F) (m.pa i) (.W k 0),aU:=Sd G.aU i 0} {m with W:=Sd m.W (.f (m.pa i) 0) (m.jn (m.pa i)-1),Sj:=Sd m.Sj i false} k:=by
 refine NS.of rfl (λv j=>rfl) ⟨rfl,rfl,rfl,rfl,rfl⟩ (λf=>?_) (λj hj=>Sm _ _ U2) (λ_ _ h=>h) (Int.le_refl _)
 by_cases e_1:f=i
 ·exact Us15
 ·by_cases e_2:f=m.pa i
  ·right
   refine⟨nP (by rw[e_2];exact h5) (λj hj=>?_),λhh=>?_⟩
   all_goals grind[Sd]
  ·exact U135
theorem NS.En{G:Gh}{m:Vw}(k i:Nat)(h1:G.Sq i=.W k 0)(hb:i<2000):
  NS G m {G with Sq:=Sd G.Sq i .F,aU:=Sd G.aU i 0} {m with W:=Sd m.W (.f (m.pa i) 0) (m.jn (m.pa i)-1),Sj:=Sd m.Sj i false} k:=by
 refine NS.of rfl (λv j=>rfl) ⟨rfl,rfl,rfl,rfl,rfl⟩ (λf=>?_) (λj hj=>Sm _ _ U2) (λ_ _ h=>h) (Int.le_refl _)
 by_cases e_1:f=i
 ·exact Us15
 ·exact U135
theorem NS.back{G:Gh}{m:Vw}(k i:Nat)(h1:G.Sq i=.W k 0)(hb:i<2000)(bd:∀f,G.Sq f≠ .F->f<2000):
  NS G m {G with Sq:=Sd G.Sq i .F,aU:=Sd (Sd G.aU i 0) (2000+k) (m.pa i)} {m with Sj:=Sd m.Sj i false} k:=by
 refine NS.of rfl (λv j=>rfl) ⟨rfl,rfl,rfl,rfl,rfl⟩ (λf=>?_) (λj hj=>(Sm _ _ U2).trans (Sm _ _ U2)) (λ_ _ h=>h) (Int.le_refl _)
 by_cases e2:f=i
 ·right
  exact⟨nP (by rw[e2];exact h1) (λj hj=>by show Sd G.Sq i .F f≠_;rw[e2,Sb];exact λz=>by cases z),λ_=>rfl⟩
 by_cases e:f=2000+k
 ·right
  have:G.Sq f=.F:=by
   exact Us94
  exact⟨uD this (λj hj=>by show Sd G.Sq i .F f≠_;rw[Sm _ _ e2,this];exact λz=>by cases z),λ_=>rfl⟩
 ·left;exact⟨Sm _ _ e2,rfl,rfl,(Sm _ _ e).trans (Sm _ _ e2)⟩
theorem NS.complete{G:Gh}{m:Vw}(k l:Nat)(h1:G.Sq l=.W k 2)(hP:G.Sq (m.pa l)=.P l)(e:Ev):
  NS G m {G with Sq:=Sd (Sd G.Sq l .F) (m.pa l) (.W k 0)} {m with Sj:=Sd m.Sj l false,log:=m.log++[e]} k:=by
 refine NS.of rfl (λv j=>rfl) ⟨rfl,rfl,rfl,rfl,rfl⟩ (λf=>?_) (λj hj=>rfl) (λ_ _ h=>h.snoc _) (Int.le_refl _)
 by_cases e_1:f=l
 ·exact Us15
 ·by_cases e_2:f=m.pa l
  ·right
   refine⟨Oo (by rw[e_2];exact hP) (λj hj=>?_),λhh=>?_⟩
   all_goals grind[Sd]
  ·exact U135
section
theorem Us28 {p:Prop} (h:p:=by
 rw[if_pos (Co.bJ o1 hh),e0,hh];obtain⟨C1,V1⟩:=c.C.again i o2 o3;obtain⟨C2,V2⟩:=C1.ak i o3 {m.fr i with az:=false} (c.C.par i);rw[V1]at V2;have F:=c.I.aJ.again k i ho hr.1;refine c.good U2 C2 V2 (NS.again k i ho) F U2 U2 ⟨rfl,rfl,rfl⟩ (aO (bu (c.gu U2) (λz=>by cases z))) (λ_=>c.dh U2) (.run i rfl rfl (Sb _ _ _) ?_);unfold Run Vw.kd
 show(Sd m.vw.fr i _ i).kind≠3/\((Sd m.vw.fr i _ i).kind=2->_)
 rw[Sb]
 exact hr):p:=h
theorem NS.trans{G G1 G2:Gh}{m m1 m2:Vw}{k:Nat}(a:NS G m G1 m1 k)(b:NS G1 m1 G2 m2 k)(hF:∀i,G.Sq i≠ .F->G1.Sq i≠ .F∨(m2.fr i).ae=(m1.fr i).ae):NS G m G2 m2 k:=by
 refine⟨b.pl.trans a.pl,λv j=>(b.q v j).trans (a.q v j),b.H.trans a.H,b.T.trans a.T,b.dk.trans a.dk,b.cr.trans a.cr,b.tk.trans a.tk,λi v n h=>?_,λi j r hj h=>?_,λi j hj h=>a.w3 i j hj (b.w3 i j hj h),λi h=>?_,λj hj=>(b.aU j hj).trans (a.aU j hj),λs it h=>b.fin s it (a.fin s it h),Int.le_trans a.ae b.ae⟩
 ·obtain⟨x1,x2,x3⟩:=a.Re i v n h
  obtain⟨y1,y2,y3⟩:=b.Re i v n x1
  exact⟨y1,y2.trans x2,y3.trans x3⟩
 ·obtain⟨x1,x2,x3,x4⟩:=a.Rx i j r hj h
  obtain⟨y1,y2,y3,y4⟩:=b.Rx i j r hj x1
  exact⟨y1,y2.trans x2,y3.trans x3,y4.trans x4⟩
 ·rcases hF i h with q|q
  ·exact(b.au i q).trans (a.au i h)
  ·exact q.trans (a.au i h)
theorem NS.refl(G:Gh)(m:Vw)(k:Nat):NS G m G m k:=NS.of rfl (λ_ _=>rfl) ⟨rfl,rfl,rfl,rfl,rfl⟩ (λ_=>Or.inl ⟨rfl,rfl,rfl,rfl⟩) (λ_ _=>rfl) (λ_ _ h=>h) (Int.le_refl _)
theorem bP.wm{G:Gh}{m:Vw}{tm:Int}(F:bP G m tm)(h:tm<=90000):Be m.log:=⟨F.lg,λe he=>Int.le_trans (F.seen e he) (Int.le_trans F.sr.2 h),Int.le_trans F.few h⟩
def Good(ws:Nat->Option WS)(k:Nat)(tm:Int)(r:Option (Co×WS)):Prop:=
 ∃m' x',r=some (m',x')/\bO m'/\Be m'.log/\(m'.status≠0∨∃G' tm',tm<=tm'/\tm'<=tm+8/\Inv G' m'.vw (Sd ws k (some x')) tm')
structure Ctx(G:Gh)(m:Co)(ws:Nat->Option WS)(tm:Int)(k:Nat)(x:WS):Prop where
 C:bO m
 I:Inv G m.vw ws tm
 hk:ws k=some x
 ht:tm+8<=90000
section
variable {G:Gh} {m:Co} {ws:Nat->Option WS} {tm:Int} {k:Nat} {x:WS}
theorem Ctx.idle(c:Ctx G m ws tm k x):Idle G m.vw tm k x:=(c.I.cl k x c.hk).2
theorem Ctx.cl(c:Ctx G m ws tm k x):Cl G m.vw k x:=(c.I.cl k x c.hk).1
theorem Ctx.wm(c:Ctx G m ws tm k x):Be m.log:=c.I.aJ.wm c.I.Pg.2
theorem Ctx.Rz(c:Ctx G m ws tm k x):k<64:=by
 have:=c.I.Dr k x c.hk
 have q:=c.I.ok;unfold Pl.ok at q;have e:m.vw.pl=m.pl:=rfl
 omega
theorem Ctx.Sq(c:Ctx G m ws tm k x):x.Sq=k:=c.idle.1
theorem Ctx.gu(c:Ctx G m ws tm k x)(h:x.R8≠6/\x.R8≠22/\x.R8≠23/\x.R8≠24)(g:Nat):G.Sq g≠ .W k 3:=λz=>by
 have:=(c.idle.2.2.2.2.1 g z).1
 omega
theorem Ctx.dh(c:Ctx G m ws tm k x)(h:x.R8≠7):G.aU (2000+k)=0:=c.idle.2.2.2.2.2 h
theorem Ctx.nums(c:Ctx G m ws tm k x):0<=G.T k/\G.T k<=tm:=by
 have:=(c.I.dq k (c.I.Dr k x c.hk)).nums
 omega
theorem vV{n:Int}(h1:0<=n)(h2:n<=90000):ou n=n:=by unfold ou;omega
theorem Ctx.ok(c:Ctx G m ws tm k x){i:Nat}(h:G.Sq i≠ .F):m.ok i/\1<=i/\i<=m.pl.fr.toNat/\i<=256:=
 ⟨c.C.has ((c.I.aJ.hld i).2 h),c.I.aJ.bd i h⟩
theorem Ctx.bd(c:Ctx G m ws tm k x)(f:Nat)(h:G.Sq f≠ .F):f<2000:=by have:=(c.ok h).2.2.2;omega
theorem fO{j r:Nat}:aY.W j r≠ .F:=λz=>by cases z
theorem Ctx.okW(c:Ctx G m ws tm k x){i r:Nat}(h:G.Sq i=.W k r):m.ok i/\1<=i/\i<=m.pl.fr.toNat/\i<=256:=c.ok (by rw[h];exact fO)
theorem Ctx.tails(c:Ctx G m ws tm k x)(hx:x.R8≠2/\x.R8≠3){G':Gh}{V':Vw}(N:NS G m.vw G' V' k):V'.tl k=x.tail/\G'.T k=x.tail/\0<=x.tail/\x.tail<=90000:=by
 obtain⟨a,b⟩:=c.idle.2.1 hx.1 hx.2
 have:=c.nums
 have:=c.ht
 exact⟨(N.q k 1).trans a,by rw[N.T];exact b,by omega,by omega⟩
theorem Ctx.push(c:Ctx G m ws tm k x)(hx:x.R8≠2/\x.R8≠3){G':Gh}{V':Vw}(N:NS G m.vw G' V' k)(y:Int):ig G' V' k (DW.push m.pl x.Sq x.tail y):=by
 obtain⟨a,b,c1,c2⟩:=c.tails hx N;have e:=vV c1 c2
 exact⟨N.pl.symm,c.Sq,a.trans e.symm,b.trans e.symm,rfl,trivial⟩
theorem Ctx.pop(c:Ctx G m ws tm k x)(hx:x.R8≠2/\x.R8≠3){G':Gh}{V':Vw}(N:NS G m.vw G' V' k):xI G' V' k (DW.pop m.pl x.Sq x.tail):=by
 obtain⟨a,b,c1,c2⟩:=c.tails hx N;have e:=vV c1 c2
 exact⟨N.pl.symm,c.Sq,rfl,a.trans e.symm,b.trans e.symm⟩
theorem Ctx.goes(c:Ctx G m ws tm k x)(hx:x.R8≠2/\x.R8≠3){G':Gh}{V':Vw}(N:NS G m.vw G' V' k){x1:WS}(h1:x1.Sq=x.Sq)(h2:x1.tail=x.tail):Cl G' V' k (x1.goes m.pl):=by
 refine .pop (DW.pop m.pl x1.Sq x1.tail) rfl rfl ?_;rw[h1,h2]
 exact c.pop hx N
theorem Ctx.good(c:Ctx G m ws tm k x)(hx:x.R8≠1/\x.R8≠2/\x.R8≠3){m':Co}{x':WS}{G':Gh}{V':Vw}{tm':Int}(C':bO m')(e:m'.vw=V')(N:NS G m.vw G' V' k)(F:bP G' V' tm')(h1:tm<=tm')(h2:tm'<=tm+8)(hw:x'.Sq=x.Sq/\x'.tail=x.tail/\x'.ag=x.ag)
  (h3:∀i,G'.Sq i=.W k 3->(x'.R8=6∨x'.R8=22∨x'.R8=23∨x'.R8=24)/\x'.other=i) (h4:x'.R8≠7->G'.aU (2000+k)=0) (hc:Cl G' V' k x'):Good ws k tm (some (m',x')):=by
 subst e;refine⟨m',x',rfl,C',F.wm U91,Or.inr ⟨G',tm',h1,h2,c.I.ns c.hk N F h1 U91 hc ?_⟩⟩;obtain⟨a1,a2,a3,a4,a5,a6⟩:=c.idle;obtain⟨t1,t2,t3,t4⟩:=c.tails hx.2 N
 exact⟨hw.1.trans a1,λ_ _=>by rw[hw.2.1];exact⟨t1,t2⟩,by rw[hw.2.2];omega,λv z=>absurd (a4 v (by rw[<-N.cr];exact z)).1 hx.1,h3,h4⟩
theorem aO{G':Gh}{x':WS}(h:∀i,G'.Sq i≠ .W k 3):∀i,G'.Sq i=.W k 3->(x'.R8=6∨x'.R8=22∨x'.R8=23∨x'.R8=24)/\x'.other=i:=λi z=>absurd z (h i)
theorem bu{o:Nat->aY}{i:Nat}{p:aY}(h:∀g,o g≠ .W k 3)(hp:p≠ .W k 3):∀g,Sd o i p g≠ .W k 3:=λg=>by
 unfold Sd
 split
 ·exact hp
 ·exact h g
theorem Ctx.joined(c:Ctx G m ws tm k x)(hs:x.R8=5):Good ws k tm (m.kG x):=by
 have cl:=c.cl
 cases cl with
 |joined i a hh ho hr=>
  obtain⟨o1,o2,o3,o4⟩:=c.okW ho;have e0:x.Sa.toNat=i:=by rw[hh];rfl
  unfold Co.kG
  exact Us28
 |_=>omega
theorem Ctx.resume(c:Ctx G m ws tm k x)(hs:x.R8=8):Good ws k tm (m.kH x):=by
 have cl:=c.cl
 cases cl with
 |resume i a hh ho hr=>
  obtain⟨o1,o2,o3,o4⟩:=c.okW ho;have e0:x.other.toNat=i:=by rw[hh];rfl
  unfold Co.kH
  exact Us28
 |_=>omega
theorem vg(p:aY):0<=p.acts:=by
 cases p with
 |W k r=>simp[aY.acts];split<;>omega
 |_=>simp[aY.acts]
theorem Ctx.jn(c:Ctx G m ws tm k x){i:Nat}(h:G.Sq i≠ .F):0<=m.vw.jn i/\m.vw.jn i<=100000:=by
 have:=c.I.aJ.jn i h
 have:=vg (G.Sq i)
 have:=c.ht
 omega
theorem Ctx.spawn(c:Ctx G m ws tm k x)(hs:x.R8=6):Good ws k tm (m.ni x):=by
 have cl:=c.cl
 cases cl with
 |spawn i j a hh hoj ho hj hr kj pj oj dj=>
  obtain⟨o1,o2,o3,o4⟩:=c.okW ho;obtain⟨j1,j2,j3,j4⟩:=c.okW hj;have ij:i≠j:=by rintro rfl;rw[ho]at hj;cases hj
  unfold Co.ni;rw[if_pos (Co.bJ o1 hh),hh,hoj];obtain⟨C1,V1⟩:=c.C.spawn i o2 o3 (c.jn (by rw[ho];exact fO));have F:=c.I.aJ.spawn k i j ho hj kj pj dj hr.1;have N:=NS.spawn (G:=G) (m:=m.vw) k i j U2 hj;refine c.good U2 C1 V1 N F U2 U2 ⟨rfl,rfl,rfl⟩ (λg z=>?_) (λ_=>(Sm _ _ U2).trans (c.dh U2)) (.tF (DW.push m.pl x.Sq x.tail i) i j rfl rfl (c.push U2 N _) rfl ((Sm _ _ ij).trans ho) hr.2 rfl (Sb _ _ _) ⟨?_,?_⟩)
  ·have z:Sd G.Sq j (.W k 1) g=.W k 3:=z
   unfold Sd at z
   split at z
   ·cases z
   ·rename_i e
    have:=(c.idle.2.2.2.2.1 g z).2
    rw[hoj]at this
    exact absurd U2 e
  ·show m.vw.kd j≠3;rw[kj];decide
  ·show m.vw.kd j=2->_;rw[kj];exact λz=>absurd z U0
 |_=>omega
theorem bP.tT{V:Vw}(F:bP G V tm){d p:Nat}(hd:d<2100)(h:G.aU d=p)(hF:G.Sq p≠ .F)(hl:V.jn p=1):G.Sq p=.S:=by
 have hj:=F.jn p hF;have c1:=fG (o:=G.aU) hd h;have z:=F.jz p
 cases e:G.Sq p with
 |S=>rfl
 |F=>exact absurd e hF
 |W j r=>
  exact Us68
 |_=>rw[e]at hj;simp[aY.acts]at hj;omega
theorem Ctx.lI(c:Ctx G m ws tm k x)(hs:x.R8=7):Good ws k tm (m.kD x):=by
 have cl:=c.cl
 cases cl with
 |lI p a hh ho h1=>
  have k6:=c.Rz;obtain⟨w1,w2⟩:=c.I.aJ.dK k U2;rw[ho]at w1 w2;obtain⟨o1,o2,o3,o4⟩:=c.ok w1;obtain⟨C1,V1⟩:=c.C.leave p o2 o3 (c.jn w1);have hl:=c.C.last p o2 o3;have o0:∀{o:Nat->Nat},Sd o (2000+k) 0 (2000+k)=0:=λ{o}=>Sb _ _ _;unfold Co.kD;rw[hh]
  by_cases q:m.last p=true
  ·rw[if_pos q]
   have hS:=c.I.aJ.tT U2 ho w1 (hl.1 q);have F:=c.I.aJ.OJ k p U2 ho h1 (hl.1 q);have N:=NS.OJ (G:=G) (m:=m.vw) k p hS c.bd;have c1:=fG (o:=G.aU) (d:=2000+k) (f:=p) U2 ho;refine c.good U2 C1 V1 N F U2 U2 ⟨rfl,rfl,rfl⟩ (aO (bu (c.gu U2) (λz=>by cases z))) (λ_=>o0) (.resume p rfl rfl (Sb _ _ _) ⟨w2,λz=>?_⟩);have ix:=(c.I.aJ.ix p w1 z).2.2.2.1
   cases hd:(m.vw.fr p).az with
   |true=>exact ix hd
   |false=>have:=c.I.aJ.dG p w1 w2 hd;omega
  ·rw[if_neg q]
   have F:=c.I.aJ.OP k p U2 ho h1;have N:=NS.OP (G:=G) (m:=m.vw) k p c.bd;refine c.good U2 C1 V1 N F U2 U2 ⟨rfl,rfl,rfl⟩ (aO (c.gu U2)) (λ_=>o0) (c.goes U2 N rfl rfl)
 |_=>omega
end
end
section
section
variable {G:Gh} {m:Co} {ws:Nat->Option WS} {tm:Int} {k:Nat} {x:WS}
structure Ry(G:Gh)(m:Co)(tm:Int)(i p:Nat):Prop where
 up:m.up i=p
 pa:m.vw.pa i=p
 par:(m.fr i).Sg=(p:Int)
 ok:m.ok i
 bi:1<=i/\i<=m.pl.fr.toNat/\i<=256
 bQ:m.ok p
 bp:1<=p/\p<=m.pl.fr.toNat/\p<=256
 pF:G.Sq p≠ .F
 k3:m.vw.kd p=3
 pi:p≠i
 ix:(m.fr i).index<(m.fr p).R9
 st:((m.fr p).R9:Int)<=tm
 few:(m.log.length:Int)<=tm
theorem Ctx.Ca(c:Ctx G m ws tm k x){i:Nat}(hF:G.Sq i≠ .F)(h2:m.vw.kd i=2):Ry G m tm i (m.vw.pa i):=by
 obtain⟨pF,k3⟩:=c.I.aJ.iter i hF h2;obtain⟨p1,p2,p3,p4⟩:=c.ok pF;obtain⟨i1,i2,i3,i4⟩:=c.ok hF
 exact⟨rfl,rfl,c.C.up i,i1,⟨i2,i3,i4⟩,p1,⟨p2,p3,p4⟩,pF,k3,λz=>by rw[z]at k3;omega,(c.I.aJ.ix i hF h2).1,c.I.aJ.jG _ pF k3,c.I.aJ.few⟩
theorem Ctx.iter(c:Ctx G m ws tm k x){i p:Nat}(K:Ry G m tm i p)(hh:x.Sa=i):m.iter x=true/\x.Sa.toNat=i:=by
 have ht:=c.ht;have e0:x.Sa.toNat=i:=by rw[hh];rfl
 refine⟨?_,e0⟩;unfold Co.iter;have a1:=Co.bJ K.ok hh;have a2:=Co.bJ K.bQ K.par;have a3:Nat.ble (m.fr i).index 100000=true:=Nat.ble_eq_true_of_le (by have:=K.ix;have:=K.st;omega);have a4:Nat.ble m.log.length 99999=true:=Nat.ble_eq_true_of_le (by have:=K.few;omega);rw[e0,a1,a2,a3,a4]
 rfl
theorem Ctx.decide(c:Ctx G m ws tm k x)(hx:x.R8≠1/\x.R8≠2/\x.R8≠3/\x.R8≠6/\x.R8≠7/\x.R8≠22/\x.R8≠23/\x.R8≠24){i:Nat}(hI:zJ G m.vw k x i 1)(hst:(m.vw.fr i).Sc≠0)(hg:x.aB<=1048575)(x1:WS)(hw:x1.Sq=x.Sq/\x1.tail=x.tail/\x1.ag=x.ag/\x1.Sa=x.Sa/\x1.aB=x.aB):Good ws k tm (some (m.decide x1 i)):=by
 obtain⟨hh,ho,k2,hp,hd⟩:=hI;have hF:G.Sq i≠ .F:=by rw[ho];exact fO
 have K:=c.Ca hF k2;have ix:=c.I.aJ.ix i hF k2;have due:∀(st:St),Good ws k tm (some (({m with st:=st}:Co).due i,{x1 with R8:=4})):=λst=>by
  have C0:bO {m with st:=st}:=c.C.other rfl rfl rfl rfl rfl rfl rfl rfl;obtain⟨C1,V1⟩:=C0.ak i K.bi.2.1 {m.fr i with due:=true} (c.C.par i);have F:=c.I.aJ.lW i true (λ_=>k2);have N:=NS.lW (G:=G) (m:=m.vw) k i 0 true ho U0;refine c.good U2 C1 V1 N F U2 U2 ⟨hw.1,hw.2.1,hw.2.2.1⟩ (aO (c.gu U2)) (λ_=>c.dh U2) (.run i rfl (hw.2.2.2.1.trans hh) ho ⟨?_,λ_=>hp⟩)
  show(Sd m.vw.fr i _ i).kind≠3
  rw[Sb];show m.vw.kd i≠3;rw[k2];decide
 unfold Co.decide
 split
 ·exact due m.st
 ·rename_i h1
  split
  ·exact due _
  ·refine c.good U2 c.C rfl (NS.refl _ _ _) c.I.aJ U2 U2 ⟨hw.1,hw.2.1,hw.2.2.1⟩ (aO (c.gu U2)) (λ_=>c.dh U2) (.look i rfl ⟨hw.2.2.2.1.trans hh,ho,k2,hp,hd⟩ hst (by show x1.aB<=_;rw[hw.2.2.2.2];exact hg) ?_)
   have:¬(m.fr i).index=0:=λz=>h1 (Or.inr z)
   show 1<=(m.fr i).index
   omega
theorem Ctx.wH(c:Ctx G m ws tm k x)(hs:x.R8=10):Good ws k tm (m.su x):=by
 have cl:=c.cl
 cases cl with
 |wH i a hI hst hg=>
  obtain⟨hh,ho,k2,hp,hd⟩:=hI;have hF:G.Sq i≠ .F:=by rw[ho];exact fO
  have K:=c.Ca hF k2;obtain⟨q1,q2⟩:=c.iter K hh;unfold Co.su;rw[if_pos q1,q2]
  split
  ·exact c.good U2 c.C rfl (NS.refl _ _ _) c.I.aJ U2 U2 ⟨rfl,rfl,rfl⟩ (aO (c.gu U2)) (λ_=>c.dh U2) (.lK i ⟨m.pl,m.up i,(m.fr (m.up i)).ae,(m.fr i).index+1,x.aB,0,0,0,false⟩ rfl ⟨hh,ho,k2,hp,hd⟩ hst hg rfl rfl rfl rfl rfl rfl)
  ·exact c.decide U2 ⟨hh,ho,k2,hp,hd⟩ hst hg _ ⟨rfl,rfl,rfl,rfl,rfl⟩
 |_=>omega
theorem Ctx.sees(c:Ctx G m ws tm k x)(r:RW){p:Nat}(hp:1<=p/\p<=m.pl.fr.toNat)(h1:r.p=m.pl)(h2:r.id=p):r.sees m.RY=false:=by
 have z:=c.I.aJ.stt p (r.it%2) hp.1 hp.2 U2;have e:m.RY.getD (r.p.wN r.id r.it 1) 0=0:=by
  rw[h1,h2]
  exact(c.C.JY p hp.1 hp.2 r.it 1 U0).trans ((congrArg (λj=>m.vw.W (.f p j)) (by omega:2+4*(r.it%2)+1=3+4*(r.it%2))).trans z)
 unfold RW.sees;rw[e]
 have:iK 0 r.cn=false:=by unfold iK wS;simp
 rw[this]
 rfl
theorem Pl.nU(p:Pl):p.same p=true:=by simp[Pl.same]
theorem Ctx.check(c:Ctx G m ws tm k x)(hs:x.R8=11):Good ws k tm (m.lG x):=by
 have cl:=c.cl
 cases cl with
 |lK i r a hI hst hg hy hr r1 r2 r3 r4=>
  obtain⟨hh,ho,k2,hp,hd⟩:=hI;have hF:G.Sq i≠ .F:=by rw[ho];exact fO
  have K:=c.Ca hF k2;obtain⟨q1,q2⟩:=c.iter K hh;have sn:=c.sees r ⟨K.bp.1,K.bp.2.1⟩ r1 r4;have ps:r.p.same m.pl=true:=by rw[r1];exact Pl.nU _
  unfold Co.lG;rw[hr];dsimp only;rw[if_pos (by rw[q1,r2,sn,ps,r3];rfl),if_pos hy,q2]
  exact c.decide U2 ⟨hh,ho,k2,hp,hd⟩ hst hg _ ⟨rfl,rfl,rfl,rfl,rfl⟩
 |pY i r a hI hy hr r1 r2 r3 r4 r5 he hw=>
  obtain⟨hh,ho,k2,hp,hd⟩:=hI;have hF:G.Sq i≠ .F:=by rw[ho];exact fO
  have K:=c.Ca hF k2;obtain⟨q1,q2⟩:=c.iter K hh;have sn:=c.sees r ⟨K.bp.1,K.bp.2.1⟩ r1 r5;have ps:r.p.same m.pl=true:=by rw[r1];exact Pl.nU _
  unfold Co.lG;rw[hr];dsimp only;rw[if_pos (by rw[q1,r2,sn,ps,r3];rfl),if_neg U2,if_pos hy,q2]
  exact c.good U2 c.C rfl (NS.refl _ _ _) c.I.aJ U2 U2 ⟨rfl,rfl,rfl⟩ (aO (c.gu U2)) (λ_=>c.dh U2) (.closing i ⟨m.pl,m.up i,(m.fr (m.up i)).ae,(m.fr i).index,0,false,false⟩ (!x.eh) rfl ⟨hh,ho,k2,hp,hd⟩ he hw r4 rfl ⟨rfl,rfl,rfl,rfl,rfl⟩ rfl (Or.inl rfl) rfl)
 |_=>omega
theorem Ctx.look(c:Ctx G m ws tm k x)(hs:x.R8=12):Good ws k tm (m.rZ x):=by
 have cl:=c.cl
 cases cl with
 |look i a hI hst hg hi=>
  obtain⟨hh,ho,k2,hp,hd⟩:=hI;have hF:G.Sq i≠ .F:=by rw[ho];exact fO
  have K:=c.Ca hF k2;obtain⟨q1,q2⟩:=c.iter K hh;have hi:1<=(m.fr i).index:=hi;obtain⟨p1,p2,p3,p4⟩:=c.I.aJ.iO i hF k2 hp;have p2:(m.fr i).index+1=(m.fr (m.vw.pa i)).R9:=p2;have c1:=c.I.aJ.c1 _ K.pF K.k3 (by show 2<=(m.fr (m.vw.pa i)).R9;omega);have cm:m.came i=1048576:=by
   unfold Co.came;rw[K.up];refine(c.C.JY _ K.bp.1 K.bp.2.1 _ 0 U0).trans (Eq.trans ?_ c1);show m.vw.W _=m.vw.W (.f _ (2+4*((m.fr (m.vw.pa i)).R9%2)));rw[show 2+4*(((m.fr i).index-1)%2)+0=2+4*((m.fr (m.vw.pa i)).R9%2)by omega]
  have t3:Decidable.decide (x.aB<m.came i)=true:=decide_eq_true (by rw[cm];omega);unfold Co.rZ;rw[q2,if_pos (by rw[q1,Nat.ble_eq_true_of_le hi,t3];rfl)];obtain⟨C1,V1⟩:=c.C.yX i K.bi.2.1 {m.fr i with fold:=m.came i} rfl rfl;obtain⟨C2,V2⟩:=C1.ak i K.bi.2.1 {m.fr i with fold:=m.came i,due:=true} (c.C.par i);rw[V1]at V2;have F:=c.I.aJ.lW i true (λ_=>k2);have N:=NS.lW (G:=G) (m:=m.vw) k i 0 true ho U0;refine c.good U2 C2 V2 N F U2 U2 ⟨rfl,rfl,rfl⟩ (aO (c.gu U2)) (λ_=>c.dh U2) (.run i rfl hh ho ⟨?_,λ_=>hp⟩)
  show(Sd m.vw.fr i _ i).kind≠3
  rw[Sb];show m.vw.kd i≠3;rw[k2];decide
 |_=>omega
theorem bO.aK{m:Co}(C:bO m)(i p:Nat)(h1:1<=p)(h2:p<=m.pl.fr.toNat)(v:Int):bO (m.aK i p v)/\(m.aK i p v).vw={m.vw with W:=Sd m.vw.W (.f p (2+4*((m.fr i).index%2))) v}:=C.setW p h1 h2 _ 0 U0 v
theorem Ctx.ends(c:Ctx G m ws tm k x)(hs:x.R8=14):Good ws k tm (m.rY x):=by
 have cl:=c.cl
 cases cl with
 |ending i a hI he hw=>
  obtain⟨hh,ho,k2,hp,hd⟩:=hI;have hF:G.Sq i≠ .F:=by rw[ho];exact fO
  have K:=c.Ca hF k2;obtain⟨q1,q2⟩:=c.iter K hh;unfold Co.rY;rw[if_pos q1,q2,K.up];obtain⟨C1,V1⟩:=c.C.aK i (m.vw.pa i) K.bp.1 K.bp.2.1 1048576;obtain⟨C2,V2⟩:=C1.bM i (m.vw.pa i) 4;rw[V1]at V2;have F:=c.I.aJ.fin k i ho k2 hp hd (m.fr i).Sc;have N:=NS.finish (G:=G) (m:=m.vw) k i ho (m.fr i).Sc
  exact c.good U2 C2 V2 N F U2 U2 ⟨rfl,rfl,rfl⟩ (aO (c.gu U2)) (λ_=>c.dh U2) (.pY i ⟨m.pl,m.vw.pa i,(m.fr (m.vw.pa i)).ae,(m.fr i).index+1,1048576,0,0,0,false⟩ rfl ⟨hh,ho,k2,Sb _ _ _,hd⟩ rfl rfl rfl rfl rfl rfl rfl he hw)
 |_=>omega
theorem Ctx.advance(c:Ctx G m ws tm k x)(hs:x.R8=9):Good ws k tm (m.iP x):=by
 have cl:=c.cl
 cases cl with
 |advance i a hI hst hg=>
  obtain⟨hh,ho,k2,hp,hd⟩:=hI;have hF:G.Sq i≠ .F:=by rw[ho];exact fO
  have K:=c.Ca hF k2;obtain⟨q1,q2⟩:=c.iter K hh;have ix:=c.I.aJ.ix i hF k2;obtain⟨p1,p2,p3,p4⟩:=c.I.aJ.iO i hF k2 hp;have sr:=c.I.aJ.au _ K.pF K.k3;unfold Co.iP;rw[if_pos q1,q2,K.up];unfold Co.jN Co.kI;dsimp only;obtain⟨C1,V1⟩:=c.C.aK i (m.vw.pa i) K.bp.1 K.bp.2.1 x.aB;obtain⟨C2,V2⟩:=C1.ak i K.bi.2.1 {m.fr i with Sc:=x.aB} (c.C.par i);have M2l:((m.aK i (m.vw.pa i) x.aB).ak i {m.fr i with Sc:=x.aB}).log=m.log:=rfl;have M2f:∀j,((m.aK i (m.vw.pa i) x.aB).ak i {m.fr i with Sc:=x.aB}).fr j=if j=i then{m.fr i with Sc:=x.aB}else m.fr j:=λj=>Co.kw _ i _ (by show i<m.aJ.length;rw[c.C.eZ];have:=K.bi.2.1;omega) j;obtain⟨ev,hev⟩:∃ev:Ev,ev=⟨if x.gw=true then 3 else 6,(m.fr (m.vw.pa i)).ae,(m.fr i).index,x.aB⟩:=⟨_,rfl⟩;obtain⟨C3,V3⟩:=C2.bM i (m.vw.pa i) (if x.gw=true then 3 else 6);rw[V2,V1,M2l,M2f,M2f,if_neg K.pi,if_pos rfl,<-hev]at V3;have gk:ev.kind≠1/\ev.kind≠4/\True:=by rw[hev];dsimp only;split<;>decide
  have gev:Dw m.log ev:=Or.inr (Or.inr (Or.inl ⟨by rw[hev];dsimp only;split<;>simp,by rw[hev];exact p4,by rw[hev];simp⟩));have ges:ev.loop<=m.ae:=by rw[hev];exact sr.2
  have kst:({m.vw.fr i with Sc:=x.aB}:Fv).Sc≠0:=by show x.aB≠0;have:0<=(m.vw.fr i).Sc:=ix.2.1;omega
  by_cases z:(m.fr i).Sc=0
  ·rw[if_pos z]
   have hI:=c.I.aJ.st0 i hF k2 U2 z;have F1:=c.I.aJ.M8 k i ho k2 hp z (c.gu U2) x.aB (by have:(m.fr i).Sc<x.aB:=hst;omega) hg;have F:=F1.tell ev gk gev ges U68;have N:=(NS.M8 (G:=G) (m:=m.vw) k i ho hI x.aB).trans (NS.tell k ev) (λ_ _=>Or.inr rfl);refine c.good U2 C3 V3 N F U2 U2 ⟨rfl,rfl,rfl⟩ (aO (bu (bu (c.gu U2) (λz=>by cases z)) (λz=>by cases z))) (λ_=>c.dh U2) (.tC (DW.push m.pl x.Sq x.tail (m.vw.pa i)) i (m.vw.pa i) rfl rfl (c.push U2 N _) rfl ((Sm _ _ K.pi).trans (Sb _ _ _)) ?_ rfl hh (Sb _ _ _) ?_ hp ?_ ?_ hg)
   ·intro q
    have q:(Sd m.vw.fr i {m.vw.fr i with Sc:=x.aB} (m.vw.pa i)).kind=2:=q;rw[Sm _ _ K.pi]at q
    have:=K.k3
    unfold Vw.kd at this
    omega
   ·show(Sd m.vw.fr i {m.vw.fr i with Sc:=x.aB} i).kind=2
    rw[Sb];exact k2
   ·show(Sd m.vw.fr i {m.vw.fr i with Sc:=x.aB} i).az=false
    rw[Sb];exact hd
   ·show(Sd m.vw.fr i {m.vw.fr i with Sc:=x.aB} i).Sc≠0
    rw[Sb];exact kst
  ·rw[if_neg z]
   have F1:=c.I.aJ.M9 k i ho k2 hp z x.aB (by have:(m.fr i).Sc<x.aB:=hst;have:0<=(m.vw.fr i).Sc:=ix.2.1;omega) hg;have F:=F1.tell ev gk gev ges U68;have N:=(NS.M9 (G:=G) (m:=m.vw) k i ho x.aB).trans (NS.tell k ev) (λ_ _=>Or.inr rfl);have IR:∀x1:WS,x1.Sa=x.Sa->zJ G {m.vw with W:=Sd m.vw.W (.f (m.vw.pa i) (2+4*((m.fr i).index%2))) x.aB,fr:=Sd m.vw.fr i {m.vw.fr i with Sc:=x.aB},log:=m.log++[ev]} k x1 i 1:=λx1 e=>⟨e.trans hh,ho,by show(Sd m.vw.fr i {m.vw.fr i with Sc:=x.aB} i).kind=2;rw[Sb];exact k2,hp,by show(Sd m.vw.fr i {m.vw.fr i with Sc:=x.aB} i).az=false;rw[Sb];exact hd⟩;have hst2:(Sd m.vw.fr i {m.vw.fr i with Sc:=x.aB} i).Sc≠0:=by rw[Sb];exact kst
   have hpa2:(Sd m.vw.fr i {m.vw.fr i with Sc:=x.aB} i).Sg=m.vw.pa i:=by rw[Sb]
   unfold Co.aL
   by_cases lz:m.lazy=true
   ·have:(((m.aK i (m.vw.pa i) x.aB).ak i {m.fr i with Sc:=x.aB}).bM i (m.vw.pa i) (if x.gw=true then 3 else 6)).lazy=true:=lz
    rw[if_pos this]
    exact c.good U2 C3 V3 N F U2 U2 ⟨rfl,rfl,rfl⟩ (aO (c.gu U2)) (λ_=>c.dh U2) (.wH i rfl (IR _ rfl) hst2 hg)
   ·have:¬(((m.aK i (m.vw.pa i) x.aB).ak i {m.fr i with Sc:=x.aB}).bM i (m.vw.pa i) (if x.gw=true then 3 else 6)).lazy=true:=lz
    rw[if_neg this]
    exact c.good U2 C3 V3 N F U2 U2 ⟨rfl,rfl,rfl⟩ (aO (c.gu U2)) (λ_=>c.dh U2) (.lK i _ rfl (IR _ rfl) hst2 hg rfl rfl rfl rfl rfl (congrArg Int.ofNat hpa2.symm))
 |_=>omega
end
end
section
theorem pI{s it:Int}(h:1<=s):aA s it 0≠0:=by
 unfold aA th
 omega
theorem Pl.pu{a b:Pl}(h:a=b):a.same b=true:=by rw[h];exact Pl.nU _
section
variable {G:Gh} {m:Co} {ws:Nat->Option WS} {tm:Int} {k:Nat} {x:WS}
theorem Us69 {p:Prop} (h:p:=by
 exact c.good U2 C2 V2 N F U2 U2 ⟨rfl,rfl,rfl⟩ (aO (bu (bu hn nF) (λz=>by cases z))) (λ_=>ow.trans o0) (.loop (m.vw.pa i) rfl rfl W K.k3)):p:=h
theorem Us67 {p:Prop} (h:p:=by
 exact c.good U2 (c.C.RY _ rfl rfl) rfl (NS.refl _ _ _) c.I.aJ U2 U2 ⟨rfl,rfl,rfl⟩ (aO (c.gu U2)) (λ_=>c.dh U2) (c.goes U2 (NS.refl _ _ _) rfl rfl)):p:=h
theorem Ctx.asleep(c:Ctx G m ws tm k x)(r:NW){l:Nat}(hl:1<=l/\l<=m.pl.fr.toNat)(h1:r.p=m.pl)(h2:r.id=l):r.asleep m.RY=true↔m.vw.np l=aA r.au r.it 0:=by
 unfold NW.asleep;rw[h1,h2,c.C.nN l hl.1 hl.2,c.C.NR l 1 hl.1 hl.2 U0,beq_iff_eq]
theorem Ctx.QD(c:Ctx G m ws tm k x)(r:NW){l:Nat}(hl:1<=l/\l<=m.pl.fr.toNat)(h1:r.p=m.pl)(h2:r.id=l):(r.asleep m.RY=true->bO {m with RY:=swp m.RY (r.p.nN r.id) (aA r.au r.it 0) 0}/\({m with RY:=swp m.RY (r.p.nN r.id) (aA r.au r.it 0) 0}:Co).vw={m.vw with W:=Sd m.vw.W (.f l 1) 0})/\
  (r.asleep m.RY=false->swp m.RY (r.p.nN r.id) (aA r.au r.it 0) 0=m.RY):=by
 unfold NW.asleep swp;refine⟨λz=>?_,λz=>?_⟩
 ·rw[if_pos z,h1,h2,c.C.nN l hl.1 hl.2]
  exact⟨c.C.set _ _,c.C.oM l 1 hl.1 hl.2 U0 0⟩
 ·rw[if_neg U108]
theorem Ctx.closes(c:Ctx G m ws tm k x)(hs:x.R8=15):Good ws k tm (m.kE x):=by
 have cl:=c.cl
 cases cl with
 |closing i r lk a hI he hw her hr hR hlk hat hwon=>
  obtain⟨hh,ho,k2,hp,hd⟩:=hI;have hF:G.Sq i≠ .F:=by rw[ho];exact fO
  have K:=c.Ca hF k2;obtain⟨r1,r2,r3,r4,r5⟩:=hR;have ht:=c.ht;unfold Co.kE;rw[hr];dsimp only;rw[if_pos ⟨r2,by omega,Pl.pu r1⟩];unfold Co.closes NW.wake;rw[if_neg (by rw[r2];decide)]
  rcases hat with h0|⟨l1,h1|h2⟩
  ·
   rw[if_pos h0];dsimp only;obtain⟨C1,V1⟩:=c.C.setW (m.vw.pa i) K.bp.1 K.bp.2.1 r.it 3 U0 (aA r.au r.it 0);rw[r1,r3];have F:=c.I.aJ.Nq i hF k2 hp (by show(m.fr i).index<=100000;have:=K.ix;have:=K.st;omega);have N:=NS.put (G:=G) (m:=m.vw) k (m.vw.pa i) (5+4*((m.vw.fr i).index%2)) (aA (m.vw.fr (m.vw.pa i)).ae (m.vw.fr i).index 0);have e5:2+4*(r.it%2)+3=5+4*((m.vw.fr i).index%2):=by rw[r5];omega
   have V1:({m with RY:=m.RY.set (m.pl.wN (m.vw.pa i:Nat) r.it 3) (aA r.au r.it 0)}:Co).vw={m.vw with W:=Sd m.vw.W (.f (m.vw.pa i) (5+4*((m.vw.fr i).index%2))) (aA (m.vw.fr (m.vw.pa i)).ae (m.vw.fr i).index 0)}:=by
    rw[<-e5,<-r4,<-r5];exact V1
   by_cases z:lk=true
   ·rw[if_neg U108]
    exact c.good U2 C1 V1 N F U2 U2 ⟨rfl,rfl,rfl⟩ (aO (c.gu U2)) (λ_=>c.dh U2) (.closing i _ lk a ⟨hh,ho,k2,hp,hd⟩ he hw her rfl ⟨rfl,by rw[z];rfl,rfl,r4,r5⟩ hlk (Or.inr ⟨z,Or.inl rfl⟩) hwon)
   ·have z:lk=false:=by simpa using z
    rw[if_pos (by rw[z];rfl)]
    exact c.good U2 C1 V1 N F U2 U2 ⟨rfl,rfl,rfl⟩ (aO (c.gu U2)) (λ_=>c.dh U2) (.drop i rfl ⟨hh,ho,k2,hp,hd⟩ he her (λq=>by have q:r.iG=true:=q;rw[hwon]at q;cases q))
  ·
   rw[if_neg U2,if_pos h1];dsimp only
   by_cases z:r.asleep m.RY=true
   ·rw[if_neg U108]
    exact c.good U2 (c.C.RY _ rfl rfl) rfl (NS.refl _ _ _) c.I.aJ U2 U2 ⟨rfl,rfl,rfl⟩ (aO (c.gu U2)) (λ_=>c.dh U2) (.closing i _ lk a ⟨hh,ho,k2,hp,hd⟩ he hw her rfl ⟨r1,by rw[z];rfl,r3,r4,r5⟩ hlk (Or.inr ⟨l1,Or.inr rfl⟩) hwon)
   ·have z:r.asleep m.RY=false:=by simpa using z
    rw[if_pos (by rw[z];rfl)]
    exact c.good U2 (c.C.RY _ rfl rfl) rfl (NS.refl _ _ _) c.I.aJ U2 U2 ⟨rfl,rfl,rfl⟩ (aO (c.gu U2)) (λ_=>c.dh U2) (.drop i rfl ⟨hh,ho,k2,hp,hd⟩ he her (λq=>by have q:r.iG=true:=q;rw[hwon]at q;cases q))
  ·
   rw[if_neg U2,if_neg U2];dsimp only;rw[if_pos rfl];obtain⟨s1,s2⟩:=c.QD r ⟨K.bp.1,K.bp.2.1⟩ r1 r3
   by_cases z:r.asleep m.RY=true
   ·obtain⟨C1,V1⟩:=s1 z
    have sr:=c.I.aJ.au _ K.pF K.k3;have e:=(c.asleep r ⟨K.bp.1,K.bp.2.1⟩ r1 r3).1 z;obtain⟨n1,n2,n3,n4⟩:=c.I.aJ.ko (m.vw.pa i) K.bp.1 K.bp.2.1 (by rw[e];exact pI (by rw[r4];exact sr.1));have F:=c.I.aJ.I6 k (m.vw.pa i) n1 n2;have N:=NS.I6 (G:=G) (m:=m.vw) k (m.vw.pa i) 0 n2;have ip:i≠m.vw.pa i:=λq=>K.pi q.symm;refine c.good U2 C1 V1 N F U2 U2 ⟨rfl,rfl,rfl⟩ (aO (bu (c.gu U2) (λz=>by cases z))) (λ_=>c.dh U2) (.drop i rfl ⟨hh,(Sm _ _ ip).trans ho,k2,hp,hd⟩ he her (λ_=>⟨?_,Sb _ _ _⟩))
    have:(!x.eh)=true:=by rw[<-hlk];exact l1
    simpa using this
   ·have z:r.asleep m.RY=false:=by simpa using z
    rw[s2 z]
    exact c.good U2 (c.C.RY _ rfl rfl) rfl (NS.refl _ _ _) c.I.aJ U2 U2 ⟨rfl,rfl,rfl⟩ (aO (c.gu U2)) (λ_=>c.dh U2) (.drop i rfl ⟨hh,ho,k2,hp,hd⟩ he her (λq=>by have q:r.asleep m.RY=true:=q;rw[z]at q;cases q))
 |_=>omega
theorem Ctx.dx(c:Ctx G m ws tm k x)(hs:x.R8=20):Good ws k tm (m.sj x):=by
 have cl:=c.cl
 cases cl with
 |gI l r a hh hr r1 r2 r3 r4 l1 l2 s1 s2 i2 hat h0 h2=>
  have ht:=c.ht;unfold Co.sj;rw[hr];dsimp only;rw[if_pos ⟨r2,hat,Pl.pu r1⟩];unfold Co.dx NW.gI;rw[if_neg (by rw[r2];decide)]
  rcases hat with q|q|q
  ·rw[if_pos q]
   dsimp only;rw[if_neg U0,r1,r4];obtain⟨ho,k3,e1,e2⟩:=h0 q;obtain⟨o1,o2,o3,o4⟩:=c.okW ho;have F:=c.I.aJ.Ou k l k3 ho U2 (c.gu U2);have N:=NS.Ou (G:=G) (m:=m.vw) k l (aA (m.vw.fr l).ae ((m.vw.fr l).R9-1:Nat) 0) ho;have C1:bO {m with RY:=m.RY.set (m.pl.nN (l:Nat)) (aA r.au r.it 0)}:=c.C.set _ _;have V1:({m with RY:=m.RY.set (m.pl.nN (l:Nat)) (aA r.au r.it 0)}:Co).vw={m.vw with W:=Sd m.vw.W (.f l 1) (aA (m.vw.fr l).ae ((m.vw.fr l).R9-1:Nat) 0)}:=by
    rw[c.C.nN l l1 l2,<-e1,show((m.vw.fr l).R9-1:Nat)=r.it by omega]
    exact c.C.oM l 1 l1 l2 U0 _
   exact c.good U2 C1 V1 N F U2 U2 ⟨rfl,rfl,rfl⟩ (aO (bu (c.gu U2) (λz=>by cases z))) (λ_=>c.dh U2) (.gI l _ a hh rfl rfl rfl r3 rfl l1 l2 s1 s2 i2 (Or.inr (Or.inl rfl)) (λz=>absurd (show(1:Int)=0 from z) U0) (λz=>absurd (show(1:Int)=2 from z) U0))
  ·rw[if_neg U2,if_pos q]
   dsimp only
   by_cases z:r.ended m.RY=true
   ·rw[if_neg U108]
    have fin:Fin m.log r.au r.it:=by
     have e:m.vw.dn l (r.it%2)=aA r.au r.it 0:=by
      have z:=z;unfold NW.ended at z;rw[r1,r4,beq_iff_eq]at z;have g:=c.C.JY l l1 l2 r.it 3 U0;rw[show 2+4*(r.it%2)+3=5+4*(r.it%2)by omega]at g
      exact g.symm.trans z
     obtain⟨s,it,a1,a2,a3,a4,a5,a6⟩:=c.I.aJ.dn l (r.it%2) l1 l2 U2 (by rw[e];exact pI s1);rw[e]at a5;have sr:=c.I.aJ.sr
     have:=qW (s:=r.au) (s':=s) (it:=r.it) (it':=it) U2 U2 U2 U2 U2 U2 U2 U2 a5
     rw[this.1,this.2]
     exact a6
    exact c.good U2 (c.C.RY _ rfl rfl) rfl (NS.refl _ _ _) c.I.aJ U2 U2 ⟨rfl,rfl,rfl⟩ (aO (c.gu U2)) (λ_=>c.dh U2) (.gI l _ a hh rfl r1 (by rw[z];rfl) r3 r4 l1 l2 s1 s2 i2 (Or.inr (Or.inr rfl)) (λz=>absurd (show(2:Int)=0 from z) U0) (λ_=>fin))
   ·have z:r.ended m.RY=false:=by simpa using z
    rw[if_pos (by rw[z];rfl),if_neg (by rw[r3];decide)]
    exact Us67
  ·rw[if_neg U2,if_neg U2]
   dsimp only;rw[if_pos rfl];obtain⟨w1,w2⟩:=c.QD r ⟨l1,l2⟩ r1 r4
   by_cases z:r.asleep m.RY=true
   ·rw[if_pos z]
    obtain⟨C1,V1⟩:=w1 z;have e:=(c.asleep r ⟨l1,l2⟩ r1 r4).1 z;obtain⟨n1,n2,n3,n4⟩:=c.I.aJ.ko l l1 l2 (by rw[e];exact pI s1);have F:=c.I.aJ.I5 k l n1 n2;have N:=NS.I5 (G:=G) (m:=m.vw) k l 0 n2;have lF:G.Sq l≠ .F:=by rw[n2];exact λz=>by cases z
    have sr:=c.I.aJ.au l lF n1;have st:=c.I.aJ.jG l lF n1;have sm:=c.I.aJ.sr;rw[e]at n4
    have:=qW (s:=r.au) (s':=(m.vw.fr l).ae) (it:=r.it) (it':=((m.vw.fr l).R9-1:Nat)) U2 U2 U2 U2 U2 U2 U2 U2 n4
    have fin:=h2 q;rw[this.1,this.2]at fin
    exact c.good U2 C1 V1 N F U2 U2 ⟨rfl,rfl,rfl⟩ (aO (bu (c.gu U2) (λz=>by cases z))) (λ_=>c.dh U2) (.start l rfl hh (Sb _ _ _) n1 n3 fin)
   ·have z':r.asleep m.RY=false:=by simpa using z
    rw[if_neg z,w2 z']
    exact Us67
 |_=>omega
theorem Ctx.finish(c:Ctx G m ws tm k x)(hs:x.R8=17):Good ws k tm (m.kF x):=by
 have cl:=c.cl
 cases cl with
 |finish l a hh ho k3=>
  obtain⟨o1,o2,o3,o4⟩:=c.okW ho;obtain⟨C1,V1⟩:=c.C.leave l o2 o3 (c.jn (by rw[ho];exact fO));have hl:=c.C.last l o2 o3;unfold Co.kF;rw[hh]
  by_cases q:m.last l=true
  ·rw[if_pos q]
   have F:=c.I.aJ.qG k l ho (c.gu U2) (hl.1 q)
   exact c.good U2 C1 V1 (NS.qG k l ho) F U2 U2 ⟨rfl,rfl,rfl⟩ (aO (bu (c.gu U2) (λz=>by cases z))) (λ_=>c.dh U2) (.complete l rfl rfl (Sb _ _ _) k3)
  ·rw[if_neg q]
   have F:=c.I.aJ.lU k l ho (c.gu U2)
   exact c.good U2 C1 V1 (NS.lU k l ho) F U2 U2 ⟨rfl,rfl,rfl⟩ (aO (bu (c.gu U2) (λz=>by cases z))) (λ_=>c.dh U2) (c.goes U2 (NS.lU k l ho) rfl rfl)
 |_=>omega
theorem Ctx.complete(c:Ctx G m ws tm k x)(hs:x.R8=18):Good ws k tm (m.gF x):=by
 have cl:=c.cl
 cases cl with
 |complete l a hh ho k3=>
  have lF:G.Sq l≠ .F:=by rw[ho];exact fO
  obtain⟨o1,o2,o3,o4⟩:=c.okW ho;obtain⟨p1,p2,p3⟩:=c.I.aJ.loop l lF k3;have pF:G.Sq (m.vw.pa l)≠ .F:=by rw[p1];exact λz=>by cases z
  obtain⟨q1,q2,q3,q4⟩:=c.ok pF;have pl:m.vw.pa l≠l:=λz=>by rw[z]at p2;exact p2 k3
  have e0:x.Sa.toNat=l:=by rw[hh];rfl
  have par:=c.C.up l;have ep:(m.fr l).Sg.toNat=m.vw.pa l:=rfl;have few:=c.I.aJ.few;have ht:=c.ht;unfold Co.gF;rw[if_pos (Co.bJ o1 hh),e0];unfold Co.completes;rw[if_pos ⟨c.C.gG,by have:(m.log.length:Int)<=tm:=few;omega,by rw[ep];exact q1,by rw[ep];exact pl,by rw[ep];exact par.symm⟩,ep];have C0:bO (m.ended l):=c.C.other rfl rfl rfl rfl rfl rfl rfl rfl;obtain⟨C1,V1⟩:=C0.yX (m.vw.pa l) q3 {m.fr (m.vw.pa l)with rg:=(m.fr l).rg} rfl rfl;obtain⟨C2,V2⟩:=C1.Si l (by rw[V1];exact(c.I.aJ.hld l).2 lF);rw[V1]at V2;have F:=c.I.aJ.complete k l ho k3 (c.gu U2) 0;have N:=NS.complete (G:=G) (m:=m.vw) k l ho p1 (Ev.mk 5 (m.vw.fr l).ae (m.vw.fr l).R9 0);refine c.good U2 C2 V2 N F U2 U2 ⟨rfl,rfl,rfl⟩ (aO (bu (bu (c.gu U2) (λz=>by cases z)) (λz=>by cases z))) (λ_=>c.dh U2) (.run (m.vw.pa l) rfl par (Sb _ _ _) ⟨p2,p3⟩)
 |_=>omega
theorem Ctx.drop(c:Ctx G m ws tm k x)(hs:x.R8=16):Good ws k tm (m.rX x):=by
 have cl:=c.cl
 cases cl with
 |drop i a hI he her hew=>
  obtain⟨hh,ho,k2,hp,hd⟩:=hI;have hF:G.Sq i≠ .F:=by rw[ho];exact fO
  have K:=c.Ca hF k2;obtain⟨q1,q2⟩:=c.iter K hh;have hn:=c.gu (x:=x) U2;have o1:=(c.I.aJ.jq i hF k2 hp).1;obtain⟨C1,V1⟩:=c.C.Si i ((c.I.aJ.hld i).2 hF);have jb:=c.jn K.pF;have ej:(m.Si i).vw.jn (m.vw.pa i)=m.vw.jn (m.vw.pa i):=by rw[V1]
  obtain⟨C2,V2⟩:=C1.leave (m.vw.pa i) K.bp.1 K.bp.2.1 (by rw[ej];exact jb);have hl:=C1.last (m.vw.pa i) K.bp.1 K.bp.2.1;rw[ej]at hl;have V2:((m.Si i).leave (m.vw.pa i)).vw={m.vw with W:=Sd m.vw.W (.f (m.vw.pa i) 0) (m.vw.jn (m.vw.pa i)-1),Sj:=Sd m.vw.Sj i false}:=by
   rw[V2,ej,V1];rfl
  have ib:i<2000:=by have:=K.bi;omega
  have ow:∀{o:Nat->Nat},Sd o i 0 (2000+k)=o (2000+k):=λ{o}=>Sm _ _ U2;have o0:=c.dh (x:=x) U2;have pi:m.vw.pa i≠i:=K.pi;have nF:aY.F≠ .W k 3:=λz=>by cases z
  unfold Co.rX;rw[if_pos (by rw[q1,decide_eq_true c.C.gG];rfl),q2];unfold Co.drops;rw[K.up]
  by_cases h1:x.eh=true
  ·rw[if_pos h1]
   have st:=he.1 h1;have hI:=c.I.aJ.st0 i hF k2 U2 st;have F:=c.I.aJ.El k i ho k2 hp hd hn st;have N:=NS.El (G:=G) (m:=m.vw) k i ho ib hI;have W:Sd (Sd G.Sq i .F) (m.vw.pa i) (.W k 0) (m.vw.pa i)=.W k 0:=Sb _ _ _
   by_cases h2:x.eb=true
   ·rw[if_pos h2]
    exact c.good U2 C2 V2 N F U2 U2 ⟨rfl,rfl,rfl⟩ (aO (bu (bu hn nF) (λz=>by cases z))) (λ_=>ow.trans o0) (.finish (m.vw.pa i) rfl rfl W K.k3)
   ·rw[if_neg h2]
    exact Us69
  ·rw[if_neg h1]
   have st:(m.vw.fr i).Sc≠0:=λz=>h1 (he.2 z)
   by_cases h2:(m.Si i).last (m.vw.pa i)=true
   ·rw[if_pos h2]
    have j1:=hl.1 h2;have hS:=c.I.aJ.tT U2 o1 K.pF j1;have F:=c.I.aJ.Em k i ho k2 hp hd hn st j1;have N:=NS.Em (G:=G) (m:=m.vw) k i ho ib hS
    exact c.good U2 C2 V2 N F U2 U2 ⟨rfl,rfl,rfl⟩ (aO (bu (bu hn nF) (λz=>by cases z))) (λ_=>ow.trans o0) (.complete (m.vw.pa i) rfl rfl (Sb _ _ _) K.k3)
   ·rw[if_neg h2,if_pos her]
    by_cases h3:x.ew=true
    ·rw[if_pos h3]
     have hW:=(hew h3).2;have F:=c.I.aJ.Eo k i ho k2 hp hd hn st hW;have N:=NS.Eo (G:=G) (m:=m.vw) k i ho ib hW;have W:Sd (Sd G.Sq i .F) (m.vw.pa i) (.W k 0) (m.vw.pa i)=.W k 0:=Sb _ _ _;have ok:((m.Si i).leave (m.vw.pa i)).ok (m.vw.pa i):=C2.has (by rw[V2];show Sd m.vw.Sj i false (m.vw.pa i)=true;rw[Sm _ _ pi];exact(c.I.aJ.hld _).2 K.pF);rw[if_pos ok];have k3:(m.fr (m.vw.pa i)).kind=3:=K.k3;unfold WS.takes;rw[if_pos k3]
     exact Us69
    ·rw[if_neg h3]
     have F:=c.I.aJ.En k i ho k2 hp hd hn st;have N:=NS.En (G:=G) (m:=m.vw) k i ho ib
     exact c.good U2 C2 V2 N F U2 U2 ⟨rfl,rfl,rfl⟩ (aO (bu hn nF)) (λ_=>ow.trans o0) (c.goes U2 N rfl rfl)
 |_=>omega
end
end
section
section
variable {G:Gh} {m:Co} {ws:Nat->Option WS} {tm:Int} {k:Nat} {x:WS}
theorem Ctx.stop(c:Ctx G m ws tm k x){m1:Co}(C1:bO m1)(hl:Be m1.log)(a b:Int)(ha:a≠0)(x':WS):Good ws k tm (some (m1.stop a b,x')):=by
 unfold Co.stop
 split
 ·exact⟨_,_,rfl,C1.other rfl rfl rfl rfl rfl rfl rfl rfl,hl,Or.inl ha⟩
 ·rename_i h
  exact⟨_,_,rfl,C1,hl,Or.inl h⟩
theorem bO.free{m:Co}{j:Nat}{V:Vw}{t:Int}(e:m.vw=V)(F:bP G V t)(h:m.vw.Sj j=false):G.Sq j=.F:=by
 cases q:G.Sq j with
 |F=>rfl
 |_=>have:=(F.hld j).2 U65;rw[<-e,h]at this;cases this
theorem Ctx.starts(c:Ctx G m ws tm k x)(hx:x.R8≠1/\x.R8≠2/\x.R8≠3/\x.R8≠6/\x.R8≠7/\x.R8≠22/\x.R8≠23/\x.R8≠24){l:Nat}(hh:x.Sa=l)(ho:G.Sq l=.W k 0)(k3:m.vw.kd l=3)(h3:(m.vw.fr l).R9=0∨Fin m.vw.log (m.vw.fr l).ae ((m.vw.fr l).R9-1:Nat)):Good ws k tm (m.starts x l):=by
 have lF:G.Sq l≠ .F:=by rw[ho];exact fO
 obtain⟨o1,o2,o3,o4⟩:=c.okW ho;have st:((m.fr l).R9:Int)<=tm:=c.I.aJ.jG l lF k3;have ht:=c.ht;unfold Co.starts;rw[if_pos ⟨c.C.gG,by omega⟩]
 cases hp:m.pick with
 |none=>exact c.stop c.C c.wm _ _ U0 _
 |some q=>
  obtain⟨j,B,n⟩:=q;obtain⟨j1,j2,j3,_⟩:=c.C.pick hp;have jF:=bO.free rfl c.I.aJ j3;have jl:j≠l:=λz=>lF (z▸jF);have hb:=c.C.NM;obtain⟨C1,V1⟩:=c.C.made hp ((m.fr l).iter l) (by show(0:Int)<=(l:Int);omega);obtain⟨C2,V2⟩:=C1.ak l o3 {m.fr l with R9:=(m.fr l).R9+1} (c.C.par l);rw[V1]at V2;have F:=c.I.aJ.start k l j ho jF j1 j2 U2 (c.gu U2) k3 h3;have N:=NS.start (G:=G) (m:=m.vw) k l j ho jF;dsimp only;rw[if_pos jl];have lj:l≠j:=λz=>jl z.symm;refine c.good U2 C2 V2 N F U2 U2 ⟨rfl,rfl,rfl⟩ (λi z=>?_) (λ_=>c.dh U2) (.begins l j (Or.inl rfl) hh rfl ((Sm _ _ lj).trans ho) (Sb _ _ _) ?_ ?_ ?_ (Sb _ _ _) (F.dC j k (Sb _ _ _)))
  ·refine⟨Or.inr (Or.inl rfl),?_⟩
   have z:Sd G.Sq j (.W k 3) i=.W k 3:=z;unfold Sd at z
   split at z
   ·rename_i e;rw[e]
   ·exact absurd z (c.gu U2 i)
  ·show(Sd (Sd m.vw.fr j _) l _ l).kind=3
   rw[Sb];exact k3
  ·exact congrArg Fv.kind ((Sm (Sd m.vw.fr j ⟨2,l,false,false,(m.vw.fr l).R9,0,0,0⟩) _ jl).trans (Sb _ _ _))
  ·exact congrArg Fv.Sg ((Sm (Sd m.vw.fr j ⟨2,l,false,false,(m.vw.fr l).R9,0,0,0⟩) _ jl).trans (Sb _ _ _))
theorem Ctx.start(c:Ctx G m ws tm k x)(hs:x.R8=21):Good ws k tm (m.nA x):=by
 have cl:=c.cl
 cases cl with
 |start l a hh ho k3 h1 hf=>
  obtain⟨o1,o2,o3,o4⟩:=c.okW ho;have e0:x.Sa.toNat=l:=by rw[hh];rfl
  unfold Co.nA;rw[if_pos (Co.bJ o1 hh),e0]
  exact c.starts U2 hh ho k3 (Or.inr hf)
 |begins l c' h=>omega
 |_=>omega
theorem Ctx.loop(c:Ctx G m ws tm k x)(hs:x.R8=19):Good ws k tm (m.r9 x):=by
 have cl:=c.cl
 cases cl with
 |loop l a hh ho k3=>
  have lF:G.Sq l≠ .F:=by rw[ho];exact fO
  obtain⟨o1,o2,o3,o4⟩:=c.okW ho;have e0:x.Sa.toNat=l:=by rw[hh];rfl
  have st:((m.fr l).R9:Int)<=tm:=c.I.aJ.jG l lF k3;have ht:=c.ht;have th:=c.C.Sn.2.1;have sr:=c.I.aJ.au l lF k3;have sm:=c.I.aJ.sr;unfold Co.r9;rw[if_pos (Co.bJ o1 hh),e0];unfold Co.loops;rw[if_pos U2]
  by_cases h0:((m.fr l).R9:Int)<m.pl.th
  ·rw[if_pos h0]
   exact c.starts U2 hh ho k3 (Or.inl (by show(m.fr l).R9=0;omega))
  ·rw[if_neg h0]
   have e1:(m.fr l).R9-m.pl.th.toNat=(m.fr l).R9-1:=by rw[th];rfl
   rw[e1]
   by_cases h1:m.vM l ((m.fr l).R9-1)=true
   ·rw[if_pos h1]
    refine c.good U2 c.C rfl (NS.refl _ _ _) c.I.aJ U2 U2 ⟨rfl,rfl,rfl⟩ (aO (c.gu U2)) (λ_=>c.dh U2) (.start l rfl hh ho k3 (by show 1<=(m.fr l).R9;omega) ?_);unfold Co.vM at h1;rw[beq_iff_eq]at h1;have g:=c.C.JY l o2 o3 ((m.fr l).R9-1) 3 U0;rw[show 2+4*(((m.fr l).R9-1)%2)+3=5+4*(((m.fr l).R9-1)%2)by omega]at g;have e:m.vw.dn l (((m.fr l).R9-1)%2)=aA (m.fr l).ae (((m.fr l).R9-1:Nat):Int) 0:=g.symm.trans h1;obtain⟨s,it,a1,a2,a3,a4,a5,a6⟩:=c.I.aJ.dn l (((m.fr l).R9-1)%2) o2 o3 U2 (by rw[e];exact pI sr.1);rw[e]at a5;have sr1:1<=(m.fr l).ae:=sr.1;have sr2:(m.fr l).ae<=m.vw.ae:=sr.2;have q:=qW (s:=(m.fr l).ae) (s':=s) (it:=(((m.fr l).R9-1:Nat):Int)) (it':=it) U2 U2 U2 U2 U2 U2 U2 U2 a5;rw[<-q.1,<-q.2]at a6
    exact a6
   ·rw[if_neg h1]
    refine c.good U2 (c.C.other rfl rfl rfl rfl rfl rfl rfl rfl) rfl (NS.refl _ _ _) c.I.aJ U2 U2 ⟨rfl,rfl,rfl⟩ (aO (c.gu U2)) (λ_=>c.dh U2) (.gI l _ rfl rfl rfl rfl rfl rfl rfl o2 o3 sr.1 sr.2 (by show(m.fr l).R9-1<=100000;omega) (Or.inl rfl) (λ_=>⟨ho,k3,rfl,by show(m.fr l).R9-1+1=(m.fr l).R9;omega⟩) (λz=>absurd (show(0:Int)=2 from z) U0))
 |_=>omega
theorem Ctx.count(c:Ctx G m ws tm k x)(hs:x.R8=22):Good ws k tm (m.mZ x):=by
 have cl:=c.cl
 cases cl with
 |begins l j a hh hoj ho hj k3 k2 pj p0 oj=>
  obtain⟨o1,o2,o3,o4⟩:=c.okW ho;obtain⟨j1,j2,j3,j4⟩:=c.okW hj;have e0:x.Sa.toNat=l:=by rw[hh];rfl
  have e1:x.other.toNat=j:=by rw[hoj];rfl
  unfold Co.mZ;rw[if_pos U100,e0,e1];obtain⟨C1,V1⟩:=c.C.setW l o2 o3 (m.fr j).index 0 U0 0;have F:=c.I.aJ.count k j hj k2 p0;rw[pj]at F
  exact c.good U2 C1 V1 (NS.put k l _ 0) F U2 U2 ⟨rfl,rfl,rfl⟩ (λi z=>⟨Or.inr (Or.inr (Or.inl rfl)),(c.idle.2.2.2.2.1 i z).2⟩) (λ_=>c.dh U2) (.begins l j (Or.inr (Or.inl rfl)) hh hoj ho hj k3 k2 pj p0 oj)
 |_=>omega
theorem Ctx.name(c:Ctx G m ws tm k x)(hs:x.R8=23):Good ws k tm (m.si x):=by
 have cl:=c.cl
 cases cl with
 |begins l j a hh hoj ho hj k3 k2 pj p0 oj=>
  obtain⟨o1,o2,o3,o4⟩:=c.okW ho;obtain⟨j1,j2,j3,j4⟩:=c.okW hj;have e0:x.Sa.toNat=l:=by rw[hh];rfl
  have e1:x.other.toNat=j:=by rw[hoj];rfl
  unfold Co.si;rw[if_pos U100,e0,e1];obtain⟨C1,V1⟩:=c.C.setW l o2 o3 (m.fr j).index 2 U0 j;have F:=c.I.aJ.link l ((m.fr j).index%2) j;rw[show 4+4*((m.fr j).index%2)=2+4*((m.fr j).index%2)+2 by omega]at F
  exact c.good U2 C1 V1 (NS.put k l _ _) F U2 U2 ⟨rfl,rfl,rfl⟩ (λi z=>⟨Or.inr (Or.inr (Or.inr rfl)),(c.idle.2.2.2.2.1 i z).2⟩) (λ_=>c.dh U2) (.begins l j (Or.inr (Or.inr rfl)) hh hoj ho hj k3 k2 pj p0 oj)
 |_=>omega
theorem Ctx.joins(c:Ctx G m ws tm k x)(hs:x.R8=24):Good ws k tm (m.ng x):=by
 have cl:=c.cl
 cases cl with
 |begins l j a hh hoj ho hj k3 k2 pj p0 oj=>
  have ht:=c.ht;obtain⟨o1,o2,o3,o4⟩:=c.okW ho;obtain⟨j1,j2,j3,j4⟩:=c.okW hj;have e0:x.Sa.toNat=l:=by rw[hh];rfl
  have e1:x.other.toNat=j:=by rw[hoj];rfl
  have jl:j≠l:=by rintro rfl;rw[ho]at hj;cases hj
  have eu:m.up j=l:=pj;have par:(m.fr j).Sg=(l:Int):=by rw[c.C.up j,pj]
  have few:=c.I.aJ.few;unfold Co.ng;rw[if_pos (by rw[Co.bJ o1 hh,Co.bJ j1 hoj,e1,Co.bJ o1 par,Nat.ble_eq_true_of_le (by have:(m.log.length:Int)<=tm:=few;omega)];rfl),hh,e1,eu];obtain⟨C1,V1⟩:=c.C.spawn l o2 o3 (c.jn (by rw[ho];exact fO));obtain⟨C2,V2⟩:=C1.bM j l 1;obtain⟨C3,V3⟩:=C2.bM j l 2;rw[V2,V1]at V3;have F:=c.I.aJ.joins k l j ho hj k3 k2 pj p0 (λg z=>by have:=(c.idle.2.2.2.2.1 g z).2;rw[hoj]at this;omega) (m.fr j).Sc (m.fr j).Sc;have N:=NS.joins (G:=G) (m:=m.vw) k l j ho hj U2 (Ev.mk 1 (m.vw.fr l).ae (m.vw.fr j).index (m.fr j).Sc) (Ev.mk 2 (m.vw.fr l).ae (m.vw.fr j).index (m.fr j).Sc);refine c.good U2 C3 V3 N F U2 U2 ⟨rfl,rfl,rfl⟩ (λi z=>?_) (λ_=>(Sm _ _ U2).trans (c.dh U2)) (.run j rfl hoj ((Sm _ _ jl).trans (Sb _ _ _)) ⟨?_,λ_=>Sb _ _ _⟩)
  ·exfalso
   have z:Sd (Sd G.Sq j (.W k 0)) l (.I j) i=.W k 3:=z;unfold Sd at z
   split at z
   ·cases z
   ·split at z
    ·cases z
    ·rename_i e
     have:=(c.idle.2.2.2.2.1 i z).2
     rw[hoj]at this
     exact e U2
  ·show m.vw.kd j≠3
   rw[k2];decide
 |_=>omega
end
end
section
theorem Us40 {p:Prop} (h:p:=by
 rw[if_neg z];obtain⟨r1,r2,r3,r4⟩:=c.regs c.C rfl iF k2 (m.fr i).rg;rw[if_pos ⟨r1,r2,r3⟩];obtain⟨C1,V1⟩:=r4 _ rfl
 exact c.good U2 C1 V1 (NS.refl _ _ _) c.I.aJ U2 U2 ⟨rfl,rfl,rfl⟩ (aO (c.gu U2)) (λ_=>c.dh U2) (.ending i rfl ⟨R.hh,ho,k2,R.hr.2 k2,hd⟩ ⟨λ_=>by show(m.fr i).Sc=0;omega,λ_=>rfl⟩ rfl)):p:=h
theorem Gf(op A a b c ra:Int):0<=(Sp.yM op A a b c ra).kind/\(Sp.yM op A a b c ra).kind<=12:=by
 unfold Sp.yM
 by_cases h0:op=13
 ·rw[if_pos h0];exact⟨(by decide:(0:Int)<=1),(by decide:(1:Int)<=12)⟩
 rw[if_neg h0]
 by_cases h1:op=14
 ·rw[if_pos h1];exact⟨(by decide:(0:Int)<=2),(by decide:(2:Int)<=12)⟩
 rw[if_neg h1]
 by_cases h2:op=15
 ·rw[if_pos h2];exact⟨(by decide:(0:Int)<=3),(by decide:(3:Int)<=12)⟩
 rw[if_neg h2]
 by_cases h3:op=16
 ·rw[if_pos h3];exact⟨(by decide:(0:Int)<=4),(by decide:(4:Int)<=12)⟩
 rw[if_neg h3]
 by_cases h4:op=17
 ·rw[if_pos h4];exact⟨(by decide:(0:Int)<=5),(by decide:(5:Int)<=12)⟩
 rw[if_neg h4]
 by_cases h5:op=20
 ·rw[if_pos h5];exact⟨(by decide:(0:Int)<=6),(by decide:(6:Int)<=12)⟩
 rw[if_neg h5]
 by_cases h6:op=21
 ·rw[if_pos h6];exact⟨(by decide:(0:Int)<=7),(by decide:(7:Int)<=12)⟩
 rw[if_neg h6]
 by_cases h7:op=22
 ·rw[if_pos h7];exact⟨(by decide:(0:Int)<=8),(by decide:(8:Int)<=12)⟩
 rw[if_neg h7]
 by_cases h8:op=23
 ·rw[if_pos h8];exact⟨(by decide:(0:Int)<=9),(by decide:(9:Int)<=12)⟩
 rw[if_neg h8]
 by_cases h9:op=24
 ·rw[if_pos h9];exact⟨(by decide:(0:Int)<=10),(by decide:(10:Int)<=12)⟩
 rw[if_neg h9]
 by_cases h10:op=25
 ·rw[if_pos h10];exact⟨(by decide:(0:Int)<=11),(by decide:(11:Int)<=12)⟩
 rw[if_neg h10]
 by_cases h11:op=0
 ·rw[if_pos h11];exact⟨(by decide:(0:Int)<=12),(by decide:(12:Int)<=12)⟩
 rw[if_neg h11]
 exact⟨(by decide:(0:Int)<=0),(by decide:(0:Int)<=12)⟩
theorem BH(op A B C:Int)(R:Sp.Rg):0<=(Sp.lM op A B C R).kind/\(Sp.lM op A B C R).kind<=12:=by
 unfold Sp.lM
 split
 ·exact⟨(by decide:(0:Int)<=0),(by decide:(0:Int)<=12)⟩
 ·exact Gf _ _ _ _ _ _
section
variable {G:Gh} {m:Co} {ws:Nat->Option WS} {tm:Int} {k:Nat} {x:WS}
structure xJ(G:Gh)(m:Co)(k:Nat)(x:WS)(i:Nat):Prop where
 st:x.R8=4
 hh:x.Sa=i
 ho:G.Sq i=.W k 0
 hr:Run G m.vw i
theorem Ctx.Rt(c:Ctx G m ws tm k x){i:Nat}(R:xJ G m k x i){m':Co}{V':Vw}(C':bO m')(e:m'.vw=m.vw):Good ws k tm (some (m',x)):=by
 have h:=R.st
 exact c.good U2 C' e (NS.refl _ _ _) c.I.aJ U2 U2 ⟨rfl,rfl,rfl⟩ (aO (c.gu U2)) (λ_=>c.dh U2) (.run i R.st R.hh R.ho R.hr)
theorem Ctx.fork(c:Ctx G m ws tm k x){i:Nat}(R:xJ G m k x i)(pc fn:Int):Good ws k tm (m.fork x i pc fn):=by
 have h:=R.st;have ho:=R.ho;have iF:G.Sq i≠ .F:=by rw[ho];exact fO
 obtain⟨o1,o2,o3,o4⟩:=c.okW ho;have hb:=c.C.NM;unfold Co.fork;rw[if_pos c.C.gG]
 cases hp:m.pick with
 |none=>exact c.stop c.C c.wm _ _ U0 _
 |some q=>
  obtain⟨j,B,n⟩:=q;obtain⟨j1,j2,j3,_⟩:=c.C.pick hp;have jF:=bO.free rfl c.I.aJ j3;have jl:j≠i:=λz=>iF (z▸jF);have lj:i≠j:=λz=>jl z.symm;obtain⟨C1,V1⟩:=c.C.made hp ((m.fr i).child i fn) (by show(0:Int)<=(i:Int);omega);obtain⟨C2,V2⟩:=C1.ak i o3 {m.fr i with pc:=pc,az:=true} (c.C.par i);rw[V1]at V2;have F:=c.I.aJ.fork k i j ho jF j1 j2 U2 R.hr.1 R.hr.2;have N:=NS.fork (G:=G) (m:=m.vw) k i j ho jF;dsimp only;rw[if_pos jl];refine c.good U2 C2 V2 N F U2 U2 ⟨rfl,rfl,rfl⟩ (λg z=>?_) (λ_=>c.dh U2) (.spawn i j rfl R.hh rfl ((Sm _ _ lj).trans ho) (Sb _ _ _) ⟨?_,?_⟩ ?_ ?_ (F.dC j k (Sb _ _ _)) ?_)
  ·refine⟨Or.inl rfl,?_⟩
   have z:Sd G.Sq j (.W k 3) g=.W k 3:=z;unfold Sd at z
   split at z
   ·rename_i e;rw[e]
   ·exact absurd z (c.gu U2 g)
  ·have:=congrArg Fv.kind (Sb (Sd m.vw.fr j ⟨1,i,false,false,0,0,0,0⟩) i {m.vw.fr i with az:=true})
   exact λz=>R.hr.1 (this.symm.trans z)
  ·have:=congrArg Fv.kind (Sb (Sd m.vw.fr j ⟨1,i,false,false,0,0,0,0⟩) i {m.vw.fr i with az:=true})
   exact λz=>R.hr.2 (this.symm.trans z)
  ·exact congrArg Fv.kind ((Sm (Sd m.vw.fr j ⟨1,i,false,false,0,0,0,0⟩) _ jl).trans (Sb _ _ _))
  ·exact congrArg Fv.Sg ((Sm (Sd m.vw.fr j ⟨1,i,false,false,0,0,0,0⟩) _ jl).trans (Sb _ _ _))
  ·exact congrArg Fv.az (Sb (Sd m.vw.fr j ⟨1,i,false,false,0,0,0,0⟩) i {m.vw.fr i with az:=true})
theorem Ctx.pipe(c:Ctx G m ws tm k x){i:Nat}(R:xJ G m k x i)(pc fn:Int):Good ws k tm (m.pipe x i pc fn):=by
 have h:=R.st;have ho:=R.ho;have iF:G.Sq i≠ .F:=by rw[ho];exact fO
 obtain⟨o1,o2,o3,o4⟩:=c.okW ho;have hb:=c.C.NM;have sr:0<=m.ae/\m.ae<=tm:=c.I.aJ.sr;have ht:=c.ht;have w:wrap64 (m.ae+1)=m.ae+1:=wrap_small U2 U2;have C0:bO {m with ae:=m.ae+1}:=c.C.other rfl rfl rfl rfl rfl rfl rfl rfl;unfold Co.pipe;rw[if_pos c.C.gG,w]
 cases hp:m.pick with
 |none=>exact c.stop C0 c.wm _ _ U0 _
 |some q=>
  obtain⟨j,B,n⟩:=q;obtain⟨j1,j2,j3,_⟩:=c.C.pick hp;have jF:=bO.free rfl c.I.aJ j3;have jl:j≠i:=λz=>iF (z▸jF);have lj:i≠j:=λz=>jl z.symm;have hp0:({m with ae:=m.ae+1}:Co).pick=some (j,B,n):=hp;obtain⟨C1,V1⟩:=C0.made hp0 ((m.fr i).loop i fn (m.ae+1)) (by show(0:Int)<=(i:Int);omega);have fi:((({m with ae:=m.ae+1}:Co).made j B n ((m.fr i).loop i fn (m.ae+1))).fr i)=m.fr i:=by
   show(m.aJ.set j _).getD i aM=m.aJ.getD i aM
   simp[List.getD,List.getElem?_set_ne jl]
  obtain⟨C2,V2⟩:=C1.yX i o3 {m.fr i with pc:=pc} (by rw[fi]) (by rw[fi];rfl);rw[V1]at V2;have F:=c.I.aJ.pipe k i j ho jF j1 j2 U2 (c.gu U2) R.hr.1 R.hr.2;have N:=NS.pipe (G:=G) (m:=m.vw) k i j ho jF;dsimp only;rw[if_pos jl]
  exact c.good U2 C2 V2 N F U2 U2 ⟨rfl,rfl,rfl⟩ (aO (bu (bu (c.gu U2) (λz=>by cases z)) (λz=>by cases z))) (λ_=>c.dh U2) (.loop j rfl rfl ((Sm _ _ jl).trans (Sb _ _ _)) (congrArg Fv.kind (Sb m.vw.fr j ⟨3,i,false,false,0,0,0,m.ae+1⟩)))
theorem Ctx.regs(c:Ctx G m ws tm k x){m1:Co}(C1:bO m1)(e1:m1.vw=m.vw){i:Nat}(hF:G.Sq i≠ .F)(k2:m.vw.kd i=2)(r:Sp.Rg):m1.ok (m1.fr i).Sg.toNat/\(m1.fr i).Sg.toNat≠i/\((m1.fr i).Sg.toNat:Int)=(m1.fr i).Sg/\∀f,f={m1.fr (m1.fr i).Sg.toNat with rg:=r}->bO (m1.ak (m1.fr i).Sg.toNat f)/\(m1.ak (m1.fr i).Sg.toNat f).vw=m.vw:=by
 have K:=c.Ca hF k2;have ep:(m1.fr i).Sg.toNat=m.vw.pa i:=by have:=congrArg (λv:Vw=>v.pa i) e1;exact this
 have epl:m1.pl=m.pl:=congrArg Vw.pl e1;rw[ep];refine⟨C1.has (by rw[e1];exact(c.I.aJ.hld _).2 K.pF),K.pi,?_,λf hf=>?_⟩
 ·have:=C1.up i;rw[this];rw[e1]
 ·subst hf
  obtain⟨a,b⟩:=C1.yX (m.vw.pa i) (by rw[epl];exact K.bp.2.1) {m1.fr (m.vw.pa i)with rg:=r} rfl rfl
  exact⟨a,b.trans e1⟩
theorem Ctx.yA(c:Ctx G m ws tm k x){i:Nat}(R:xJ G m k x i)(hd:(m.vw.fr i).az=false)(pc kd tg:Int):Good ws k tm (m.yA x i pc kd tg):=by
 have h:=R.st;have ho:=R.ho;have iF:G.Sq i≠ .F:=by rw[ho];exact fO
 obtain⟨o1,o2,o3,o4⟩:=c.okW ho;unfold Co.yA
 by_cases k2:(m.fr i).kind≠2
 ·rw[if_pos k2];exact c.stop c.C c.wm _ _ U0 _
 ·have k2:(m.fr i).kind=2:=by omega
  rw[if_neg U2]
  by_cases g:Ab (m.fr i).Sc tg=3
  ·rw[if_pos g];exact c.stop c.C c.wm _ _ U0 _
  ·rw[if_neg g]
   have g2:(m.fr i).Sc<tg/\tg<=1048575:=by
    unfold Ab at g
    split at g
    ·exact absurd rfl g
    ·omega
   obtain⟨C1,V1⟩:=c.C.yX i o3 {m.fr i with pc:=pc} rfl rfl;obtain⟨r1,r2,r3,r4⟩:=c.regs c.C rfl iF k2 (m.fr i).rg;have fin:∀(m':Co),bO m'->m'.vw=m.vw->Good ws k tm (some (m',{x with aB:=tg,gw:=Decidable.decide (kd=9),gl:=true,gy:=0,R8:=9})):=λm' C' V'=>
    c.good U2 C' V' (NS.refl _ _ _) c.I.aJ U2 U2 ⟨rfl,rfl,rfl⟩ (aO (c.gu U2)) (λ_=>c.dh U2) (.advance i rfl ⟨R.hh,ho,k2,R.hr.2 k2,hd⟩ g2.1 g2.2)
   by_cases z:(m.fr i).Sc=0
   ·rw[if_pos z,if_pos ⟨r1,r2,r3⟩]
    have hp:(m.ak i {m.fr i with pc:=pc}).fr (m.fr i).Sg.toNat=m.fr (m.fr i).Sg.toNat:=by
     rw[Co.kw _ _ _ (by rw[c.C.eZ];omega),if_neg r2]
    have K:=c.Ca iF k2;obtain⟨C2,V2⟩:=C1.yX (m.fr i).Sg.toNat K.bp.2.1 {m.fr (m.fr i).Sg.toNat with rg:=(m.fr i).rg} (by rw[hp]) (by rw[hp];rfl)
    exact fin _ C2 (V2.trans V1)
   ·rw[if_neg z]
    exact fin _ C1 V1
theorem Ctx.leaves(c:Ctx G m ws tm k x){i:Nat}(R:xJ G m k x i)(hd:(m.vw.fr i).az=false):Good ws k tm (m.leaves x i):=by
 have h:=R.st;have ho:=R.ho;have iF:G.Sq i≠ .F:=by rw[ho];exact fO
 unfold Co.leaves
 by_cases k2:(m.fr i).kind≠2
 ·rw[if_pos k2];exact c.stop c.C c.wm _ _ U0 _
 ·have k2:(m.fr i).kind=2:=by omega
  rw[if_neg U2]
  by_cases z:(m.fr i).Sc≠0
  ·rw[if_pos z];exact c.stop c.C c.wm _ _ U0 _
  ·exact Us40
theorem Ctx.pU(c:Ctx G m ws tm k x){i:Nat}(R:xJ G m k x i)(hd:(m.vw.fr i).az=false):Good ws k tm (m.pU x i):=by
 have h:=R.st;have ho:=R.ho;have iF:G.Sq i≠ .F:=by rw[ho];exact fO
 have k6:=c.Rz;unfold Co.pU
 by_cases k2:(m.fr i).kind=2
 ·rw[if_pos k2]
  by_cases z:(m.fr i).Sc≠0
  ·rw[if_pos z]
   exact c.good U2 c.C rfl (NS.refl _ _ _) c.I.aJ U2 U2 ⟨rfl,rfl,rfl⟩ (aO (c.gu U2)) (λ_=>c.dh U2) (.ending i rfl ⟨R.hh,ho,k2,R.hr.2 k2,hd⟩ ⟨λq=>absurd (show false=true from q) U0,λq=>absurd q z⟩ rfl)
  ·exact Us40
 ·rw[if_neg k2]
  by_cases p0:(m.fr i).Sg=0
  ·rw[if_pos p0];exact c.stop c.C c.wm _ _ U0 _
  ·have par:=c.C.up i
   have ep:(m.fr i).Sg.toNat=m.vw.pa i:=rfl;have pn:m.vw.pa i≠0:=λz=>p0 (by rw[par,z];rfl);rw[if_neg p0,if_pos ⟨c.C.gG,by rw[ep];exact par.symm⟩,ep];have k1:m.vw.kd i=1:=by
    rcases c.I.aJ.kind i iF with q|q|q
    ·exact q
    ·exact absurd q k2
    ·exact absurd q R.hr.1
   obtain⟨C1,V1⟩:=c.C.Si i ((c.I.aJ.hld i).2 iF);have F:=c.I.aJ.back k i U2 ho k1 pn hd (c.gu U2) (c.dh U2);have N:=NS.back (G:=G) (m:=m.vw) k i ho (c.bd i iF) c.bd
   exact c.good U2 C1 V1 N F U2 U2 ⟨rfl,rfl,rfl⟩ (aO (bu (c.gu U2) (λz=>by cases z))) (λz=>absurd rfl z) (.lI (m.vw.pa i) rfl rfl (Sb _ _ _) U2)
theorem bO.ask{m:Co}(C:bO m)(a b c d:Int):bO (m.ask a b c d).1/\(m.ask a b c d).1.vw=m.vw/\(m.ask a b c d).1.log=m.log/\(m.ask a b c d).1.fr=m.fr:=by
 unfold Co.ask
 repeat' split
 all_goals exact⟨C.other rfl rfl rfl rfl rfl rfl rfl rfl,rfl,rfl,rfl⟩
theorem Ctx.does(c:Ctx G m ws tm k x){i:Nat}(R:xJ G m k x i)(I:Is):Good ws k tm (m.does x i I):=by
 have h:=R.st;have ho:=R.ho;have iF:G.Sq i≠ .F:=by rw[ho];exact fO
 obtain⟨o1,o2,o3,o4⟩:=c.okW ho;have kb:=BH I.op I.a I.b I.c (m.fr i).rg;unfold Co.does;dsimp only;generalize Sp.lM I.op I.a I.b I.c (m.fr i).rg=e at*;generalize Sp.vG I.op I.a I.b I.c (m.fr i).pc (m.fr i).rg=pc at*;generalize Sp.lN I.op I.a I.b I.c (m.fr i).rg=rg at*;have same:∀(m1:Co)(f:Fr),bO m1->m1.vw=m.vw->m1.fr=m.fr->m1.pl=m.pl->f.Sg=(m.fr i).Sg->f.fv=(m.fr i).fv->Good ws k tm (some (m1.ak i f,x)):=λm1 f C1 V1 e1 e2 hp hv=>by
  obtain⟨C2,V2⟩:=C1.yX i (by rw[e2];exact o3) f (by rw[e1];exact hp) (by rw[e1];exact hv)
  exact c.Rt R (V':=m.vw) C2 (V2.trans V1)
 by_cases h1:7<=e.kind/\e.kind<=12/\(m.fr i).az=true
 ·rw[if_pos h1]
  obtain⟨C1,V1⟩:=c.C.leave i o2 o3 (c.jn iF);have hl:=c.C.last i o2 o3
  by_cases q:m.last i=true
  ·rw[if_pos q]
   have F:=c.I.aJ.qG k i ho (c.gu U2) (hl.1 q)
   exact c.good U2 C1 V1 (NS.qG k i ho) F U2 U2 ⟨rfl,rfl,rfl⟩ (aO (bu (c.gu U2) (λz=>by cases z))) (λ_=>c.dh U2) (.joined i rfl R.hh (Sb _ _ _) R.hr)
  ·rw[if_neg q]
   have F:=c.I.aJ.lU k i ho (c.gu U2)
   exact c.good U2 C1 V1 (NS.lU k i ho) F U2 U2 ⟨rfl,rfl,rfl⟩ (aO (bu (c.gu U2) (λz=>by cases z))) (λ_=>c.dh U2) (c.goes U2 (NS.lU k i ho) rfl rfl)
 ·rw[if_neg h1]
  by_cases h2:Sp.uw I.op I.c (m.fr i).rg≠0
  ·rw[if_pos h2];exact c.stop c.C c.wm _ _ U0 _
  ·rw[if_neg h2]
   by_cases h3:1<=e.kind/\e.kind<=4
   ·rw[if_pos h3]
    obtain⟨C1,V1,L1,f1⟩:=c.C.ask e.kind e.at_ e.value e.other
    by_cases q:(m.ask e.kind e.at_ e.value e.other).2.2=true
    ·rw[if_pos q]
     exact same _ _ C1 V1 f1 (congrArg Vw.pl V1) rfl rfl
    ·rw[if_neg q]
     exact c.stop C1 (by rw[L1];exact c.wm) _ _ U0 _
   ·rw[if_neg h3]
    by_cases h4:e.kind=5
    ·rw[if_pos h4]
     have mo:=c.C.most
     by_cases q:(m.out.length:Int)<m.most/\m.most<=1000
     ·rw[if_pos q]
      exact same _ _ (c.C.other rfl rfl rfl rfl rfl rfl rfl rfl) rfl rfl rfl rfl rfl
     ·rw[if_neg q,if_pos U2]
      exact c.stop c.C c.wm _ _ U0 _
    ·rw[if_neg h4]
     by_cases h5:e.kind=0∨e.kind=7
     ·rw[if_pos h5]
      exact same m _ c.C rfl rfl rfl rfl rfl
     ·rw[if_neg h5]
      unfold Co.turn
      by_cases t1:e.kind=6
      ·rw[if_pos t1];exact c.fork R _ _
      ·have hd:(m.vw.fr i).az=false:=by
        cases q:(m.vw.fr i).az with
        |false=>rfl
        |true=>exact absurd ⟨by omega,by omega,q⟩ h1
       rw[if_neg t1]
       by_cases t2:e.kind=8
       ·rw[if_pos t2];exact c.pipe R _ _
       ·rw[if_neg t2]
        by_cases t3:e.kind=9∨e.kind=10
        ·rw[if_pos t3];exact c.yA R hd _ _ _
        ·rw[if_neg t3]
         by_cases t4:e.kind=11
         ·rw[if_pos t4];exact c.leaves R hd
         ·rw[if_neg t4,if_pos U2]
          exact c.pU R hd
theorem Ig{ws:Nat->Option WS}{k:Nat}{x:WS}(h:ws k=some x):Sd ws k (some x)=ws:=by
 funext j
 unfold Sd
 split
 ·rename_i e;rw[e,h]
 ·rfl
def Dx(ws:Nat->Option WS)(k:Nat)(tm:Int)(r:Option (Co×WS)):Prop:=
 ∃m' x',r=some (m',x')/\bO m'/\Be m'.log/\(m'.status≠0∨∃G' tm',tm<=tm'/\tm'<=tm+10/\Inv G' m'.vw (Sd ws k (some x')) tm')
theorem Good.two{r:Option (Co×WS)}(h:Good ws k tm r):Dx ws k tm r:=by
 obtain⟨m',x',a,b,c,d⟩:=h;refine⟨m',x',a,b,c,d.imp id (λ⟨G',tm',p,q,I⟩=>⟨G',tm',p,by omega,I⟩)⟩
theorem Ctx.runs(c:Ctx G m ws tm k x)(ht:tm+10<=90000)(hs:x.R8=4):Dx ws k tm (m.runs x):=by
 have cl:=c.cl
 cases cl with
 |run i a hh ho hr=>
  have iF:G.Sq i≠ .F:=by rw[ho];exact fO
  obtain⟨o1,o2,o3,o4⟩:=c.okW ho;have e0:x.Sa.toNat=i:=by rw[hh];rfl
  unfold Co.runs;rw[if_pos ⟨by rw[e0];exact o1,by rw[e0,hh]⟩,e0];unfold Co.begins
  by_cases hd:(m.fr i).due=true
  ·have k2:=c.I.aJ.due i iF hd
   have hp:=hr.2 k2;have K:=c.Ca iF k2;obtain⟨p1,p2,p3,p4⟩:=c.I.aJ.iO i iF k2 hp;have sr:=c.I.aJ.au _ K.pF K.k3;have few:(m.log.length:Int)<=tm:=c.I.aJ.few;rw[if_pos hd,if_pos ⟨K.bQ,by rw[K.par];rfl,by omega⟩];have ep:(m.fr i).Sg.toNat=m.vw.pa i:=rfl;rw[ep];obtain⟨C1,V1⟩:=c.C.ak i o3 {m.fr i with due:=false} (c.C.par i);obtain⟨C2,V2⟩:=C1.bM i (m.vw.pa i) 2;have M1f:∀j,(m.ak i {m.fr i with due:=false}).fr j=if j=i then{m.fr i with due:=false}else m.fr j:=λj=>Co.kw _ i _ (by rw[c.C.eZ];omega) j;have L1:(m.ak i {m.fr i with due:=false}).log=m.log:=rfl;obtain⟨ev,hev⟩:∃ev:Ev,ev=⟨2,(m.fr (m.vw.pa i)).ae,(m.fr i).index,(m.fr i).Sc⟩:=⟨_,rfl⟩;rw[V1,L1,M1f,M1f,if_neg K.pi,if_pos rfl]at V2;have V2:((m.ak i {m.fr i with due:=false}).bM i (m.vw.pa i) 2).vw={m.vw with fr:=Sd m.vw.fr i {m.vw.fr i with due:=false},log:=m.log++[ev]}:=by rw[V2,hev];rfl
   have F1:=c.I.aJ.lW i false (λz=>by cases z);have F:=F1.tell ev ⟨by rw[hev];exact(by decide:(2:Int)≠1),by rw[hev];exact(by decide:(2:Int)≠4),trivial⟩ (Or.inr (Or.inr (Or.inl ⟨by rw[hev];simp,by rw[hev];exact p4,by rw[hev];simp⟩))) (by rw[hev];exact sr.2) U68;have N:=(NS.lW (G:=G) (m:=m.vw) k i 0 false ho U0).trans (NS.tell k ev) (λ_ _=>Or.inr rfl);have kk:(Sd m.vw.fr i {m.vw.fr i with due:=false} i).kind=m.vw.kd i:=by rw[Sb]
   have hr2:Run G {m.vw with fr:=Sd m.vw.fr i {m.vw.fr i with due:=false},log:=m.log++[ev]} i:=⟨λz=>hr.1 (kk.symm.trans z),λ_=>hp⟩;have J:=c.idle;have I2:=c.I.ns c.hk N F U2 U2 (.run i a hh ho hr2) ⟨J.1,λq1 q2=>by
    have:=c.tails ⟨by omega,by omega⟩ N
    exact⟨this.1,this.2.1⟩,by have:=J.2.2.1;omega,λv z=>by have:=(J.2.2.2.1 v z).1;omega,J.2.2.2.2.1,J.2.2.2.2.2⟩
   rw[Ig c.hk]at I2;have c2:Ctx G ((m.ak i {m.fr i with due:=false}).bM i (m.vw.pa i) 2) ws (tm+1+1) k x:=⟨C2,by rw[V2];exact I2,c.hk,by omega⟩;have g:=c2.does ⟨hs,hh,ho,by rw[V2];exact hr2⟩ (((m.ak i {m.fr i with due:=false}).bM i (m.vw.pa i) 2).at_ (((m.ak i {m.fr i with due:=false}).bM i (m.vw.pa i) 2).fr i).fn (((m.ak i {m.fr i with due:=false}).bM i (m.vw.pa i) 2).fr i).pc);obtain⟨m',x',a1,b1,c1,d1⟩:=g
   exact⟨m',x',a1,b1,c1,d1.imp id (λ⟨G',tm',p,q,I⟩=>⟨G',tm',by omega,by omega,I⟩)⟩
  ·rw[if_neg hd]
   exact(c.does ⟨hs,hh,ho,hr⟩ _).two
 |begins l c' h=>omega
 |_=>omega
end
end
section
theorem BL(r:DW)(L:List Int):(r.step L).2.length=L.length:=by
 obtain⟨p,Sk,t,x,hh,ta,tn,nx,Sl,Sn⟩:=r
 cases nx<;>simp only[DW.step]<;>(try split)<;>simp
section
variable {G:Gh} {m:Co} {ws:Nat->Option WS} {tm:Int} {k:Nat} {x:WS}
theorem bO.walk{m:Co}(C:bO m)(r:DW):bO (m.walk r):=C.RY _ (BL r _) rfl
theorem bR.Sj{G G':Gh}{m:Vw}{k v:Nat}{W':Ad->Int}{tm:Int}(S:bR G m k v W' tm G'){i:Nat}(h:G'.Sq i≠ .F):G.Sq i≠ .F:=by
 obtain⟨o,H,T,d,c,t,rfl,S1,S2⟩:=S
 exact λz=>h ((S1.mv.iff i .F (λ_ _ z=>by cases z) (λz=>by cases z) (λz=>by cases z)).2 z)
theorem bR.ph{G G':Gh}{m:Vw}{k v:Nat}{W':Ad->Int}{tm:Int}(S:bR G m k v W' tm G'):G'.ph=G.ph:=by
 obtain⟨o,H,T,d,c,t,rfl,S1,S2⟩:=S
 rfl
theorem Ctx.iT(c:Ctx G m ws tm k x)(h6:x.R8=0∨x.R8=1∨x.R8=2∨x.R8=3){v:Nat}{m':Co}{x':WS}{W':Ad->Int}{G':Gh}(C':bO m')(e:m'.vw={m.vw with W:=W'})(S:bR G m.vw k v W' (tm+1) G')(hc:Cl G' {m.vw with W:=W'} k x')
  (hw:x'.Sq=x.Sq) (ht:x'.R8≠2->x'.R8≠3->W' (.q k 1)=x'.tail/\G'.T k=x'.tail) (hp:0<=x'.ag/\x'.ag<=tm+1) (hr:∀u,G'.cr u=some k->x'.R8=1/\∃r,x'.dq=some r/\r.Sk=u/\(r.nx=.finds∨r.nx=.aS∨r.nx=.carries)):Good ws k tm (some (m',x')):=by
 have h:=c.ht;have h0:G'.aU=G.aU:=S.aU;have I:=S.inv c.I U2 c.hk h6 hc ⟨hw.trans c.Sq,ht,hp,hr,λi z=>absurd (S.w3 z) (c.gu U2 i),λ_=>by rw[h0];exact c.dh U2⟩
 exact⟨m',x',rfl,C',by rw[show m'.log=m.log from congrArg Vw.log e];exact c.wm,Or.inr ⟨G',tm+1,by omega,by omega,by rw[e];exact I⟩⟩
theorem vC{G':Gh}{V:Vw}{i:Nat}{x1:WS}{kd:Int}(hk:kd=V.kd i)(ho:G'.Sq i=.W k 0)(hr:Ready G' V i):Cl G' V k (x1.takes i kd):=by
 subst hk;unfold WS.takes
 split
 ·rename_i e;exact .loop i rfl rfl ho e
 ·rename_i e;exact .run i rfl rfl ho ⟨e,hr⟩
theorem qU(x1:WS)(i kd:Int):(x1.takes i kd).Sq=x1.Sq/\(x1.takes i kd).tail=x1.tail/\(x1.takes i kd).ag=x1.ag:=by
 unfold WS.takes
 split<;>exact⟨rfl,rfl,rfl⟩
theorem Ht(x1:WS)(i kd:Int):(x1.takes i kd).R8=19∨(x1.takes i kd).R8=4:=by
 unfold WS.takes
 split
 ·exact Or.inl rfl
 ·exact Or.inr rfl
theorem Ctx.Ro(c:Ctx G m ws tm k x)(hs:x.R8=2):Good ws k tm (m.Bh x):=by
 have cl:=c.cl
 cases cl with
 |pop r a hq hP=>
  obtain⟨sn,G',S,cr,ep,ew,D⟩:=c.I.OT U91 c.hk U2 hP;have hv:=c.I.Dr k x c.hk;obtain⟨e1,e2,e3⟩:=DW.A9 c.C.Sn r k hP.1 hP.2.1 hv sn;have pb:=c.idle.2.2.1;unfold Co.Bh;rw[hq];dsimp only;rw[if_pos U96];rw[<-e1]at D;generalize(r.step m.RY).1=r' at*
  rcases D with⟨d1,d2⟩|⟨d1,d2,d3,d4⟩
  ·rw[if_pos d1]
   exact c.iT U2 (c.C.walk r) e2 S (.pop r' hs rfl d2) rfl (λz _=>absurd hs z) U32 (λu z=>absurd z (cr u))
  ·rw[if_neg (by rw[d1];decide)]
   by_cases g:r'.Sl=false
   ·rw[if_pos g]
    exact c.iT U2 (c.C.walk r) e2 S (.yU rfl) rfl (λ_ _=>⟨d2,d3⟩) U32 (λu z=>absurd z (cr u))
   ·rw[if_neg g]
    obtain⟨i,i1,i2,i3⟩:=d4 (by simpa using g);have ih:=(c.ok (S.Sj (by rw[i2];exact fO))).1;have e0:r'.x.toNat=i:=by rw[i1];rfl
    rw[if_pos (Co.bJ ih i1),e0];have T:=qU {x with dq:=some r',tail:=r'.t} i (m.fr i).kind;have T2:=Ht {x with dq:=some r',tail:=r'.t} i (m.fr i).kind
    exact c.iT U2 (c.C.walk r) e2 S (vC rfl i2 i3) T.1 (λ_ _=>by rw[T.2.1];exact⟨d2,d3⟩) U98 (λu z=>absurd z (cr u))
 |begins l c' h=>omega
 |_=>omega
theorem Ctx.bD(c:Ctx G m ws tm k x)(hs:x.R8=1):Good ws k tm (m.nC x):=by
 have cl:=c.cl
 cases cl with
 |dM r v a hq hP=>
  have J:=c.idle;obtain⟨sn,G',S,cr,ep,ew,t1,t2,D⟩:=c.I.wO U91 hP (λu z=>by
   obtain⟨_,r2,b1,b2,b3⟩:=J.2.2.2.1 u z;rw[hq]at b1
   cases b1
   have:=hP.2.1
   exact⟨by omega,b3⟩)
  obtain⟨e1,e2,e3⟩:=DW.A9 c.C.Sn r v hP.1 hP.2.1 hP.2.2.1 sn;have pb:=J.2.2.1;obtain⟨q1,q2⟩:=J.2.1 U2 U2;unfold Co.nC;rw[hq];dsimp only;rw[if_pos U96];rw[<-e1]at D cr ew ep;generalize(r.step m.RY).1=r' at*
  rcases D with⟨d1,d2⟩|⟨d1,d2⟩
  ·rw[if_pos d1]
   exact c.iT U2 (c.C.walk r) e2 S (.dM r' v hs rfl d2) rfl (λ_ _=>⟨t1.trans q1,t2.trans q2⟩) U32 (λu z=>⟨hs,r',rfl,by rw[(cr u z).1];exact ew,(cr u z).2⟩)
  ·have nc:∀u,G'.cr u≠some k:=λu z=>by
    rcases(cr u z).2 with n|n|n<;>rw[n]at d1<;>cases d1
   rw[if_neg (by rw[d1];decide)]
   by_cases g:r'.Sl=false
   ·rw[if_pos g]
    exact c.iT U2 (c.C.walk r) e2 S (.yU rfl) rfl (λ_ _=>⟨t1.trans q1,t2.trans q2⟩) U32 (λu z=>absurd z (nc u))
   ·rw[if_neg g]
    obtain⟨i,i1,i2,i3⟩:=d2 (by simpa using g);have ih:=(c.ok (S.Sj (by rw[i2];exact fO))).1;have e0:r'.x.toNat=i:=by rw[i1];rfl
    rw[if_pos (Co.bJ ih i1),e0];have T:=qU {x with dq:=some r'} i (m.fr i).kind
    exact c.iT U2 ((c.C.walk r).other rfl rfl rfl rfl rfl rfl rfl rfl) e2 S (vC rfl i2 i3) T.1 (λ_ _=>by rw[T.2.1];exact⟨t1.trans q1,t2.trans q2⟩) U98 (λu z=>absurd z (nc u))
 |begins l c' h=>omega
 |_=>omega
theorem Ctx.oF(c:Ctx G m ws tm k x)(hs:x.R8=0)(v:Int):Good ws k tm (m.oF x v):=by
 have J:=c.idle;have pb:=J.2.2.1;have ht:=c.ht;obtain⟨q1,q2⟩:=J.2.1 U2 U2;have nc:∀u,G.cr u≠some k:=λu z=>by have:=(J.2.2.2.1 u z).1;omega
 unfold Co.oF;rw[if_pos U2]
 by_cases h:ic m.pl.wk v x.ag=x.Sq
 ·rw[if_pos h]
  have C':bO m.iE:=c.C.other rfl rfl rfl rfl rfl rfl rfl rfl
  exact c.iT (v:=k) U2 C' rfl (.mk (eY k k (c.I.dq k (c.I.Dr k x c.hk)))) (.yU hs) rfl (λ_ _=>⟨q1,(Sb _ _ _).trans q2⟩) U111 (λu z=>by
   exfalso
   have z:Sd G.cr k (G.cr k) u=some k:=z;unfold Sd at z
   split at z
   ·exact nc k z
   ·exact nc u z)
 ·rw[if_neg h]
  have wk0:0<m.pl.wk:=by have:=c.C.Sn.1;unfold Pl.ok at this;omega
  have b0:0<=ic m.pl.wk v x.ag:=Int.emod_nonneg _ U2;have b1:ic m.pl.wk v x.ag<m.pl.wk:=Int.emod_lt_of_pos _ wk0;generalize ic m.pl.wk v x.ag=u at*;obtain⟨n,rfl⟩:∃n:Nat,u=n:=⟨u.toNat,by omega⟩;have hn:n<m.vw.pl.wk.toNat:=by show n<m.pl.wk.toNat;omega
  have hP:lD G m.vw k n (DW.dM m.pl n):=⟨rfl,rfl,hn,rfl⟩;obtain⟨sn,G',S,cr,ep,ew,t1,t2,D⟩:=c.I.wO U2 hP (λu z=>absurd z (nc u));obtain⟨e1,e2,e3⟩:=DW.A9 c.C.Sn (DW.dM m.pl n) n rfl rfl hn sn;have nx:((DW.dM m.pl n).vs n m.vw).1.nx=.mine .first:=rfl;have C':bO {m.iE with RY:=((DW.dM m.pl n).step m.RY).2}:=(c.C.walk (DW.dM m.pl n)).other rfl rfl rfl rfl rfl rfl rfl rfl;rw[<-e1]at D cr ew ep nx;generalize((DW.dM m.pl n).step m.RY).1=r' at*
  rcases D with⟨d1,d2⟩|⟨d1,d2⟩
  ·exact c.iT U2 C' e2 S (.dM r' n rfl rfl d2) rfl (λ_ _=>⟨t1.trans q1,t2.trans q2⟩) U111 (λu z=>⟨rfl,r',rfl,by rw[(cr u z).1];exact ew,(cr u z).2⟩)
  ·rw[nx]at d1;cases d1
theorem Ctx.pushes(c:Ctx G m ws tm k x)(hs:x.R8=3){r:DW}{l i:Nat}(hq:x.dq=some r)(hP:ig G m.vw k r)(hx:r.x=l)(ol:G.Sq l=.W k 0)(rl:Ready G m.vw l)(oi:G.Sq i=.W k 1)
  (more:∀(G':Gh)(W':Ad->Int)(r':DW),bR G m.vw k k W' (tm+1) G'->G'.Sq=G.Sq->r'.x=l->ig G' {m.vw with W:=W'} k r'->Cl G' {m.vw with W:=W'} k {x with dq:=some r'})
  (done:∀(G':Gh)(W':Ad->Int)(r':DW),r'.nx.ends=true->r'.Sn=false->(m.walk r).vw={m.vw with W:=W'}->bR G m.vw k k W' (tm+1) G'->G'.Sq i=.W k 0->W' (.q k 1)=r'.t->G'.T k=r'.t->(∀u,G'.cr u≠some k)->(r.step m.RY).1=r'->Good ws k tm (match x.thn with
    |none=>none
    |some .aL=>if m.has x.Sa&&m.has (m.fr x.Sa.toNat).Sg&&Nat.ble (m.fr x.Sa.toNat).index 100000 then some (m.walk r,(m.walk r).aL {x with dq:=some r',tail:=r'.t} x.Sa.toNat (m.up x.Sa.toNat))else none
    |some (.runs j)=>some (m.walk r,{x with dq:=some r',tail:=r'.t,Sa:=j,R8:=4}))):Good ws k tm (m.pQ x):=by
 have hv:=c.I.Dr k x c.hk;have D:=c.I.dq k hv;have J:=c.idle;have ht:=c.ht;have nc:∀u,G.cr u≠some k:=λu z=>by have:=(J.2.2.2.1 u z).1;omega
 have pb:=J.2.2.1;have nn:=D.nums;obtain⟨p1,p2,p3,p4,p5,p6⟩:=hP;have hP:ig G m.vw k r:=⟨p1,p2,p3,p4,p5,p6⟩;have cr0:∀(o:Nat->aY) (H T:Int) (t:Int->Nat) u,(G.at_ k o H T (G.dk k) (G.cr k) t).cr u≠some k:=λo H T t u z=>by
  have z:Sd G.cr k (G.cr k) u=some k:=z;unfold Sd at z
  split at z
  ·exact nc k z
  ·exact nc u z
 have sn:r.GD m.pl k:=by
  unfold DW.GD
  split
  ·omega
  ·exact U144
  ·exact U144
  ·exact U144
  ·exact U144
  ·trivial
 obtain⟨e1,e2,e3⟩:=DW.A9 c.C.Sn r k p1 p2 hv sn;unfold Co.pQ;rw[hq];dsimp only;rw[if_pos (by rw[e3,Pl.pu (show r.p=m.pl from p1)];rfl)]
 cases hn:r.nx with
 |room=>
  by_cases hb:wrap64 (m.vw.pl.dq-1)<=wrap64 (r.t-m.vw.hd k)
  ·have V:r.vs k m.vw=({r with Sn:=true,nx:=.fin},m.vw.W):=by unfold DW.vs;rw[hn];dsimp only;rw[if_pos hb]
   rw[V]at e1;rw[if_neg (show¬(r.step m.RY).1.nx.ends=false by rw[e1];exact λz=>by cases z),if_pos (show(r.step m.RY).1.Sn=true by rw[e1]),e1]
   exact c.stop (c.C.walk r) c.wm _ _ U0 _
  ·have V:r.vs k m.vw=({r with nx:=.lay},m.vw.W):=by unfold DW.vs;rw[hn];dsimp only;rw[if_neg hb]
   have q:=c.I.Cy U2 c.hk hs hq hP hn hb;rw[V]at e1 e2;rw[if_pos (show(r.step m.RY).1.nx.ends=false by rw[e1];rfl),e1];have S:bR G m.vw k k m.vw.W (tm+1) (G.at_ k G.Sq (G.H k) (G.T k) (G.dk k) (G.cr k) (G.tk k)):=.mk (eY k k D);refine c.iT U2 (c.C.walk r) e2 S (more _ _ _ S rfl hx ?_) rfl (λ_ z=>absurd hs z) U32 (λu z=>absurd z (cr0 _ _ _ _ u));obtain⟨a1,a2,a3,a4,a5,a6⟩:=q;have a6:r.t-G.lo k<=m.vw.pl.dq-1:=a6;refine⟨a1,a2,a3,(Sb _ _ _).trans a4,a5,?_⟩;show r.t-(G.at_ k G.Sq (G.H k) (G.T k) (G.dk k) (G.cr k) (G.tk k)).lo k<=_;unfold Gh.lo at*;simp only[Gh.at_,Sb]
   exact a6
 |lay=>
  obtain⟨s1,s2,s3⟩:=c.I.Gi c.hk hP hn;have V:(r.vs k m.vw).1={r with nx:=.grow}:=by unfold DW.vs;rw[hn]
  rw[V]at e1 s3;rw[if_pos (show(r.step m.RY).1.nx.ends=false by rw[e1];rfl),e1];have S:bR G m.vw k k (r.vs k m.vw).2 (tm+1) (G.at_ k G.Sq (G.H k) (G.T k) (G.dk k) (G.cr k) (G.tk k)):=.mk ⟨s1,s2⟩
  exact c.iT U2 (c.C.walk r) e2 S (more _ _ _ S rfl hx s3) rfl (λ_ z=>absurd hs z) U32 (λu z=>absurd z (cr0 _ _ _ _ u))
 |grow=>
  obtain⟨s0,s1,s2,s3⟩:=c.I.Cx U2 c.hk hP hn l i hx ol rl oi;rw[s0]at e1;rw[if_neg (show¬(r.step m.RY).1.nx.ends=false by rw[e1];exact λz=>by cases z),if_neg (show¬(r.step m.RY).1.Sn=true by rw[e1];show¬r.Sn=true;rw[p5];decide),e1];have S:bR G m.vw k k (r.vs k m.vw).2 (tm+1) (G.at_ k (Sd (Sd G.Sq l (.D k r.t)) i (.W k 0)) (G.H k) (r.t+1) (G.dk k) (G.cr k) (G.tk k)):=.mk ⟨s1,s2⟩
  exact done _ _ _ rfl p5 e2 S (Sb _ _ _) s3 (Sb _ _ _) (cr0 _ _ _ _) e1
 |_=>rw[hn]at p6;exact p6.elim
theorem Ctx.Mq(c:Ctx G m ws tm k x)(hs:x.R8=3):Good ws k tm (m.pQ x):=by
 have J:=c.idle;have ht:=c.ht;have pb:=J.2.2.1;have cl:=c.cl
 cases cl with
 |tC r i l a hq hP hx ol rl ht2 hh oi k2 hp hd hst hg=>
  refine c.pushes hs hq hP hx ol rl oi (λG' W' r' S e1 e2 e3=> .tC r' i l hs rfl e3 e2 (by rw[e1];exact ol) (λz=>by rw[S.ph];exact rl z) ht2 hh (by rw[e1];exact oi) k2 (by rw[S.ph];exact hp) hd hst hg) (λG' W' r' en fu e2 S io t1 t2 cr _=>?_);have K:=c.Ca (i:=i) (by rw[oi];exact fO) k2;have e0:x.Sa.toNat=i:=by rw[hh];rfl
  rw[ht2];dsimp only;rw[e0,if_pos (by rw[Co.bJ K.ok hh,Co.bJ K.bQ K.par,Nat.ble_eq_true_of_le (by have:=K.ix;have:=K.st;omega)];rfl)];have IR:∀x1:WS,x1.Sa=x.Sa->zJ G' {m.vw with W:=W'} k x1 i 1:=λx1 e=>⟨e.trans hh,io,k2,by rw[S.ph];exact hp,hd⟩;unfold Co.aL
  by_cases lz:m.lazy=true
  ·have:(m.walk r).lazy=true:=lz
   rw[if_pos this]
   exact c.iT U2 (c.C.walk r) e2 S (.wH i rfl (IR _ rfl) hst hg) rfl (λ_ _=>⟨t1,t2⟩) U32 (λu z=>absurd z (cr u))
  ·have:¬(m.walk r).lazy=true:=lz
   rw[if_neg this]
   exact c.iT U2 (c.C.walk r) e2 S (.lK i _ rfl (IR _ rfl) hst hg rfl rfl rfl rfl rfl rfl) rfl (λ_ _=>⟨t1,t2⟩) U32 (λu z=>absurd z (cr u))
 |tF r l j a hq hP hx ol rl ht2 oj rj=>
  refine c.pushes hs hq hP hx ol rl oj (λG' W' r' S e1 e2 e3=> .tF r' l j hs rfl e3 e2 (by rw[e1];exact ol) (λz=>by rw[S.ph];exact rl z) ht2 (by rw[e1];exact oj) ⟨rj.1,λz=>by rw[S.ph];exact rj.2 z⟩) (λG' W' r' en fu e2 S io t1 t2 cr _=>?_);rw[ht2];dsimp only
  exact c.iT U2 (c.C.walk r) e2 S (.run j rfl rfl io ⟨rj.1,λz=>by rw[S.ph];exact rj.2 z⟩) rfl (λ_ _=>⟨t1,t2⟩) U32 (λu z=>absurd z (cr u))
 |begins l c' h=>omega
 |_=>omega
theorem Ctx.acts(c:Ctx G m ws tm k x)(ht:tm+10<=90000)(v:Int):Dx ws k tm (m.acts x v):=by
 have S:∀(s:Int),x.R8=s->m.acts x v=({m with why:=m.why}:Co).acts x v:=λ_ _=>rfl;have cl:=c.cl;unfold Co.acts
 cases cl with
 |yU a=>rw[if_pos a];exact(c.oF a v).two
 |dM r v' a=>rw[if_neg U2,if_pos a];exact(c.bD a).two
 |pop r a=>rw[if_neg U2,if_neg U2,if_pos a];exact(c.Ro a).two
 |tC r i l a=>rw[if_neg U2,if_neg U2,if_neg U2,if_pos a];exact(c.Mq a).two
 |tF r l j a=>rw[if_neg U2,if_neg U2,if_neg U2,if_pos a];exact(c.Mq a).two
 |run i a=>rw[if_neg U2,if_neg U2,if_neg U2,if_neg U2,if_pos a];exact c.runs ht a
 |joined i a=>
  iterate 5 rw[if_neg U2]
  rw[if_pos a];exact(c.joined a).two
 |spawn i j a=>
  iterate 6 rw[if_neg U2]
  rw[if_pos a];exact(c.spawn a).two
 |lI p a=>
  iterate 7 rw[if_neg U2]
  rw[if_pos a];exact(c.lI a).two
 |resume p a=>
  iterate 8 rw[if_neg U2]
  rw[if_pos a];exact(c.resume a).two
 |advance i a=>
  iterate 9 rw[if_neg U2]
  rw[if_pos a];exact(c.advance a).two
 |wH i a=>
  iterate 10 rw[if_neg U2]
  rw[if_pos a];exact(c.wH a).two
 |lK i r a=>
  iterate 11 rw[if_neg U2]
  rw[if_pos a];exact(c.check a).two
 |pY i r a=>
  iterate 11 rw[if_neg U2]
  rw[if_pos a];exact(c.check a).two
 |look i a=>
  iterate 12 rw[if_neg U2]
  rw[if_pos a];exact(c.look a).two
 |ending i a=>
  iterate 13 rw[if_neg U2]
  rw[if_pos a];exact(c.ends a).two
 |closing i r lk a=>
  iterate 14 rw[if_neg U2]
  rw[if_pos a];exact(c.closes a).two
 |drop i a=>
  iterate 15 rw[if_neg U2]
  rw[if_pos a];exact(c.drop a).two
 |finish l a=>
  iterate 16 rw[if_neg U2]
  rw[if_pos a];exact(c.finish a).two
 |complete l a=>
  iterate 17 rw[if_neg U2]
  rw[if_pos a];exact(c.complete a).two
 |loop l a=>
  iterate 18 rw[if_neg U2]
  rw[if_pos a];exact(c.loop a).two
 |gI l r a=>
  iterate 19 rw[if_neg U2]
  rw[if_pos a];exact(c.dx a).two
 |start l a=>
  iterate 20 rw[if_neg U2]
  rw[if_pos a];exact(c.start a).two
 |begins l j a=>
  iterate 21 rw[if_neg U2]
  rcases a with a|a|a
  ·rw[if_pos a];exact(c.count a).two
  ·rw[if_neg U2,if_pos a];exact(c.name a).two
  ·rw[if_neg U2,if_neg U2,if_pos a];exact(c.joins a).two
end
end
def Co.zero(pl:Pl)(aj:Int)(fold lazy:Bool)(code:List (List Is))(data:List Int):Co:=
 {pl:=pl,aj:=aj,fold:=fold,lazy:=lazy,code:=code,RY:=List.replicate pl.size.toNat 0,data:=data,Sj:=List.replicate (pl.fr.toNat+1) false,back:=[],fresh:=0,bY:=0,aJ:=List.replicate (pl.fr.toNat+1) aM,out:=[],most:=aj,log:=[],st:=⟨0,0,0,0,0,0,0⟩,ae:=0,status:=0,why:=0}
def ku:Fr:={aM with kind:=1}
def Co.first(pl:Pl)(aj:Int)(fold lazy:Bool)(code:List (List Is))(data:List Int):Co:=(Co.zero pl aj fold lazy code data).made 1 [] 1 ku
def WS.zero(i:Int):WS:=⟨i,0,0,0,0,none,none,0,0,false,false,0,false,false,0,false,none,none,none⟩
def WS.first(i:Nat):WS:=if i=0 then{WS.zero 0 with Sa:=1,R8:=4}else WS.zero i
def MS.first(pl:Pl)(aj:Int)(fold lazy:Bool)(code:List (List Is))(data:List Int):MS:=⟨Co.first pl aj fold lazy code data,(List.range pl.wk.toNat).map WS.first⟩
theorem jY{α:Type}(n i:Nat)(a:α):(List.replicate n a).getD i a=a:=by
 simp only[List.getD,List.getElem?_replicate]
 split<;>rfl
theorem Co.ui(pl:Pl)(hp:pl.ok)(aj:Int)(fold lazy:Bool)(code:List (List Is))(data:List Int):(Co.zero pl aj fold lazy code data).pick=some (1,[],1):=by
 show(if 0+1<(List.replicate (pl.fr.toNat+1) false).length then some (0+1,([]:List Nat),0+1)else none)=_
 rw[List.length_replicate,if_pos (by unfold Pl.ok at hp;omega)]
theorem Co.PG(pl:Pl)(hp:pl.ok)(ht:pl.th=1)(aj:Int)(ho:aj<=1000)(fold lazy:Bool)(code:List (List Is))(data:List Int):bO (Co.zero pl aj fold lazy code data):=by
 have hs:0<=pl.size:=by
  unfold Pl.size Pl.wide Pl.room;unfold Pl.ok at hp
  have:=Int.mul_nonneg (show 0<=pl.wk by omega) (show 0<=4+pl.dq by omega)
  have:=Int.mul_nonneg (show 0<=pl.fr by omega) (show 0<=2+4*(pl.th+1)by omega)
  omega
 refine⟨⟨hp,ht,?_⟩,List.length_replicate ..,List.length_replicate ..,List.nodup_nil,λi hi=>(by cases hi),λi hi=>?_,?_,Int.le_refl _,λi=>?_,ho⟩
 ·show((List.replicate pl.size.toNat (0:Int)).length:Int)=pl.size
  rw[List.length_replicate];omega
 ·have hi:(List.replicate (pl.fr.toNat+1) false).getD i false=true:=hi
  rw[jY]at hi;cases hi
 ·show 0<(List.replicate (pl.fr.toNat+1) false).length
  rw[List.length_replicate];omega
 ·show 0<=((List.replicate (pl.fr.toNat+1) aM).getD i aM).Sg
  rw[jY];exact Int.le_refl _
def G0:Gh:={Sq:=λi=>if i=1 then .W 0 0 else .F,aU:=λ_=>0,H:=λ_=>0,T:=λ_=>0,dk:=λ_=>0,cr:=λ_=>none,tk:=λ_ _=>0,cur:=λ_=>0,ph:=λ_=>0}
def V0(pl:Pl):Vw:={pl:=pl,W:=λa=>if a=.f 1 0 then 1 else 0,fr:=λi=>if i=1 then ku.fv else aM.fv,Sj:=λi=>decide (i=1),log:=[],ae:=0}
theorem PL(pl:Pl)(v b:Nat):(V0 pl).W (.q v b)=0:=rfl
theorem Q7(pl:Pl)(v b:Nat)(h:b≠0):(V0 pl).W (.f v b)=0:=if_neg (by simp[h])
theorem JS(pl:Pl)(hp:pl.ok)(ht:pl.th=1)(aj:Int)(ho:aj<=1000)(fold lazy:Bool)(code:List (List Is))(data:List Int):bO (Co.first pl aj fold lazy code data)/\Inv G0 (Co.first pl aj fold lazy code data).vw (λk=>(MS.first pl aj fold lazy code data).ws[k]?) 1:=by
 have Z:=Co.PG pl hp ht aj ho fold lazy code data;obtain⟨C1,V1⟩:=Z.made (Co.ui pl hp aj fold lazy code data) ku (Int.le_refl 0);refine⟨C1,?_⟩;have zW:∀a,(Co.zero pl aj fold lazy code data).vw.W a=0:=λa=>by
  show(if a.Ke pl=true then(List.replicate pl.size.toNat (0:Int)).getD (a.ix pl) 0 else 0)=0
  rw[jY];split<;>rfl
 have zf:∀i,(Co.zero pl aj fold lazy code data).vw.fr i=aM.fv:=λi=>by
  show((List.replicate (pl.fr.toNat+1) aM).getD i aM).fv=_
  rw[jY]
 have zh:∀i,(Co.zero pl aj fold lazy code data).vw.Sj i=false:=λi=>by
  show(List.replicate (pl.fr.toNat+1) false).getD i false=false
  rw[jY]
 show Inv G0 ((Co.zero pl aj fold lazy code data).made 1 [] 1 ku).vw _ 1;rw[V1];unfold Vw.made;have W0:∀a,blank (Co.zero pl aj fold lazy code data).vw.W 1 a=if a=.f 1 0 then 1 else 0:=λa=>by
  cases a with
  |q v b=>show(Co.zero pl aj fold lazy code data).vw.W _=_;rw[zW,if_neg U8]
  |f i b=>
   rw[iy,zW]
   by_cases e:i=1
   ·subst e
    by_cases b0:b=0
    ·subst b0;simp
    ·simp[b0]
   ·simp[e]
 have Wf:blank (Co.zero pl aj fold lazy code data).vw.W 1=λa=>if a=.f 1 0 then 1 else 0:=funext W0;have Ff:Sd (Co.zero pl aj fold lazy code data).vw.fr 1 ku.fv=λi=>if i=1 then ku.fv else aM.fv:=by
  funext i;unfold Sd;split
  ·rfl
  ·exact zf i
 have Hf:Sd (Co.zero pl aj fold lazy code data).vw.Sj 1 true=λi=>decide (i=1):=by
  funext i;unfold Sd;split
  ·rename_i e;simp[e]
  ·rename_i e;rw[zh];simp[e]
 rw[Wf,Ff,Hf];show Inv G0 (V0 pl) _ 1;have Sq:∀i,G0.Sq i≠ .F↔i=1:=λi=>by
  show(if i=1 then aY.W 0 0 else .F)≠ .F↔_
  split
  ·rename_i e;simp[e]
  ·rename_i e;simp[e]
 have own1:G0.Sq 1=.W 0 0:=rfl;have NM:1<=pl.fr.toNat:=by unfold Pl.ok at hp;omega
 have OQ:(Co.zero pl aj fold lazy code data).vw.pl=pl:=rfl;refine⟨hp,by decide,λk x hk=>?_,λv hv=>?_,λk x hk=>?_,?_⟩
 ·have hk:((List.range pl.wk.toNat).map WS.first)[k]? =some x:=hk
  have:=(List.getElem?_eq_some_iff.1 hk).1
  rw[List.length_map,List.length_range]at this
  exact this
 ·have h0:(V0 pl).hd v=0:=PL pl v 0
  have h1:(V0 pl).tl v=0:=PL pl v 1;have h2:(V0 pl).nx v=0:=PL pl v 2;have h3:(V0 pl).sv v=0:=PL pl v 3;refine⟨by rw[h0];rfl,(by decide:(0:Int)<=0-(if(0:Nat)=2 then 1 else 0)),(by decide:(0:Int)<=0),(by decide:(0:Int)<=1),by rw[h1];exact(by decide:(0:Int)<=0/\(0:Int)-1<=0),λn a1 a2=>?_,by rw[h2,h3];decide,λz=>absurd rfl z,λ_=>rfl,(by decide:(0:Nat)<=2)⟩;have a1:(0:Int)<=n:=a1;have a2:n<(0:Int):=a2
  omega
 ·have hk:((List.range pl.wk.toNat).map WS.first)[k]? =some x:=hk
  have kl:k<pl.wk.toNat:=by
   have:=(List.getElem?_eq_some_iff.1 hk).1
   simpa using this
  rw[List.getElem?_map,List.getElem?_range kl]at hk;have hk:WS.first k=x:=by simpa using hk
  subst hk;have n3:∀i,G0.Sq i≠ .W k 3:=λi z=>by
   have z:(if i=1 then aY.W 0 0 else .F)=.W k 3:=z
   split at z<;>cases z
  have tl:∀a b:Int,a=0->b=0->a=b:=λa b x y=>by rw[x,y]
  unfold WS.first
  by_cases k0:k=0
  ·subst k0
   rw[if_pos rfl];refine⟨.run 1 rfl rfl rfl ⟨(by decide:¬(1:Int)=3),λz=>absurd (show(1:Int)=2 from z) U0⟩,rfl,λ_ _=>⟨PL pl 0 1,rfl⟩,⟨(by decide:(0:Int)<=0),(by decide:(0:Int)<=1)⟩,λv z=>U47,λi z=>absurd z (n3 i),λ_=>rfl⟩
  ·rw[if_neg k0]
   refine⟨.yU rfl,rfl,λ_ _=>⟨PL pl k 1,rfl⟩,⟨(by decide:(0:Int)<=0),(by decide:(0:Int)<=1)⟩,λv z=>U47,λi z=>absurd z (n3 i),λ_=>rfl⟩
 ·have r1:(ku.fv).kind=1:=rfl
  refine{hld:=λf=>?_,bd:=λf h=>?_,kind:=λf h=>?_,due:=λf h a=>?_,bF:=λf h a b=>?_,kC:=λf h a b=>?_,iter:=λf h a=>?_,ix:=λf h a=>?_,jD:=λf h a=>?_,iO:=λf h a=>?_,jq:=λf h a=>?_,st0:=λf h a=>?_,loop:=λf h a=>?_,au:=λf h a=>?_,jG:=λf h a=>?_,dO:=λf h a=>?_,dU:=λf h a=>?_,dV:=λf h a=>?_,c1:=λf h a=>?_,c2:=λf h a=>?_,dn:=λf b h1 h2 h3 h4=>?_,jn:=λf h=>?_,jz:=λf k z=>?_,dG:=λf h a b=>?_,one:=λf g h1 h2 a=>?_,ko:=λf h1 h2 h3=>?_,stt:=λf b h1 h2 h3=>?_,dJ:=λd h=>absurd rfl h,dK:=λk h=>absurd rfl h,dP:=λd h=>rfl,dC:=λf k h=>rfl,lg:=.nil,sr:=(by decide:(0:Int)<=0/\(0:Int)<=1),seen:=λe h=>(by cases h),few:=(by decide:(0:Int)<=1)}
  ·rw[Sq];show decide (f=1)=true↔_;simp
  ·have:=(Sq f).1 h;subst this;exact⟨Nat.le_refl _,NM,by decide⟩
  ·have:=(Sq f).1 h;subst this;exact Or.inl rfl
  ·have:=(Sq f).1 h;subst this;exact absurd (show false=true from a) U0
  ·have:=(Sq f).1 h;subst this;exact absurd rfl b
  ·have:=(Sq f).1 h;subst this;exact absurd rfl b
  ·exact U122
  ·exact U122
  ·exact U122
  ·exact U122
  ·exact U122
  ·exact U122
  ·exact U120
  ·exact U120
  ·exact U120
  ·exact U120
  ·exact U120
  ·exact U120
  ·exact U120
  ·exact U120
  ·exact absurd (Q7 pl f (5+4*b) U2) h4
  ·have:=(Sq f).1 h
   subst this
   have:cnt G0.aU 1=0:=qh (λd _=>by show(0:Nat)≠1;decide)
   rw[this]
   exact(by decide:((0:Nat):Int)+1<=(1:Int)/\(1:Int)<=1)
  ·have z:(if f=1 then aY.W 0 0 else .F)=.W k 2:=z
   split at z<;>cases z
  ·have:=(Sq f).1 h
   subst this
   exact qh (λd _=>by show(0:Nat)≠1;decide)
  ·have:=(Sq f).1 h1;have q:=(Sq g).1 h2;rw[this,q];exact λ_ _=>rfl
  ·exact absurd (Q7 pl f 1 U0) h3
  ·exact Q7 pl f (3+4*b) U2
structure MInv(M:MS)(tm:Int):Prop where
 C:bO M.co
 lg:Be M.co.log
 wl:0<M.ws.length
 inv:M.co.status≠0∨∃G,Inv G M.co.vw (λk=>M.ws[k]?) tm
theorem MInv.mono{M:MS}{tm tm':Int}(h:MInv M tm)(ht:tm<=tm')(h2:tm'<=90000):MInv M tm':=by
 refine⟨h.C,h.lg,h.wl,h.inv.imp id (λ⟨G,I⟩=>⟨G,?_⟩)⟩;refine⟨I.ok,by have:=I.Pg;omega,I.Dr,λv hv=>NS.dq (NS.refl G _ 0) ht (I.dq v hv),λk x hk=>⟨(I.cl k x hk).1,?_⟩,?_⟩
 ·obtain⟨a,b,c,d⟩:=(I.cl k x hk).2
  exact⟨a,b,⟨c.1,by omega⟩,d⟩
 ·have F:=I.aJ
  exact{F with jG:=λf a b=>Int.le_trans (F.jG f a b) ht,jn:=λf a=>⟨(F.jn f a).1,Int.le_trans (F.jn f a).2 ht⟩,sr:=⟨F.sr.1,Int.le_trans F.sr.2 ht⟩,few:=Int.le_trans F.few ht}
theorem MInv.step{M:MS}{tm:Int}(h:MInv M tm)(ht:tm+10<=90000)(a v:Int):∃M',M.step a v=some M'/\M'.ws.length=M.ws.length/\MInv M' (tm+10):=by
 by_cases ho:M.co.over=true
 ·exact⟨M,by unfold MS.step;rw[if_pos ho],rfl,h.mono U2 ht⟩
 ·have hs:M.co.status=0:=by
   unfold Co.over at ho;simp only[Bool.or_eq_true,bne_iff_ne,ne_eq,not_or,Decidable.not_not]at ho
   exact ho.1
  rcases h.inv with q|⟨G,I⟩
  ·exact absurd hs q
  ·have pos:=h.wl
   have pl:M.pick a<M.ws.length:=by
    unfold MS.pick;have p0:(0:Int)<(M.ws.length:Int):=by omega
    have:=Int.emod_lt_of_pos (max a 0) p0
    have:=Int.emod_nonneg (max a 0) (by omega:(M.ws.length:Int)≠0)
    omega
   have hx:M.ws[M.pick a]? =some (M.ws[M.pick a]'pl):=List.getElem?_eq_getElem pl;have c:Ctx G M.co.tick (λk=>M.ws[k]?) tm (M.pick a) (M.ws[M.pick a]'pl):=⟨h.C.other rfl rfl rfl rfl rfl rfl rfl rfl,I,hx,by omega⟩;obtain⟨m',x',e1,C',L',r⟩:=c.acts ht v;have eset:(λj=>(M.ws.set (M.pick a) x')[j]?)=Sd (λk=>M.ws[k]?) (M.pick a) (some x'):=by
    funext j
    unfold Sd
    split
    ·rename_i e;rw[e];simp[pl]
    ·rename_i e;exact List.getElem?_set_ne (λz=>e z.symm)
   refine⟨⟨m',M.ws.set (M.pick a) x'⟩,by unfold MS.step;rw[if_neg ho,hx];dsimp only;rw[e1],by simp,⟨C',L',by show 0<(M.ws.set (M.pick a) x').length;rw[List.length_set];exact h.wl,?_⟩⟩
   rcases r with r|⟨G',tm',t1,t2,I'⟩
   ·exact Or.inl r
   ·have Q:MInv ⟨m',M.ws.set (M.pick a) x'⟩ tm':=⟨C',L',by show 0<(M.ws.set (M.pick a) x').length;rw[List.length_set];exact h.wl,Or.inr ⟨G',by show Inv G' m'.vw (λj=>(M.ws.set (M.pick a) x')[j]?) tm';rw[eset];exact I'⟩⟩
    exact(Q.mono t2 ht).inv
theorem JU(pl:Pl)(hp:pl.ok)(ht:pl.th=1)(aj:Int)(ho:aj<=1000)(fold lazy:Bool)(code:List (List Is))(data:List Int):MInv (MS.first pl aj fold lazy code data) 1:=by
 obtain⟨C,I⟩:=JS pl hp ht aj ho fold lazy code data;refine⟨C,I.aJ.wm I.Pg.2,?_,Or.inr ⟨_,I⟩⟩;show 0<((List.range pl.wk.toNat).map WS.first).length;rw[List.length_map,List.length_range];unfold Pl.ok at hp
 omega
end Go.Proofs.YteiignfflbmafaaGreat.Tp
