/- a part of the proof -/
import Derived.Test.YtkfdniccmcolgaaGreatQbi
import Derived.Test.YtkfdniccmcolgaaGreatQat
import Derived.Test.YtkfdniccmcolgaaGreatQax
set_option linter.all false
set_option maxHeartbeats 4000000
set_option maxRecDepth 10000
namespace Go.Va
open Go.Proofs
structure Bnd.Le (n:Int) (b c:Bnd):Prop where
 p: ∀k,k<26→b.P k≠0→c.P k=b.P k
 s: ∀k,k<26→ ¬(b.S1 k=0∧b.S2 k=0)→c.S1 k=b.S1 k∧c.S2 k=b.S2 k
 v:(∀x∈b.v,0≤x∧x≤n)→ ∀x∈c.v,0≤x∧x≤n
theorem Bnd.Le.refl(n:Int)(b:Bnd):b.Le n b:=⟨fun _ _ _=>rfl,fun _ _ _=>⟨rfl,rfl⟩,fun h=>h⟩
theorem Bnd.Le.trans{n:Int}{a b c:Bnd}(h:a.Le n b)(h':b.Le n c):a.Le n c:=
 ⟨fun k hk e=>by rw[←h.p k hk e];exact h'.p k hk (by rw[h.p k hk e];exact e),
 fun k hk e=>by
  have:=h.s k hk e
  have h2:=h'.s k hk (by rw[this.1,this.2];exact e)
  exact⟨h2.1.trans this.1,h2.2.trans this.2⟩,
 fun e=>h'.v (h.v e)⟩
def Bnd.has(b:Bnd)(c:UInt8):Prop:=if 97≤c.toNat then c.toNat<123∧b.S1 (c.toNat - 97)≠0∧b.S2 (c.toNat - 97)≠0 else c.toNat<91∧b.P (c.toNat - 65)≠0
theorem Dz{n:Int}{b c:Bnd}(h:b.Le n c){x:UInt8}(hx:b.has x):C4 c x=C4 b x:=by
 unfold Bnd.has at hx;unfold C4;split at hx
 ·rename_i h1
  rw[if_pos h1,if_pos h1,(h.s _ (by omega) fun e=>hx.2.1 e.1).1,(h.s _ (by omega) fun e=>hx.2.1 e.1).2]
 ·rename_i h1
  rw[if_neg h1,if_neg h1,h.p _ (by omega) hx.2]
theorem DG{n:Int}{b c:Bnd}(h:b.Le n c){x:UInt8}(hx:b.has x):c.has x:=by
 unfold Bnd.has at*;split at hx
 ·rename_i h1
  rw[if_pos h1,(h.s _ (by omega) fun e=>hx.2.1 e.1).1,(h.s _ (by omega) fun e=>hx.2.1 e.1).2]
  exact hx
 ·rename_i h1
  rw[if_neg h1,h.p _ (by omega) hx.2]
  exact hx
theorem HC{n:Int}{b c:Bnd}(h:b.Le n c): ∀{l:List UInt8},(∀x∈l,b.has x)→Bi c l=Bi b l
 |[],_=>rfl
 |x::l,hl=>by
  show C4 c x++Bi c l=C4 b x++Bi b l
  rw[Dz h (hl x (by simp)),HC h fun y hy=>hl y (by simp[hy])]
theorem Bnd.setP_P(b:Bnd){k j:Nat}(x:Int)(hk:k<26):(b.setP k x).P j=if j=k then x else b.P j:=by
 unfold Bnd.setP Bnd.P;have hl:=b.h;simp only[Ar,List.getElem?_set];by_cases e:k=j
 ·subst e;simp[hl,show k<78 by omega]
 ·rw[if_neg e,if_neg fun h=>e h.symm]
theorem Bnd.setP_S(b:Bnd){k j:Nat}(x:Int)(hk:k<26):(b.setP k x).S1 j=b.S1 j∧(b.setP k x).S2 j=b.S2 j:=by
 unfold Bnd.setP Bnd.S1 Bnd.S2;simp only[Ar,List.getElem?_set];rw[if_neg (by omega),if_neg (by omega)]
 exact⟨rfl,rfl⟩
theorem Bnd.setS_P(b:Bnd){k j:Nat}(x y:Int)(hj:j<26):(b.setS k x y).P j=b.P j:=by
 unfold Bnd.setS Bnd.P;simp only[Ar,List.getElem?_set];rw[if_neg (by omega),if_neg (by omega)]
theorem Bnd.setS_S(b:Bnd){k j:Nat}(x y:Int)(hk:k<26):(b.setS k x y).S1 j=(if j=k then x else b.S1 j)∧(b.setS k x y).S2 j=if j=k then y else b.S2 j:=by
 unfold Bnd.setS Bnd.S1 Bnd.S2;have hl:=b.h;simp only[Ar,List.getElem?_set,List.length_set];by_cases e:k=j
 ·subst e;simp[hl,show 26+k*2<78 by omega,show 26+k*2+1<78 by omega]
 ·rw[if_neg (by omega),if_neg (by omega),if_neg (by omega),if_neg (by omega),if_neg (by omega),if_neg (by omega)]
  exact⟨rfl,rfl⟩
theorem F4{n:Int}{l:List Int}(h: ∀x∈l,0≤x∧x≤n){k:Nat}{y:Int}(hy:0≤y∧y≤n): ∀x∈l.set k y,0≤x∧x≤n:=fun x hx=>by
 rcases List.mem_or_eq_of_mem_set hx with h1|h1
 ·exact h x h1
 ·subst h1;exact hy
theorem Eb{n:Int}{b c:Bnd}{k:Nat}{p:Int}(hk:k<26)(hp:0≤p∧p<n)(h:b.point k p=some c):b.Le n c∧c.P k=p+1:=by
 unfold Bnd.point at h;split at h
 ·cases h
 ·rename_i h1
  cases h;refine⟨⟨fun j hj e=> ?_,fun j hj e=>b.setP_S (p+1) hk,fun e=>F4 e (by omega)⟩,by rw[b.setP_P (p+1) hk,if_pos rfl]⟩
  rw[b.setP_P (p+1) hk]
  split
  ·rename_i e2
   subst e2;exact(Classical.not_not.1 fun e3=>h1 ⟨e,fun e4=>e3 e4.symm⟩)
  ·rfl
theorem UR{n:Int}{b c:Bnd}{k:Nat}{s:Int×Int}(hk:k<26)(h1:0≤s.1∧s.1<n)(h2:0≤s.2∧s.2<n)(h:b.segment k s=some c):b.Le n c∧c.S1 k=s.1+1∧c.S2 k=s.2+1:=by
 unfold Bnd.segment at h;split at h
 ·cases h
 ·rename_i h3
  cases h;have hs:=fun j=>b.setS_S (k:=k) (j:=j) (s.1+1) (s.2+1) hk
  refine⟨⟨fun j hj e=>b.setS_P _ _ hj,fun j hj e=> ?_,fun e=>F4 (F4 e (by omega)) (by omega)⟩,by rw[(hs k).1,if_pos rfl],by rw[(hs k).2,if_pos rfl]⟩
  rw[(hs j).1,(hs j).2]
  by_cases e2:j=k
  ·subst e2;rw[if_pos rfl,if_pos rfl];have:=Classical.not_not.1 fun e3=>h3 ⟨e,e3⟩
   exact⟨this.1.symm,this.2.symm⟩
  ·rw[if_neg e2,if_neg e2]
   exact⟨rfl,rfl⟩
theorem Eh{b:Bnd}{x:UInt8}(hx:cap x){p:Int}(hp:0≤p)(h:b.P (x.toNat - 65)=p+1):b.has x∧C4 b x=[p]:=by
 unfold cap at hx;unfold Bnd.has C4;rw[if_neg (by omega),if_neg (by omega),h]
 exact⟨⟨hx.2,by omega⟩,by rw[show p+1 - 1=p by omega]⟩
theorem NL{b:Bnd}{x:UInt8}(h1:97≤x.toNat)(h2:x.toNat<123){s:Int×Int}(hs:0≤s.1)(hs2:0≤s.2)(h:b.S1 (x.toNat - 97)=s.1+1∧b.S2 (x.toNat - 97)=s.2+1):b.has x∧C4 b x=[s.1,s.2]:=by
 unfold Bnd.has C4;rw[if_pos h1,if_pos h1,h.1,h.2];exact⟨⟨h2,by omega,by omega⟩,by rw[show s.1+1 - 1=s.1 by omega,show s.2+1 - 1=s.2 by omega]⟩
theorem KG{n:Int}: ∀(l:List UInt8) (pts:List Int) (b:Bnd),(∀x∈l,cap x)→(∀p∈pts,0≤p∧p<n)→ ∀c∈mp l pts b,b.Le n c∧(∀x∈l,c.has x)∧ ∃rest,(Bi c l++rest).Perm pts
 |[],pts,b,_,_,c,hc=>by
  simp only[mp,List.mem_singleton]at hc;subst hc;exact⟨.refl _ _,by simp,pts,.refl _⟩
 |x::l,pts,b,hl,hp,c,hc=>by
  simp only[mp,List.mem_flatMap,List.mem_range]at hc;obtain⟨i,hi,hc⟩:=hc;have hx:=hl x (by simp)
  have hpi:0≤pts[i]∧pts[i]<n:=hp _ (Ak hi);have eg:pts.getD i 0=pts[i]:=by rw[Ar,Ai hi];rfl
  rw[eg]at hc
  split at hc
  ·cases hc
  ·rename_i b' e
   obtain⟨l1,e1⟩:=Eb (by unfold cap at hx;omega) hpi e
   obtain⟨l2,h2,rest,h3⟩:=KG l (pts.eraseIdx i) b' (fun y hy=>hl y (by simp[hy])) (fun p h=>hp p (List.mem_of_mem_eraseIdx h)) c hc
   obtain⟨g1,g2⟩:=Eh hx hpi.1 e1
   refine⟨l1.trans l2,?_,rest,?_⟩
   ·intro y hy;rcases jzn.1 hy with rfl|hy
    ·exact DG l2 g1
    ·exact h2 y hy
   ·show((C4 c x++Bi c l)++rest).Perm pts
    rw[Dz l2 g1,g2]
    refine(h3.cons pts[i]).trans ?_
    rw[List.eraseIdx_eq_take_drop_succ]
    exact List.perm_middle.symm.trans (by rw[←AD hi,List.take_append_drop])
theorem Vi(a b:Int):Ah a b=Ah b a:=by
 unfold Ah lo hi;split<;>split<;>(try split)<;>(try split)<;>simp<;>omega
theorem Bf{s:Int×Int}(h:s.1≤s.2):Ah s.1 s.2=s:=by
 unfold Ah lo hi;rw[if_neg (by omega)]
 split
 ·rfl
 ·exact Prod.ext rfl (by simp;omega)
theorem Gj{n:Int}: ∀(m:Nat) (ls:List UInt8) (l:List (Int×Int)) (b:Bnd),ls.length≤m→CN ls l→(∀s∈l,0≤s.1∧s.1≤s.2∧s.2<n)→ ∀c∈ms ls l b,b.Le n c∧(∀x∈ls,c.has x)∧ ∃rest,l=AW (Bi c ls)++rest
 |_,[],l,b,_,_,_,c,hc=>by
  simp only[ms,List.mem_singleton]at hc;subst hc;exact⟨.refl _ _,by simp,l,rfl⟩
 |_,_::_,[],_,_,hk,_,_,_=>by simp[CN]at hk
 |m+1,x::ls,s::l,b,hm,hk,hs,c,hc=>by
  have h0:=hs s (by simp)
  have hs': ∀t∈l,0≤t.1∧t.1≤t.2∧t.2<n:=fun t ht=>hs t (by simp[ht])
  by_cases hx:97≤x.toNat
  ·rw[J4 hx]at hc
   rw[No hx]at hk
   split at hc
   ·cases hc
   ·rename_i b' e
    obtain⟨l1,e1⟩:=UR (n:=n) (by omega) (by omega) (by omega) e
    obtain⟨l2,h2,rest,h3⟩:=Gj m ls l b' (by simp at hm;omega) hk.2 hs' c hc
    obtain⟨g1,g2⟩:=NL hx hk.1 h0.1 (by omega) e1
    refine⟨l1.trans l2,?_,rest,?_⟩
    ·intro y hy;rcases jzn.1 hy with rfl|hy
     ·exact DG l2 g1
     ·exact h2 y hy
    ·have e3:Bi c (x::ls)=s.1::s.2::Bi c ls:=by
      show C4 c x++Bi c ls=_
      rw[Dz l2 g1,g2];rfl
     rw[e3,AW,Bf h0.2.1,List.cons_append,←h3]
  ·obtain⟨y,r,rfl,cx,cy,hk⟩:=Qc hx hk
   rw[LP hx]at hc
   have key: ∀p q,(0≤p∧p<n)→(0≤q∧q<n)→Ah p q=s→c∈DU x y r l b p q→b.Le n c∧(∀z∈x::y::r,c.has z)∧ ∃rest,s::l=AW (Bi c (x::y::r))++rest:=by
    intro p q hp hq e hc;unfold DU at hc;split at hc
    ·cases hc
    ·rename_i b1 e1
     split at hc
     ·cases hc
     ·rename_i b2 e2
      obtain⟨l1,f1⟩:=Eb (by unfold cap at cx;omega) hp e1
      obtain⟨l2,f2⟩:=Eb (by unfold cap at cy;omega) hq e2
      obtain⟨l3,h3,rest,h4⟩:=Gj m r l b2 (by simp at hm;omega) hk hs' c hc
      obtain⟨g1,g2⟩:=Eh cx hp.1 f1
      obtain⟨g3,g4⟩:=Eh cy hq.1 f2
      refine⟨l1.trans (l2.trans l3),?_,rest,?_⟩
      ·intro z hz;rcases jzn.1 hz with rfl|hz
       ·exact DG (l2.trans l3) g1
       rcases jzn.1 hz with rfl|hz
       ·exact DG l3 g3
       ·exact h3 z hz
      ·have e3:Bi c (x::y::r)=p::q::Bi c r:=by
        show C4 c x++(C4 c y++Bi c r)=_
        rw[Dz (l2.trans l3) g1,g2,Dz l3 g3,g4];rfl
       rw[e3,AW,e,List.cons_append,←h4]
   rcases List.mem_append.1 hc with hc|hc
   ·exact key _ _ (by omega) (by omega) (Bf h0.2.1) hc
   ·split at hc
    ·cases hc
    ·exact key _ _ (by omega) (by omega) ((Vi _ _).trans (Bf h0.2.1)) hc
theorem Fb{α:Type}{P:List α→Prop}(hs: ∀a b l1 l2,P (l1++a::b::l2)→P (l1++b::a::l2)){l m:List α}(h:l.Perm m): ∀pre,P (pre++l)→P (pre++m):=by
 induction h with
 |nil=>exact fun _ h=>h
 |cons x _ ih=>
  intro pre h;have h2:=ih (pre++[x]);simp only[List.append_assoc,List.cons_append,List.nil_append]at h2;exact h2 h
 |swap x y l=>exact fun pre h=>hs _ _ _ _ h
 |trans _ _ ih1 ih2=>exact fun pre h=>ih2 pre (ih1 pre h)
theorem E2{W:Int→Pq}{r:Rat}{l m:List Int}(h:l.Perm m)(hl:l.length=3)(hv:AB W 1 r l):AB W 1 r m:=by
 refine Fb (P:=fun l=>l.length=3→AB W 1 r l) (fun a b l1 l2 hp hn=> ?_) h [] (fun _=>hv) (by rw[List.nil_append,←h.length_eq,hl])
 have hp:=hp (by simpa using hn)
 rcases l1 with _|⟨c,_|⟨d,l1⟩⟩<;>rcases l2 with _|⟨e,_|⟨f,l2⟩⟩<;>simp at hn<;>(try omega)
 all_goals
  simp only[List.nil_append,List.cons_append,ES]at*;unfold vec Pq.cross at*
  grind
theorem Hw{W:Int→Pq}{r:Rat}{l m:List Int}(h:l.Perm m)(hl:l.length=4)(hv:AB W 6 r l):AB W 6 r m:=by
 refine Fb (P:=fun l=>l.length=4→AB W 6 r l) (fun a b l1 l2 hp hn=> ?_) h [] (fun _=>hv) (by rw[List.nil_append,←h.length_eq,hl])
 have hp:=hp (by simpa using hn)
 rcases l1 with _|⟨c,_|⟨d,_|⟨g,l1⟩⟩⟩<;>rcases l2 with _|⟨e,_|⟨f,_|⟨i,l2⟩⟩⟩<;>simp at hn<;>(try omega)
 all_goals
  simp only[List.nil_append,List.cons_append,JN]at*;unfold leanQ vec Pq.cross Pq.dot at*
  grind
theorem Kn{W:Int→Pq}{r:Rat}{l m:List Int}(h:l.Perm m)(hl:l.length=2)(hv:AB W 8 r l):AB W 8 r m:=by
 refine Fb (P:=fun l=>l.length=2→AB W 8 r l) (fun a b l1 l2 hp hn=> ?_) h [] (fun _=>hv) (by rw[List.nil_append,←h.length_eq,hl])
 have hp:=hp (by simpa using hn)
 rcases l1 with _|⟨c,l1⟩<;>rcases l2 with _|⟨e,l2⟩<;>simp at hn<;>(try omega)
 simp only[List.nil_append,Gl]at*;exact⟨by grind,by grind⟩
theorem Re{W:Int→Pq}{k:Int}{l m:List Int}(h:l.Perm m)(hv:BW W k l):BW W k m:=by
 refine Fb (P:=fun l=>BW W k l) (fun a b l1 l2 hp=> ?_) h [] hv
 by_cases hk:k=1
 ·subst hk
  match l1,l2 with
  |[],[]=>
   simp only[List.nil_append,List.cons_append,Kt]at*;exact fun e=>hp ⟨e.1.symm,e.2.symm⟩
  |[],c::l=>simp[BW]
  |[c],l=>simp[BW]
  |c::d::l1,l=>simp[BW]
 ·unfold BW at*;rw[if_neg hk]at*
  match l1,l2 with
  |[],[]=>simp
  |[],[c]=>
   simp only[List.nil_append,List.cons_append]at*;unfold vec Pq.cross at*
   grind
  |[],c::d::l=>simp
  |[c],[]=>
   simp only[List.nil_append,List.cons_append]at*;unfold vec Pq.cross at*
   grind
  |[c],d::l=>simp
  |c::d::l1,l=>cases l1<;>simp
def dv(W:Int→Pq)(s:Int×Int):Pq:=vec (W s.1) (W s.2)
def Bg(W:Int→Pq)(k:Int)(r:Rat):List (Int×Int)→Prop
 |[s,t]=>if k=2 then (dv W s).cross (dv W t)=0 else if k=3 then (dv W s).dot (dv W t)=0 else (dv W s).dot (dv W s)=(if k=4 then 1 else r)*(dv W t).dot (dv W t)
 |[u,v,w,z]=>A9 (dv W u) (dv W v) (dv W w) (dv W z)=0
 |_=>True
theorem DP(W:Int→Pq)(a b:Int):dv W (Ah a b)=vec (W a) (W b)∨((dv W (Ah a b)).x= -(vec (W a) (W b)).x∧(dv W (Ah a b)).y= -(vec (W a) (W b)).y):=by
 unfold Ah lo hi;by_cases h:b<a
 ·refine .inr ?_;rw[if_pos h,if_neg (by omega)]
  unfold dv vec;simp only;exact⟨by grind,by grind⟩
 ·rw[if_neg h]
  by_cases h2:a<b
  ·rw[if_pos h2];exact .inl rfl
  ·rw[if_neg h2,show a=b by omega];exact .inl rfl
theorem DW{u u':Pq}(h:u=u'∨(u.x= -u'.x∧u.y= -u'.y)): ∃s:Rat,s*s=1∧u.x=s*u'.x∧u.y=s*u'.y:=by
 rcases h with rfl|h
 ·exact⟨1,by grind,by grind,by grind⟩
 ·exact⟨-1,by grind,by grind,by grind⟩
theorem Cm{W:Int→Pq}{k:Int}{r:Rat}(hk:k=2∨k=3∨k=4∨k=9)(a b c d:Int):AB W k r [a,b,c,d]↔Bg W k r (AW [a,b,c,d]):=by
 obtain⟨s1,q1,x1,y1⟩:=DW (DP W a b)
 obtain⟨s2,q2,x2,y2⟩:=DW (DP W c d)
 rw[show AW [a,b,c,d]=[Ah a b,Ah c d] from rfl,Bg]
 generalize dv W (Ah a b)=u at*;generalize dv W (Ah c d)=v at*;have e2:s1*s2*(s1*s2)=1:=by grind
 have e3:s1*s2≠0:=by intro e;rw[e]at e2;grind
 rcases hk with rfl|rfl|rfl|rfl
 ·rw[van2,if_pos rfl]
  have e:u.cross v=s1*s2*(vec (W a) (W b)).cross (vec (W c) (W d)):=by
   unfold Pq.cross;rw[x1,x2,y1,y2]
   grind
  rw[e]
  exact⟨fun h=>by rw[h];grind,fun h=>B4 h e3⟩
 ·rw[IT,if_neg (by decide),if_pos rfl]
  have e:u.dot v=s1*s2*(vec (W a) (W b)).dot (vec (W c) (W d)):=by
   unfold Pq.dot;rw[x1,x2,y1,y2]
   grind
  rw[e]
  exact⟨fun h=>by rw[h];grind,fun h=>B4 h e3⟩
 ·rw[IF,if_neg (by decide),if_neg (by decide),if_pos rfl]
  have e4:u.dot u=A5 (W a) (W b):=by
   unfold A5 Pq.dot;rw[x1,y1]
   grind
  have e5:v.dot v=A5 (W c) (W d):=by
   unfold A5 Pq.dot;rw[x2,y2]
   grind
  rw[e4,e5]
  grind
 ·rw[Kz,if_neg (by decide),if_neg (by decide),if_neg (by decide)]
  have e4:u.dot u=A5 (W a) (W b):=by
   unfold A5 Pq.dot;rw[x1,y1]
   grind
  have e5:v.dot v=A5 (W c) (W d):=by
   unfold A5 Pq.dot;rw[x2,y2]
   grind
  rw[e4,e5]
  grind
theorem E0{W:Int→Pq}{r:Rat}(a b c d e f g h:Int):AB W 7 r [a,b,c,d,e,f,g,h]↔Bg W 7 r (AW [a,b,c,d,e,f,g,h]):=by
 obtain⟨s1,q1,x1,y1⟩:=DW (DP W a b)
 obtain⟨s2,q2,x2,y2⟩:=DW (DP W c d)
 obtain⟨s3,q3,x3,y3⟩:=DW (DP W e f)
 obtain⟨s4,q4,x4,y4⟩:=DW (DP W g h)
 rw[show AW [a,b,c,d,e,f,g,h]=[Ah a b,Ah c d,Ah e f,Ah g h] from rfl,Bg]
 rw[JE,TY]
 generalize dv W (Ah a b)=u at*;generalize dv W (Ah c d)=v at*;generalize dv W (Ah e f)=w at*;generalize dv W (Ah g h)=z at*;generalize vec (W a) (W b)=u' at*;generalize vec (W c) (W d)=v' at*;generalize vec (W e) (W f)=w' at*;generalize vec (W g) (W h)=z' at*;have e1:A9 u v w z=s1*s2*s3*s4*A9 u' v' w' z':=by
  unfold A9 Pq.cross Pq.dot;rw[x1,x2,x3,x4,y1,y2,y3,y4]
  grind
 have e2:s1*s2*s3*s4*(s1*s2*s3*s4)=1:=by grind
 rw[e1]
 constructor
 ·intro h1;rw[h1];grind
 ·intro h1;exact B4 h1 (by intro e;rw[e]at e2;grind)
def CA(l:List UInt8):Nat:=l.foldr (fun x n=>(if 97≤x.toNat then 2 else 1)+n) 0
theorem FG(b:Bnd): ∀l:List UInt8,(Bi b l).length=CA l
 |[]=>rfl
 |x::l=>by
  show(C4 b x++Bi b l).length=(if 97≤x.toNat then 2 else 1)+CA l
  rw[List.length_append,FG b l]
  unfold C4;split<;>rfl
theorem EI{k:Int}(h:arity k≠0):k=1∨k=2∨k=3∨k=4∨k=5∨k=6∨k=7∨k=8∨k=9:=by
 unfold arity at h;split at h
 ·omega
 split at h
 ·omega
 split at h
 ·omega
 split at h
 ·omega
 ·exact absurd rfl h
theorem Eg{W:Int→Pq}{k:Int}{r r':Rat}{l:List Int}(h0:arity k≠0)(hk:k≠9)(h:AB W k r l):AB W k r' l:=by
 rcases EI h0 with e|e|e|e|e|e|e|e|e
 all_goals first|exact absurd e hk|(subst e;exact h)
theorem Kk{W:Int→Pq}{k:Int}(hk:k=2∨k=3∨k=4){r:Rat}{s t:Int×Int}(h:Bg W k r [s,t]):Bg W k r [t,s]:=by
 rw[Bg]at h
 rw[Bg]
 rcases hk with rfl|rfl|rfl
 ·rw[if_pos rfl]at h ⊢
  unfold Pq.cross at*
  grind
 ·rw[if_neg (by decide),if_pos rfl]at h ⊢
  unfold Pq.dot at*
  grind
 ·rw[if_neg (by decide),if_neg (by decide),if_pos rfl]at h ⊢
  grind
theorem FV(u v w z:Pq):A9 u w v z=A9 u v w z:=by unfold A9 Pq.cross Pq.dot;grind
theorem GF(u v w z:Pq):A9 z v w u=A9 u v w z:=by unfold A9 Pq.cross Pq.dot;grind
theorem Qv(u v w z:Pq):A9 v u z w= - A9 u v w z:=by unfold A9 Pq.cross Pq.dot;grind
theorem Ke{W:Int→Pq}{r:Rat}{u v w z:Int×Int}(h:Bg W 7 r [u,v,w,z]): ∀l∈[[u,v,w,z],[u,w,v,z],[z,v,w,u],[z,w,v,u],[v,u,z,w],[v,z,u,w],[w,u,z,v],[w,z,u,v]],Bg W 7 r l:=by
 rw[Bg]at h
 generalize e1:dv W u=a at*;generalize e2:dv W v=b at*;generalize e3:dv W w=c at*;generalize e4:dv W z=d at*;have f1:=FV a b c d;have f2:=GF a b c d;have f3:=GF a c b d;have f4:=Qv a b c d;have f5:=GF b a d c;have f6:=FV b a d c;have f7:=FV c a d b;simp only[jzn,AM,or_false,forall_eq_or_imp,forall_eq,Bg,e1,e2,e3,e4];refine⟨h,?_,?_,?_,?_,?_,?_,?_⟩<;>grind
theorem TZ{W:Int→Pq}{r:Rat}{a b c:Int}(h:AB W 1 r [a,b,c]): ∀l∈[[Ah a b,Ah a c],[Ah a b,Ah b c],[Ah a c,Ah a b],[Ah a c,Ah b c],[Ah b c,Ah a b],[Ah b c,Ah a c]],Bg W 2 0 l:=by
 rw[ES]at h
 have key: ∀p q s t:Int,(vec (W p) (W q)).cross (vec (W s) (W t))=0→Bg W 2 0 [Ah p q,Ah s t]:=fun p q s t e=>(Cm (.inl rfl) p q s t).1 (van2.2 e)
 simp only[jzn,AM,or_false,forall_eq_or_imp,forall_eq];unfold vec Pq.cross at*;refine⟨key _ _ _ _ ?_,key _ _ _ _ ?_,key _ _ _ _ ?_,key _ _ _ _ ?_,key _ _ _ _ ?_,key _ _ _ _ ?_⟩<;>(simp only;grind)
theorem IH(a b:Int):lo a b≤hi a b:=by unfold lo hi;split<;>split<;>omega
theorem CO{n a b:Int}(ha:0≤a∧a<n)(hb:0≤b∧b<n):0≤(Ah a b).1∧(Ah a b).1≤(Ah a b).2∧(Ah a b).2<n:=by
 have:=IH a b
 unfold Ah;refine⟨?_,this,?_⟩
 ·unfold lo;simp only;split<;>omega
 ·unfold hi;simp only;split<;>omega
theorem FC{n:Int}{W:Int→Pq}{k:Int}{ls:List UInt8}{l:List (Int×Int)}{b c:Bnd}(hk:(k=2∨k=3∨k=4)∧CA ls=4∧l.length=2∨k=7∧CA ls=8∧l.length=4)(ho:CN ls l)(hs: ∀s∈l,0≤s.1∧s.1≤s.2∧s.2<n)(hv:Bg W k 0 l)(hc:c∈ms ls l b):
  b.Le n c∧(∀x∈ls,c.has x)∧AB W k 0 (Bi c ls):=by
 obtain⟨h1,h2,rest,h3⟩:=Gj ls.length ls l b (AA _) ho hs c hc
 refine⟨h1,h2,?_⟩
 have hlen:=FG c ls;rcases hk with⟨hk,hl,hl2⟩|⟨hk,hl,hl2⟩
 ·rw[hl]at hlen
  generalize Bi c ls=vs at*;rcases vs with _|⟨p,_|⟨q,_|⟨s,_|⟨t,_|⟨u,vs⟩⟩⟩⟩⟩<;>simp at hlen
  have:rest=[]:=by
   have:=congrArg List.length h3
   rw[List.length_append,hl2]at this
   simp only[AW,List.length_cons,List.length_nil]at this;exact jzv.1 (by omega)
  rw[this,List.append_nil]at h3
  exact(Cm (by omega) p q s t).2 (h3 ▸ hv)
 ·rw[hl]at hlen
  generalize Bi c ls=vs at*;rcases vs with _|⟨p,_|⟨q,_|⟨s,_|⟨t,_|⟨p',_|⟨q',_|⟨s',_|⟨t',_|⟨u,vs⟩⟩⟩⟩⟩⟩⟩⟩⟩<;>simp at hlen
  have:rest=[]:=by
   have:=congrArg List.length h3
   rw[List.length_append,hl2]at this
   simp only[AW,List.length_cons,List.length_nil]at this;exact jzv.1 (by omega)
  rw[this,List.append_nil]at h3
  subst hk;exact E0 p q s t p' q' s' t'|>.2 (h3 ▸ hv)
theorem KJ{n:Int}{W:Int→Pq}{x y z:UInt8}(hx:cap x)(hy:cap y)(hz:cap z){b c:Bnd}{m p q:Int}(hm:0≤m∧m<n)(hp:0≤p∧p<n)(hq:0≤q∧q<n)(hv:AB W 5 0 [m,p,q])(hc:c∈Dx (x.toNat - 65) (y.toNat - 65) (z.toNat - 65) b m p q):
  b.Le n c∧(∀w∈[x,y,z],c.has w)∧AB W 5 0 (Bi c [x,y,z]):=by
 unfold Dx at hc;split at hc
 ·cases hc
 rename_i b1 e1
 split at hc
 ·cases hc
 rename_i b2 e2
 split at hc
 ·cases hc
 rename_i b3 e3
 rw[List.mem_singleton]at hc
 subst hc;unfold cap at*;obtain⟨l1,f1⟩:=Eb (by omega) hm e1
 obtain⟨l2,f2⟩:=Eb (by omega) hp e2
 obtain⟨l3,f3⟩:=Eb (by omega) hq e3
 obtain⟨g1,g2⟩:=Eh hx hm.1 f1
 obtain⟨g3,g4⟩:=Eh hy hp.1 f2
 obtain⟨g5,g6⟩:=Eh hz hq.1 f3
 refine⟨l1.trans (l2.trans l3),?_,?_⟩
 ·simp only[jzn,AM,or_false,forall_eq_or_imp,forall_eq];exact⟨DG (l2.trans l3) g1,DG l3 g3,g5⟩
 ·have e:Bi c [x,y,z]=[m,p,q]:=by
   show C4 c x++(C4 c y++(C4 c z++[]))=_
   rw[Dz (l2.trans l3) g1,g2,Dz l3 g3,g4,g6]
   rfl
  rw[e]
  exact hv
theorem Xu{n:Int}{W:Int→Pq}{p:Pat}{f:Fct}{r:Rat}(hp:p.Fit)(hlen:CA p.letters=arity p.kind)(h0:arity f.kind≠0)(hl:f.args.length=arity f.kind)(ha: ∀a∈f.args,0≤a∧a<n)(hv:AB W f.kind r f.args)(b:Bnd):
  ∀c∈C5 p f b,b.Le n c∧(∀x∈p.letters,c.has x)∧AB W p.kind 0 (Bi c p.letters):=by
 intro c hc;obtain⟨kind,args,neg,abs,den⟩:=f;obtain⟨pk,ls,pn⟩:=p;simp only at*;unfold C5 at hc;simp only at hc;rcases hp.2 with⟨hk,hcap⟩|⟨hk,c1,c2,c3,e,k1,k2,k3⟩|⟨hk,ho⟩|⟨hk,ho⟩
 ·rw[if_pos hk]at hc
  split at hc
  ·rename_i hkk
   subst hkk;obtain⟨h1,h2,rest,h3⟩:=KG ls args b hcap ha c hc;refine⟨h1,h2,?_⟩;have hlen2:=FG c ls;have:rest=[]:=by
    have:=h3.length_eq
    rw[List.length_append]at this
    exact jzv.1 (by omega)
   rw[this,List.append_nil]at h3
   have hv2:=Eg (r':=0) h0 (by rcases hk with rfl|rfl|rfl<;>decide) hv
   rcases hk with rfl|rfl|rfl
   ·exact E2 h3.symm hl hv2
   ·exact Hw h3.symm hl hv2
   ·exact Kn h3.symm hl hv2
  ·cases hc
 ·simp only at hk e;subst hk e;rw[if_neg (by decide),if_pos rfl]at hc
  split at hc
  ·rename_i hkk
   subst hkk;have hl3:args.length=3:=hl;rcases args with _|⟨m,_|⟨u,_|⟨v,_|⟨w,args⟩⟩⟩⟩<;>simp at hl3
   have hm:=ha m (by simp)
   have hu:=ha u (by simp)
   have hv':=ha v (by simp)
   have hv2:AB W 5 0 [m,u,v]:=hv;have hv3:AB W 5 0 [m,v,u]:=by
    rw[Hv]at*
    exact⟨by grind,by grind⟩
   simp only[List.mem_append]at hc;rcases hc with hc|hc
   ·exact KJ k1 k2 k3 hm hu hv' hv2 hc
   ·exact KJ k1 k2 k3 hm hv' hu hv3 hc
  ·cases hc
 ·simp only at hk ho;rw[if_neg (by omega),if_neg (by omega)]at hc
  rw[List.mem_flatMap]at hc
  obtain⟨l,hl2,hc⟩:=hc
  have hlb:CA ls=4:=by rw[hlen];rcases hk with rfl|rfl|rfl<;>rfl
  unfold BL at hl2;simp only at hl2;split at hl2
  ·rename_i hkk
   obtain⟨rfl,rfl⟩:=hkk
   have hl3:args.length=3:=hl
   rcases args with _|⟨x,_|⟨y,_|⟨z,_|⟨w,args⟩⟩⟩⟩<;>simp at hl3
   have hx:=ha x (by simp)
   have hy:=ha y (by simp)
   have hz:=ha z (by simp)
   have r1:=CO hx hy;have r2:=CO hx hz;have r3:=CO hy hz;have hvs:=TZ hv l hl2;have: ∃s t,l=[s,t]∧(0≤s.1∧s.1≤s.2∧s.2<n)∧(0≤t.1∧t.1≤t.2∧t.2<n):=by
    simp only[List.getD_cons_zero,List.getD_cons_succ,jzn,AM,or_false]at hl2;rcases hl2 with rfl|rfl|rfl|rfl|rfl|rfl
    ·exact⟨_,_,rfl,r1,r2⟩
    ·exact⟨_,_,rfl,r1,r3⟩
    ·exact⟨_,_,rfl,r2,r1⟩
    ·exact⟨_,_,rfl,r2,r3⟩
    ·exact⟨_,_,rfl,r3,r1⟩
    ·exact⟨_,_,rfl,r3,r2⟩
   obtain⟨s,t,rfl,q1,q2⟩:=this
   exact FC (.inl ⟨hk,hlb,rfl⟩) (ho _ _) (by simp only[jzn,AM,or_false,forall_eq_or_imp,forall_eq];exact⟨q1,q2⟩) hvs hc
  ·split at hl2
   ·cases hl2
   ·rename_i hkk
    have hkk:=Classical.not_not.1 hkk;subst hkk;have hl4:args.length=4:=by rw[hl];rcases hk with rfl|rfl|rfl<;>rfl
    rcases args with _|⟨x,_|⟨y,_|⟨z,_|⟨w,_|⟨v,args⟩⟩⟩⟩⟩<;>simp at hl4
    have r1:=CO (ha x (by simp)) (ha y (by simp))
    have r2:=CO (ha z (by simp)) (ha w (by simp))
    have hv2:=(Cm (r:=0) (by omega) x y z w).1 (Eg h0 (by omega) hv)
    have hv3:=Kk hk hv2;simp only[AW,jzn,AM,or_false]at hl2;rcases hl2 with rfl|rfl
    ·exact FC (.inl ⟨hk,hlb,rfl⟩) (ho _ _) (by simp only[jzn,AM,or_false,forall_eq_or_imp,forall_eq];exact⟨r1,r2⟩) hv2 hc
    ·exact FC (.inl ⟨hk,hlb,rfl⟩) (ho _ _) (by simp only[jzn,AM,or_false,forall_eq_or_imp,forall_eq];exact⟨r2,r1⟩) hv3 hc
 ·simp only at hk ho;subst hk;rw[if_neg (by omega),if_neg (by omega)]at hc
  rw[List.mem_flatMap]at hc
  obtain⟨l,hl2,hc⟩:=hc
  unfold BL at hl2;simp only at hl2;rw[if_neg (by omega)]at hl2
  split at hl2
  ·cases hl2
  ·rename_i hkk
   have hkk:=Classical.not_not.1 hkk;subst hkk;have hl8:args.length=8:=hl;rcases args with _|⟨x,_|⟨y,_|⟨z,_|⟨w,_|⟨x',_|⟨y',_|⟨z',_|⟨w',_|⟨v,args⟩⟩⟩⟩⟩⟩⟩⟩⟩<;>simp at hl8
   have r1:=CO (ha x (by simp)) (ha y (by simp))
   have r2:=CO (ha z (by simp)) (ha w (by simp))
   have r3:=CO (ha x' (by simp)) (ha y' (by simp))
   have r4:=CO (ha z' (by simp)) (ha w' (by simp))
   have hv2:=Ke ((E0 (r:=0) x y z w x' y' z' w').1 (Eg h0 (by omega) hv))
   simp only[AW]at hl2;have hv3:=hv2 l hl2;have:l.length=4∧ ∀s∈l,s=Ah x y∨s=Ah z w∨s=Ah x' y'∨s=Ah z' w':=by
    simp only[jzn,AM,or_false]at hl2;rcases hl2 with rfl|rfl|rfl|rfl|rfl|rfl|rfl|rfl<;>refine⟨rfl,fun s hs=> ?_⟩<;>simp only[jzn,AM,or_false]at hs<;>rcases hs with h|h|h|h<;>simp[h]
   obtain⟨q1,q2⟩:=this
   have hok:CN ls l:=by
    rcases l with _|⟨s,_|⟨t,_|⟨u,_|⟨v,_|⟨v',l⟩⟩⟩⟩⟩<;>simp at q1
    exact ho s t u v
   exact FC (.inr ⟨rfl,hlen,q1⟩) hok (fun s hs=>by rcases q2 s hs with rfl|rfl|rfl|rfl<;>assumption) hv3 hc
end Go.Va
