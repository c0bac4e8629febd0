/- a part of the proof -/
import Derived.Test.YtkajmpgbnbikiaaGreatDoorMad
import Derived.Tactics
set_option linter.all false
namespace Go.Va
open Go.RowKit
section
variable {P:Program} {T:Au} {M Z:Addr→Prop} {w0 w:World} {ρ:As} {st:St} {a:Act}
theorem HD{Z':Addr→Prop}{w':World}{x:D}{v:Value}(hf:x.flat=true)(h:RepD w Z x v):RepD w' Z' x v:=by
 cases h with
 |int k n=>exact .int k n
 |bool b=>exact .bool b
 |str s=>exact .str s
 |nilFn=>exact .nilFn
 |nilPtr=>exact .nilPtr
 |lit _ h=>exact .lit _ h
 |any _ h=>exact .any _ h
 |slice=>cases hf
 |snil=>cases hf
 |ref=>cases hf
 |iface=>cases hf
 |fn=>cases hf
theorem PQ{ρs ρ2:As}{Zc:Addr→Prop}{w':World}{k:Nat}{fl:Bool}(tr: ∀x v,(fl=true→D.flat x=true)→RepD w' (Aj ρs Zc) x v→RepD w' (Aj ρ2 Z) x v)(hk: ∀o,ρs k=some o→ρ2 k=some o)
  {c:RC} {v:Value} (hfl:fl=true→c.flat=true) (h:RepC ρs w' Zc (c.imp k) v):RepC ρ2 w' Z (c.imp k) v:=by
 cases c with
 |d x=>exact tr x v hfl h
 |own sz n cs=>obtain⟨o,ho,r⟩:=h;exact⟨o,hk o ho,r⟩
theorem Tw{ρs ρ2:As}{Zc:Addr→Prop}{w':World}{k:Nat}{fl:Bool}(tr: ∀x v,(fl=true→D.flat x=true)→RepD w' (Aj ρs Zc) x v→RepD w' (Aj ρ2 Z) x v)(hk: ∀o,ρs k=some o→ρ2 k=some o)
  {u:RU} {v:Value} (hfl:fl=true→u.flat=true) (h:RepU ρs w' Zc (u.imp k) v):RepU ρ2 w' Z (u.imp k) v:=by
 cases u with
 |c x=>exact PQ tr hk hfl h
 |agg cs=>
  obtain⟨vs,rfl,h1,h2⟩:=h
  refine⟨vs,rfl,h1,fun j c v hc hv=> ?_⟩
  have hr:=h2 j c v hc hv;simp only[Bi,jze]at hc;obtain⟨c0,hc0,rfl⟩:=hc;refine PQ tr hk (fun hf=> ?_) hr
  have:=hfl hf
  simp only[RU.flat,jzy]at this;exact this _ (BB hc0)
theorem L8{ρs ρ2:As}{Zc:Addr→Prop}{w':World}{k:Nat}{fl:Bool}(tr: ∀x v,(fl=true→D.flat x=true)→RepD w' (Aj ρs Zc) x v→RepD w' (Aj ρ2 Z) x v)(hk: ∀o,ρs k=some o→ρ2 k=some o)
  {r:R} {v:Value} (hfl:fl=true→r.flat=true) (h:RepV ρs w' Zc (r.imp k) v):RepV ρ2 w' Z (r.imp k) v:=by
 cases r with
 |u x=>exact Tw tr hk hfl h
 |tup xs=>
  obtain⟨vs,rfl,h1,h2⟩:=h
  refine⟨vs,rfl,h1,fun j c v hc hv=> ?_⟩
  have hr:=h2 j c v hc hv;simp only[Bi,jze]at hc;obtain⟨c0,hc0,rfl⟩:=hc;refine Tw tr hk (fun hf=> ?_) hr
  have:=hfl hf
  simp only[R.flat,jzy]at this;exact this _ (BB hc0)
theorem RC.rows_row{c:RC}{b:Blk}(h:b∈c.rows): ∃sz n cs,b= .row sz cs true∧c= .own sz n cs:=by
 cases c with
 |d x=>simp[RC.rows]at h
 |own sz n cs=>simp[RC.rows]at h;exact⟨sz,n,cs,h,rfl⟩
theorem RU.rows_row{c:RU}{b:Blk}(h:b∈c.rows): ∃sz cs,b= .row sz cs true∧(c.flat=true→cs.all D.flat=true):=by
 cases c with
 |c x=>obtain⟨sz,n,cs,h1,rfl⟩:=RC.rows_row h;exact⟨sz,cs,h1,fun h=>h⟩
 |agg l=>
  simp only[RU.rows,List.mem_flatMap]at h;obtain⟨x,hx,h⟩:=h;obtain⟨sz,n,cs,h1,rfl⟩:=RC.rows_row h;refine⟨sz,cs,h1,fun h=> ?_⟩
  simp only[RU.flat,jzy]at h;exact h _ hx
theorem R.rows_row{c:R}{b:Blk}(h:b∈c.rows): ∃sz cs,b= .row sz cs true∧(c.flat=true→cs.all D.flat=true):=by
 cases c with
 |u x=>exact RU.rows_row h
 |tup l=>
  simp only[R.rows,List.mem_flatMap]at h;obtain⟨x,hx,h⟩:=h;obtain⟨sz,cs,h1,h2⟩:=RU.rows_row h;refine⟨sz,cs,h1,fun h=>h2 ?_⟩
  simp only[R.flat,jzy]at h;exact h _ hx
theorem jiO(h:Rel M Z w0 ρ st a w){dst:Option Nat}(hd: ∀d,dst=some d→d<a.tmps.size){ids:List Nat}{res:R}{w':World}{v:Value}(hx:Ext w w')(hr:Ix w w' (Aj (Ay ids ρ) Z) res v):
  ∃ρ',Rel M Z w0 ρ' (st.back dst ids res) (a.put dst v) w':=by
 obtain⟨hlen,o,hfar,hrep⟩:=hr
 obtain⟨hv,hh⟩:=hrep (dst.getD 0)
 obtain⟨ρ1,h1,hout⟩: ∃ρ1,Rel M Z w0 ρ1 (if res.flat then st else st.freeze ids) a w∧(res.flat=false→ ∀ad,Aj ρ1 Z ad→Aj (Ay ids ρ) Z ad):=by
  cases hf:res.flat with
  |true=>exact⟨ρ,by simpa using h,fun h=>by cases h⟩
  |false=>exact⟨Ay ids ρ,by simpa using h.freeze ids,fun _ _ h=>h⟩
 cases hrows:res.rows with
 |nil=>
  rw[hrows]at hv hh
  have tr: ∀x v,(res.flat=true→D.flat x=true)→RepD w' (Aj (BE (dst.getD 0) [] o) (Aj (Ay ids ρ) Z)) x v→RepD w' (Aj ρ1 Z) x v:=fun x v hf hd'=>by
   cases hfl:res.flat with
   |true=>exact HD (hf hfl) hd'
   |false=>exact hd'.keep (Keep.mono fun ad h=> .inl (hout hfl ad h))
  have:=L8 tr (fun o' ho'=>by cases ho') (fun h=>h) hv
  refine⟨ρ1,?_⟩
  have hp:=(h1.ext hx).put (dst:=dst) hd this
  simpa [St.back,hrows]using hp
 |cons b r=>
  rw[hrows]at hv hh hlen
  obtain⟨sz,cs,rfl,hcs⟩:=R.rows_row (c:=res) (b:=b) (by rw[hrows];simp)
  have hs:BE (dst.getD 0) (.row sz cs true::r) o (dst.getD 0)=some o:=by simp[BE]
  obtain⟨o',ho',hb⟩:=hh.rep (dst.getD 0) (.row sz cs true) (by simp[AR])
  obtain rfl:o'=o:=AK (ho'.symm.trans hs);obtain⟨q1,q2,q3,q4,q5⟩:=hb;have osub: ∀ad,(res.flat=false)→Aj (BW ρ1 (dst.getD 0) o') Z ad→Aj (BE (dst.getD 0) (.row sz cs true::r) o') (Aj (Ay ids ρ) Z) ad:=fun ad hfl ho=>by
   rcases ho with hz|⟨j,oj,hj,hoj⟩
   ·exact .inl (.inl hz)
   ·by_cases e:j=dst.getD 0
    ·subst e;rw[CW]at hj;cases hj;exact .inr ⟨_,_,hs,hoj⟩
    ·rw[HJ _ _ e]at hj;exact .inl (hout hfl ad (.inr ⟨j,oj,hj,hoj⟩))
  have tr: ∀x v,(res.flat=true→D.flat x=true)→RepD w' (Aj (BE (dst.getD 0) (.row sz cs true::r) o') (Aj (Ay ids ρ) Z)) x v→RepD w' (Aj (BW ρ1 (dst.getD 0) o') Z) x v:=fun x v hf hd'=>by
   cases hfl:res.flat with
   |true=>exact HD (hf hfl) hd'
   |false=>exact hd'.keep (Keep.mono fun ad h=>osub ad hfl h)
  have hadd:=(h1.purge (dst.getD 0)).add (i:=dst.getD 0) (o:=o') (b:= .row sz cs true) (CN _ _ _) (fun ad hh=>Nat.le_trans h1.fr.size (hfar ad hh)) (fun ad u hh hu=>by
    have:=hfar ad hh
    have:=World.block_lt_of_cell? w ad hu
    omega) hx (hh.owns.cells _ _ hs) (hh.owns.lim _ _ hs) ⟨q1,q2,q3,q4,fun j x hx'=>by
    obtain⟨u,hu,hd'⟩:=q5 j x hx'
    refine⟨u,hu,tr x u (fun hf=> ?_) hd'⟩
    have:=hcs hf
    rw[jzy]at this
    exact this _ (BB hx')⟩
  have:=L8 tr (fun o2 ho2=>by rw[hs]at ho2;cases ho2;exact CW _ _ _) (fun h=>h) hv
  refine⟨BW ρ1 (dst.getD 0) o',?_⟩
  have hp:=Rel.put (dst:=dst) hadd hd this
  change Rel M Z w0 (upd (upd ρ1 (dst.getD 0) none) (dst.getD 0) (some o')) _ _ _
  simpa [St.back,hrows,St.new,Blk.on]using hp
theorem FK(h:Rel M Z w0 ρ st a w)(ids:List Nat){us:List U}{as:List A}{vals:List Value}(hv:RepL (RepU ρ w Z) us vals)(ha:us.mapM (U.toA ids st.h)=some as):RepL (A.rep w (Aj (Ay ids ρ) Z)) as vals:=by
 obtain⟨m1,m2⟩:=Dn ha
 refine⟨m1.trans hv.1,fun j A0 v hA hv'=> ?_⟩
 have hj:j<us.length:=by rw[←m1];exact(jzg.1 hA).1
 obtain⟨y,hy,ha1⟩:=m2 j _ (Am hj)
 rw[hA]at hy
 cases hy;have hr:=hv.2 j _ v (Am hj) hv'
 generalize us[j]=u at ha1 hr;have lst: ∀{cs:List C} {ds:List D} {vs:List Value},cs.mapM (toD (ids.contains ·) st.h 4)=some ds→RepL (RepC ρ w Z) cs vs→RepL (RepD w (Aj (Ay ids ρ) Z)) ds vs:=fun {cs ds vs} hd hl=>by
  obtain⟨m1,m2⟩:=Dn hd
  refine⟨m1.trans hl.1,fun j x v hx hv=> ?_⟩
  have hj:j<cs.length:=by rw[←m1];exact(jzg.1 hx).1
  obtain⟨y,hy,hf⟩:=m2 j _ (Am hj)
  rw[hx]at hy
  cases hy;exact FL h _ 4 _ v _ (hl.2 j _ v (Am hj) hv) hf
 cases u with
 |c c0=>
  simp only[U.toA,jze]at ha1;obtain⟨d,hd,rfl⟩:=ha1;exact FL h _ 4 c0 _ d hr hd
 |agg cs=>
  simp only[U.toA,jze]at ha1;obtain⟨ds,hd,rfl⟩:=ha1;obtain⟨vs,hvs,hl⟩:=hr;exact⟨vs,hvs,lst hd hl⟩
 |clo f cs=>
  simp only[U.toA,jze]at ha1;obtain⟨ds,hd,rfl⟩:=ha1;obtain⟨vs,hvs,hl⟩:=hr;obtain⟨h1,h2⟩:=lst hd hl;rw[hvs];exact RepD.fn f ds vs h1 h2
theorem Lb(h:Rel M Z w0 ρ st a w){xs:List Operand}{us:List U}(hu:xs.mapM st.evU=some us):RepL (RepU ρ w Z) us (xs.map a.eval):=by
 obtain⟨m1,m2⟩:=Dn hu
 refine⟨by simpa using m1,fun j u v hx hv=> ?_⟩
 simp only[Bi,jze]at hv;obtain⟨x,hx',rfl⟩:=hv;obtain⟨y,hy,hf⟩:=m2 j x hx';rw[hx]at hy;cases hy;exact h.evU hf
theorem Mn(h:Rel M Z w0 ρ st a w)(ids:List Nat){xs:List Operand}{us:List U}{as:List A}(hu:xs.mapM st.evU=some us)(ha:us.mapM (U.toA ids st.h)=some as):
  RepL (A.rep w (Aj (Ay ids ρ) Z)) as (xs.map a.eval):=FK h ids (Lb h hu) ha
theorem ZA{α β:Type}{f:α→Option β}{l1 l2:List α}{r:List β}(h:(l1++l2).mapM f=some r): ∃r1 r2,r=r1++r2∧l1.mapM f=some r1∧l2.mapM f=some r2:=by
 simp only[List.mapM_append,Option.pure_def,Option.bind_eq_bind,jzd,Option.some.injEq]at h;obtain⟨r1,h1,r2,h2,rfl⟩:=h;exact⟨r1,r2,rfl,h1,h2⟩
def Bo(ids:List Nat)(ρ:As):As:=fun j=>if ids.contains j then ρ j else none
theorem AU{ids:List Nat}{j:Nat}{o:Own}(h:Bo ids ρ j=some o):j∈ids∧ρ j=some o:=by
 unfold Bo at h;split at h
 ·rename_i hm;exact⟨by simpa using hm,h⟩
 ·cases h
theorem ET{ids:List Nat}{j:Nat}(h:j∈ids):Bo ids ρ j=ρ j:=by unfold Bo;rw[if_pos (by simpa using h)]
theorem Ng(ids:List Nat)(ad:Addr):Aj (Bo ids ρ) (Aj (Ay ids ρ) Z) ad↔Aj ρ Z ad:=by
 constructor
 ·rintro (h|⟨j,o,hj,ho⟩)
  ·exact CC h
  ·exact .inr ⟨j,o,(AU hj).2,ho⟩
 ·rintro (h|⟨j,o,hj,ho⟩)
  ·exact .inl (.inl h)
  ·by_cases e:j∈ids
   ·exact .inr ⟨j,o,(ET e).trans hj,ho⟩
   ·exact .inl (.inr ⟨j,o,by simp[Ay,ersd,e,hj],ho⟩)
theorem repD_rhoR{ids:List Nat}{x:D}{v:Value}:RepD w (Aj (Bo ids ρ) (Aj (Ay ids ρ) Z)) x v↔RepD w (Aj ρ Z) x v:=by
 have:Aj (Bo ids ρ) (Aj (Ay ids ρ) Z)=Aj ρ Z:=funext fun ad=>propext (Ng ids ad)
 rw[this]
theorem Hh{ids:List Nat}{c:C}{v:Value}(hi: ∀i,c.id? =some i→i∈ids)(h:RepC ρ w Z c v):RepC (Bo ids ρ) w (Aj (Ay ids ρ) Z) c v:=by
 cases c with
 |d x=>exact repD_rhoR.2 h
 |nl=>exact h
 |bad=>exact h
 |sl i off n=>obtain⟨o,ho,r⟩:=h;exact⟨o,(ET (hi i rfl)).trans ho,r⟩
 |ptr i off=>obtain⟨o,ho,r⟩:=h;exact⟨o,(ET (hi i rfl)).trans ho,r⟩
theorem Sc{ids:List Nat}{c:C}{v:Value}(h:RepC (Bo ids ρ) w (Aj (Ay ids ρ) Z) c v):RepC ρ w Z c v:=by
 cases c with
 |d x=>exact repD_rhoR.1 h
 |nl=>exact h
 |bad=>exact h
 |sl i off n=>obtain⟨o,ho,r⟩:=h;exact⟨o,(AU ho).2,r⟩
 |ptr i off=>obtain⟨o,ho,r⟩:=h;exact⟨o,(AU ho).2,r⟩
theorem UL{ids:List Nat}{u:U}{v:Value}(hi:CA ids u.all)(h:RepU ρ w Z u v):RepU (Bo ids ρ) w (Aj (Ay ids ρ) Z) u v:=by
 cases u with
 |c x=>exact Hh (hi x (by simp[U.all])) h
 |agg cs=>obtain⟨vs,rfl,h1,h2⟩:=h;exact⟨vs,rfl,h1,fun j x v hx hv=>Hh (hi x (BB hx)) (h2 j x v hx hv)⟩
 |clo f cs=>obtain⟨vs,rfl,h1,h2⟩:=h;exact⟨vs,rfl,h1,fun j x v hx hv=>Hh (hi x (BB hx)) (h2 j x v hx hv)⟩
theorem K2{ids:List Nat}{o:Own}{b:Blk}(hi:Jo ids b)(h:RepB ρ w Z o b):RepB (Bo ids ρ) w (Aj (Ay ids ρ) Z) o b:=by
 cases b with
 |row sz cs app=>obtain⟨q1,q2,q3,q4,q5⟩:=h;exact⟨q1,q2,q3,q4,fun j x hx=>by obtain⟨v,hv,hd⟩:=q5 j x hx;exact⟨v,hv,repD_rhoR.2 hd⟩⟩
 |box cs=>obtain⟨q1,q2,q3,q4⟩:=h;exact⟨q1,q2,q3,fun j x hx=>by obtain⟨v,hv,h1,hd⟩:=q4 j x hx;exact⟨v,hv,h1,Hh (hi x (BB hx)) hd⟩⟩
 |fbox f cs=>obtain⟨q1,q2,q3,v,hv,hd⟩:=h;exact⟨q1,q2,q3,v,hv,UL (u:= .clo f cs) hi hd⟩
theorem jjs{ids:List Nat}{o:Own}{b:Blk}(h:RepB (Bo ids ρ) w (Aj (Ay ids ρ) Z) o b):RepB ρ w Z o b:=by
 cases b with
 |row sz cs app=>obtain⟨q1,q2,q3,q4,q5⟩:=h;exact⟨q1,q2,q3,q4,fun j x hx=>by obtain⟨v,hv,hd⟩:=q5 j x hx;exact⟨v,hv,repD_rhoR.1 hd⟩⟩
 |box cs=>obtain⟨q1,q2,q3,q4⟩:=h;exact⟨q1,q2,q3,fun j x hx=>by obtain⟨v,hv,h1,hd⟩:=q4 j x hx;exact⟨v,hv,h1,Sc hd⟩⟩
 |fbox f cs=>obtain⟨q1,q2,q3,v,hv,vs,rfl,hl⟩:=h;exact⟨q1,q2,q3,_,hv,vs,rfl,hl.1,fun j x u hx hu=>Sc (hl.2 j x u hx hu)⟩
theorem H8{α:Type}(k:Nat)(l2:List (Nat×α)): ∀l1:List (Nat×α),lk k (l1++l2)=(lk k l1).or (lk k l2)
 |[]=>rfl
 |(j,v)::r=>by
  simp only[List.cons_append,lk];split
  ·rfl
  ·exact H8 k l2 r
theorem Fr.into{M Mc:Addr→Prop}{w0 w w':World}(h:Fr M w0 w)(k:Fr Mc w w')(hm: ∀ad,Mc ad→M ad∨w0.heap.size≤ad.block):Fr M w0 w' where
 os:=k.os.trans h.os
 drawn:=Nat.le_trans h.drawn k.drawn
 tape:=k.tape.trans h.tape
 output:=k.output.trans h.output
 size:=Nat.le_trans h.size k.size
 cell:=fun ad v hn hv=>k.cell ad v (fun hc=>by
  rcases hm ad hc with h1|h1
  ·exact hn h1
  ·have:=World.block_lt_of_cell? w0 ad hv;omega) (h.cell ad v hn hv)
 frz:=fun ad hl=>(k.frz ad (Nat.lt_of_lt_of_le hl h.size)).trans (h.frz ad hl)
 blk:=fun j hl hn=>(k.blk j (Nat.lt_of_lt_of_le hl h.size) fun ad he hc=>by
  rcases hm ad hc with h1|h1
  ·exact hn ad he h1
  ·omega).trans (h.blk j hl hn)
theorem Fr.mono{M M':Addr→Prop}{w0 w:World}(h:Fr M w0 w)(hm: ∀ad,M ad→M' ad):Fr M' w0 w where
 os:=h.os
 drawn:=h.drawn
 tape:=h.tape
 output:=h.output
 size:=h.size
 cell:=fun ad v hn hv=>h.cell ad v (fun hh=>hn (hm ad hh)) hv
 frz:=h.frz
 blk:=fun j hl hn=>h.blk j hl fun ad he hh=>hn ad he (hm ad hh)
theorem X2(h:Rel M Z w0 ρ st a w){dst:Option Nat}(hd: ∀d,dst=some d→d<a.tmps.size){ids:List Nat}{res:R}{w':World}{v:Value}{h2:List (Nat×Blk)}(hrows:res.rows=[])
  (hx:Fr (Cells (Bo ids ρ)) w w') (hh:Heap (Bo ids ρ) w' (Aj (Ay ids ρ) Z) h2) (hv:RepV (fun _=>none) w' (Aj (Bo ids ρ) (Aj (Ay ids ρ) Z)) (res.imp 0) v):
  Rel M Z w0 ρ (st.backW dst ids h2 res) (a.put dst v) w':=by
 have hcell: ∀ad,Cells (Bo ids ρ) ad→Aj ρ Z ad:=fun ad ⟨j,o,hj,ho⟩=> .inr ⟨j,o,(AU hj).2,ho⟩
 have hk:Keep w w' (Aj ρ Z) (Aj ρ Z):=fun ad x hn hv=>⟨hx.cell ad x (fun hc=>hn (hcell ad hc)) hv,hn⟩
 have ht:Cq ρ ρ w w' Z DF:=fun c v hc=>by rw[C.on_id];exact hc.keep hk fun _ _=>rfl
 have stay: ∀j o,j∉ids→ρ j=some o→o.gone=false→ ∀k,k<o.room*o.sz→w'.cell? (o.at k)=w.cell? (o.at k)∧w'.frozen? (o.at k)=w.frozen? (o.at k):=fun j o hj ho hg k hk'=>by
  obtain⟨⟨u,hu⟩,hf⟩:=h.heap.owns.cells j o ho hg k hk'
  refine⟨?_,hx.frz _ (World.block_lt_of_cell? w _ hu)⟩
  rw[hu]
  refine hx.cell _ u (fun⟨i,o',hi,hh'⟩=> ?_) hu
  obtain⟨h1,h2⟩:=AU hi
  exact h.heap.owns.apart j i o o' ho h2 (fun e=>hj (e ▸ h1)) _ (Own.has_at hg hk') hh'
 have hrel:Rel M Z w0 ρ { st with h:=h2++Ee (ids.contains ·) st.h } a w':=
  {fr:=h.fr.into hx fun ad ⟨j,o,hj,ho⟩=>h.mine j o ad (AU hj).2 ho
   heap:=⟨⟨fun j o ho hg k hk'=>by
     by_cases e:j∈ids
     ·exact hh.owns.cells j o ((ET e).trans ho) hg k hk'
     ·obtain⟨s1,s2⟩:=stay j o e ho hg k hk'
      rw[s1,s2]
      exact h.heap.owns.cells j o ho hg k hk',h.heap.owns.apart,h.heap.owns.lim⟩,fun j b hb=>by
    simp only at hb;rw[H8]at hb;cases hl:lk j h2 with
    |some b2=>
     rw[hl]at hb
     cases hb;obtain⟨o,ho,hr⟩:=hh.rep j _ hl
     exact⟨o,(AU ho).2,jjs hr⟩
    |none=>
     rw[hl]at hb
     simp only[Option.none_or]at hb;rw[IV]at hb;split at hb
     ·cases hb
     ·rename_i e
      have e:j∉ids:=by simpa using e
      obtain⟨o,ho,hr⟩:=h.heap.rep j b hb
      have:=hr.turn ht hk fun hg k hk'=>(stay j o e ho hg k hk').1
      rw[Blk.on_id]at this
      exact⟨o,ho,this⟩⟩
   mine:=h.mine
   out:=h.out
   mz:=h.mz
   tmps:=fun t v hv=>by
    have:=(h.tmps t v hv).turn ht
    rwa [V.on_id]at this
   defers:=h.defers }
 have hv':RepV ρ w' Z (res.imp 0) v:=L8 (fl:=false) (fun x v _ hd'=>hd'.keep (Keep.mono fun ad ho=> .inl ((Ng ids ad).2 ho))) (fun o' ho'=>by cases ho') (fun h=>by cases h) hv
 exact hrel.put hd hv'
theorem GG{α:Type}{l:List (Nat×α)}: ∀{l0:List (Nat×α)},Aw l l0→ ∀k v,lk k l0=some v→lk k l=some v
 |[],_,k,v,h=>by cases h
 |(j,u)::r,⟨h1,h2⟩,k,v,h=>by
  unfold lk at h;split at h
  ·rename_i e;subst e;cases h;exact h1
  ·exact GG h2 k v h
def TrLe(s' s:St):Prop:= ∀x r,lk YS s'.t=some (.tr x r)→lk YS s.t=some (.tr x r)
theorem TrLe.refl(s:St):TrLe s s:=fun _ _ h=>h
theorem TrLe.trans{s1 s2 s3:St}(h:TrLe s1 s2)(k:TrLe s2 s3):TrLe s1 s3:=fun x r hh=>k x r (h x r hh)
theorem TrLe.put{s:St}{d:Option Nat}{v:V}(hd: ∀k,d=some k→k<YS):TrLe (s.put d v) s:=fun x r h=>by
 cases d with
 |none=>exact h
 |some k=>
  simp only[St.put]at h;rw[AW (fun e=>by have:=hd k rfl;omega),Bt (fun e=>by have:=hd k rfl;omega)]at h
  exact h
theorem TrLe.on{s:St}(g:Nat→C→C):TrLe (s.on g) s:=fun x r h=>by
 simp only[St.on,BQ,jze]at h;obtain⟨v,hv,he⟩:=h;cases v with
 |u=>cases he
 |tup=>cases he
 |tr x' r'=>simp only[V.on,V.tr.injEq]at he;rw[←he.1,←he.2];exact hv
theorem TrLe.hp{s:St}{h:List (Nat×Blk)}:TrLe { s with h:=h } s:=fun _ _ h=>h
theorem TrLe.purge{s:St}(i:Nat):TrLe (s.purge i) s:=fun x r h=>TrLe.on _ x r h
theorem TrLe.purges: ∀(l:List Nat) {s:St},TrLe (purges l s) s
 |[],s=>TrLe.refl s
 |i::l,s=>(TrLe.purges l (s:=s.purge i)).trans (TrLe.purge i)
theorem TrLe.blk{s:St}(i:Nat)(b:Blk):TrLe (s.blk i b) s:=fun _ _ h=>h
theorem TrLe.drop{s:St}(i:Nat):TrLe (s.drop i) s:=fun _ _ h=>h
theorem TrLe.new{s:St}(i:Nat)(b:Blk):TrLe (s.new i b) s:=fun x r h=>TrLe.purge i x r h
theorem TrLe.freezeK{s:St}(ok:Nat→Bool):TrLe (s.freezeK ok) s:=fun x r h=>TrLe.on _ x r h
theorem TrLe.freeze{s:St}(ids:List Nat):TrLe (s.freeze ids) s:=by
 cases ids with
 |nil=>exact TrLe.refl s
 |cons i r=>exact TrLe.freezeK _
theorem TrLe.sealW{s s':St}{ids:List Nat}{cs:List C}{ds:List D}(h:s.sealW ids cs=some (ds,s')):TrLe s' s:=by
 simp only[St.sealW,jze,Prod.mk.injEq]at h;obtain⟨_,_,_,rfl⟩:=h;exact TrLe.freeze ids
theorem TrLe.back{s:St}{d:Option Nat}{ids:List Nat}{res:R}(hd: ∀k,d=some k→k<YS):TrLe (s.back d ids res) s:=by
 unfold St.back;refine(TrLe.put hd).trans ?_;have h1:TrLe (if res.flat then s else s.freeze ids) s:=by
  split
  ·exact TrLe.refl s
  ·exact TrLe.freeze ids
 split
 ·exact h1
 ·exact(TrLe.new _ _).trans h1
theorem TrLe.backW{s:St}{d:Option Nat}{ids:List Nat}{h2:List (Nat×Blk)}{res:R}(hd: ∀k,d=some k→k<YS):TrLe (s.backW d ids h2 res) s:=(TrLe.put hd).trans TrLe.hp
theorem TrLe.backX{s:St}{d:Option Nat}{ids nw fz:List Nat}{cs:List C}{h2:List (Nat×Blk)}(hd: ∀k,d=some k→k<YS):TrLe (s.backX d ids nw fz cs h2) s:=
 (TrLe.put hd).trans (TrLe.hp.trans ((TrLe.on _).trans ((TrLe.purges nw).trans (TrLe.freeze fz))))
theorem TrLe.mk{s s':St}{d:Option Nat}{b:Blk}{c:Nat→C}(hd: ∀k,d=some k→k<YS)(h:mk d s b c=some s'):TrLe s' s:=by
 simp only[Va.mk,jze]at h;obtain⟨k,rfl,rfl⟩:=h;exact(TrLe.put hd).trans (TrLe.new _ _)
theorem TrLe.rn{s:St}(i j:Nat):TrLe (s.rn i j) s:=by
 unfold St.rn;split
 ·exact TrLe.refl s
 ·split
  ·exact TrLe.refl s
  ·exact TrLe.hp.trans (TrLe.on _)
theorem TrLe.rns: ∀(l:List (Nat×Nat)) {s:St},TrLe (rns l s) s
 |[],s=>TrLe.refl s
 |(i,j)::l,s=>(TrLe.rns l (s:=s.rn i j)).trans (TrLe.rn i j)
theorem TrLe.le{s0 s:St}(h:s0.le s):TrLe s0 s:=fun x r hh=>GG h.1 _ _ hh
theorem TrLe.storeB{s s':St}{b off:Nat}{v:List C}{k:Blk}(h:s.storeB b off v k=some s'):TrLe s' s:=by
 cases k with
 |box cs=>simp only[St.storeB]at h;split at h<;>cases h;exact TrLe.blk _ _
 |fbox f cs=>simp[St.storeB]at h
 |row sz cs app=>
  simp only[St.storeB,jzd]at h;obtain⟨p,hp,h⟩:=h;split at h
  ·split at h<;>cases h
   exact(TrLe.blk _ _).trans (TrLe.sealW hp)
  ·cases h
theorem TrLe.store{s s':St}{i:TI}{c:C}{u:U}(h:s.store i c u=some s'):TrLe s' s:=by
 unfold St.store at h;split at h
 ·split at h
  ·simp only[jzd]at h;obtain⟨k,_,h⟩:=h;rcases Su h with⟨_,_,_,_,_,_,rfl⟩|h
   ·exact TrLe.blk _ _
   ·exact TrLe.storeB h
  ·cases h
 ·cases h
theorem TrLe.appGo{s s':St}{e:TI}{d:Nat}{cs:List D}{n:Nat}{news:List D}{m:Nat}(hd:d<YS)(h:s.appGo e d cs n news m=some s'):TrLe s' s:=by
 unfold St.appGo at h;split at h<;>cases h;exact(TrLe.put fun k hk=>by cases hk;exact hd).trans (TrLe.new _ _)
theorem TrLe.app{s s':St}{e:TI}{d:Nat}{x:C}{news:List D}{m:Nat}(hd:d<YS)(h:s.app e d x news m=some s'):TrLe s' s:=by
 unfold St.app at h;split at h
 ·exact TrLe.appGo hd h
 ·simp only[jzd]at h;obtain⟨b,_,h⟩:=h;split at h
  ·split at h
   ·exact(TrLe.appGo hd h).trans (TrLe.drop _)
   ·cases h
  ·cases h
 ·cases h
theorem TrLe.copyTo{s s':St}{e:TI}{d:Option Nat}{i off n:Nat}{p:Nat×List D}{b:Blk}(hd: ∀k,d=some k→k<YS)(h:copyTo e d i off n s p b=some s'):TrLe s' s:=by
 unfold Va.copyTo at h;split at h
 ·split at h<;>cases h
  exact(TrLe.put hd).trans (TrLe.blk _ _)
 ·cases h
theorem TrLe.clearTo{s s':St}{j:TI}{z:List D}{d:Option Nat}{c:C}(hd: ∀k,d=some k→k<YS)(h:clearTo j z d s c=some s'):TrLe s' s:=by
 unfold Va.clearTo at h;split at h
 ·cases h;exact TrLe.put hd
 ·simp only[jzd]at h;obtain⟨k,_,h⟩:=h;split at h
  ·split at h<;>cases h
   exact(TrLe.put hd).trans (TrLe.blk _ _)
  ·cases h
 ·cases h
theorem TrLe.builtin{T:Au}{b:Builtin}{ts:List TypeId}{args:List Operand}{d:Option Nat}{s s':St}(hd: ∀k,d=some k→k<YS)(h:Fx T b ts args d s=some s'):TrLe s' s:=by
 unfold Fx at h;split at h
 ·simp only[jzd]at h;obtain⟨i,_,h⟩:=h;unfold GX at h;split at h
  ·cases h;exact TrLe.put hd
  ·simp only[jzd,jze]at h;obtain⟨c,_,n,_,rfl⟩:=h;exact TrLe.put hd
 ·simp only[jzd]at h;obtain⟨k,hk,i,_,e,_,j,_,c,_,x,_,h⟩:=h;split at h
  ·simp only[jzd]at h;obtain⟨p,_,h⟩:=h;exact TrLe.app (hd k hk) h
  ·cases h
 ·simp only[jzd]at h;obtain⟨i,_,e,_,j,_,c,_,x,_,h⟩:=h;split at h
  ·split at h
   ·simp only[jzd]at h;obtain⟨p,_,b,_,h⟩:=h;exact TrLe.copyTo hd h
   ·cases h
  ·cases h
 ·simp only[jzd,jze]at h;obtain⟨p,_,l,_,v,_,rfl⟩:=h;exact TrLe.put hd
 ·simp only[jzd]at h;obtain⟨i,_,e,_,j,_,c,_,z,_,h⟩:=h;exact TrLe.clearTo hd h
 ·simp only[jzd,jze]at h;obtain⟨p,_,l,_,v,_,rfl⟩:=h;exact TrLe.put hd
 ·cases h
theorem TrLe.step{T:Au}{o:Oper}{s s':St}(hd: ∀k,o.dst=some k→k<YS)(h:Dx T o s=some s'):TrLe s' s:=by
 unfold Dx at h;split at h
 case h_1=>
  unfold GC at h;simp only[jzd,jze]at h;obtain⟨k,hk,i,_,e,_,j,_,rfl⟩:=h;exact(TrLe.put fun q hq=>by cases hq;exact hd k hk).trans (TrLe.new _ _)
 case h_8=>
  simp only[jzd]at h;obtain⟨_,_,_,_,_,_,_,_,h⟩:=h;unfold Fy at h;split at h
  ·simp only[jzd]at h;obtain⟨cs,_,h⟩:=h;split at h
   ·exact TrLe.mk hd h
   ·simp only[jzd]at h;obtain⟨p,hp,h⟩:=h;exact(TrLe.mk hd h).trans (TrLe.sealW hp)
  ·cases h
 case h_10=>
  simp only[jzd,jze]at h;obtain⟨_,_,_,_,_,_,_,hs,rfl⟩:=h;exact(TrLe.put hd).trans (TrLe.store hs)
 case h_16=>
  simp only[jzd]at h;obtain⟨_,_,_,_,_,_,_,_,_,_,h⟩:=h;unfold Fw at h;split at h
  ·simp only[jzd]at h;obtain⟨z,_,h⟩:=h;exact TrLe.mk hd h
  ·cases h
 case h_18=>
  simp only[jzd]at h;obtain⟨_,_,_,_,_,_,_,_,h⟩:=h;split at h
  ·cases h
  ·simp only[jze]at h;obtain⟨_,_,rfl⟩:=h;exact TrLe.put hd
 case h_5=>
  simp only[jzd]at h;obtain⟨_,_,h⟩:=h;exact TrLe.mk hd h
 case h_6=>
  simp only[jzd]at h;obtain⟨_,_,_,_,h⟩:=h;split at h
  ·exact TrLe.mk hd h
  ·cases h
 case h_23=>
  split at h
  ·simp only[jze]at h;obtain⟨_,_,rfl⟩:=h;exact TrLe.put hd
  ·cases h
 case h_24=>exact TrLe.builtin hd h
 case h_27=>cases h
 all_goals
  simp only[jzd,jze]at h
  first
  |(obtain⟨_,_,rfl⟩:=h;exact TrLe.put hd)
  |(obtain⟨_,_,_,_,rfl⟩:=h;exact TrLe.put hd)
  |(obtain⟨_,_,_,_,_,_,rfl⟩:=h;exact TrLe.put hd)
  |(obtain⟨_,_,_,_,_,_,_,_,rfl⟩:=h;exact TrLe.put hd)
  |(obtain⟨_,_,_,_,_,_,_,_,_,_,rfl⟩:=h;exact TrLe.put hd)
end
structure Cx where
 M:Addr→Prop
 Z:Addr→Prop
 w0:World
 n:Nat
 pin:List Nat
 pv:Nat→Value
 Y:Option Yl
 R0:Addr→Prop
 D0:Addr→Prop
structure Lk (X:Cx) (M Z:Addr→Prop) (w0:World) (st:St) (a:Act):Prop where
 pins: ∀k∈X.pin,a.tmps.getD k undef=X.pv k
 plain:X.Y=none→M=X.M∧Z=X.Z∧w0=X.w0
 fr:Fr (fun ad=>X.M ad∨X.R0 ad) X.w0 w0
 z: ∀ad,X.Z ad→Z ad
 m: ∀ad,M ad→X.M ad∨X.w0.heap.size≤ad.block
 y: ∀x r,lk YS st.t=some (.tr x r)→ ∃Y R D,X.Y=some Y∧x=Y.x∧Y.J r R D w0∧(∀ad,R ad→Z ad)∧(∀ad,R ad→X.R0 ad∨X.w0.heap.size≤ad.block)∧(∀ad,D ad→ ¬M ad)∧
  (∀ad,D ad→X.D0 ad∨ ¬X.Z ad∨X.w0.heap.size≤ad.block)∧(∀ad,X.D0 ad→D ad)
def BM(X:Cx)(K:St→Prop)(a:Act)(w:World):Prop:= ∃M Z w0 ρ st,Lk X M Z w0 st a∧Rel M Z w0 ρ st a w∧a.tmps.size=X.n∧K st
def FF(X:Cx)(d:Nat):Prop:=d<X.n∧d<YS∧d∉X.pin
section
variable {P:Program} {T:Au} {X:Cx} {M Z:Addr→Prop} {w0 w:World} {ρ:As} {st:St} {a:Act}
theorem Lk.next(h:Lk X M Z w0 st a){st':St}{a':Act}(ht:TrLe st' st)(hp: ∀k∈X.pin,a'.tmps.getD k undef=a.tmps.getD k undef):Lk X M Z w0 st' a' where
 pins:=fun k hk=>(hp k hk).trans (h.pins k hk)
 plain:=h.plain
 fr:=h.fr
 z:=h.z
 m:=h.m
 y:=fun x r hh=>h.y x r (ht x r hh)
theorem Lk.of(h:Lk X M Z w0 st a){st':St}(ht:TrLe st' st):Lk X M Z w0 st' a:=h.next ht fun _ _=>rfl
theorem RQ{a:Act}{dst:Option Nat}{v:Value}(hd: ∀d,dst=some d→FF X d): ∀k∈X.pin,(a.put dst v).tmps.getD k undef=a.tmps.getD k undef:=fun k hk=>by
 cases dst with
 |none=>rfl
 |some d=>
  have hne:d≠k:=fun e=>(hd d rfl).2.2 (e ▸ hk)
  simp[Act.put,BV,Array.getElem?_setIfInBounds,hne]
theorem Lk.put(h:Lk X M Z w0 st a){st':St}{dst:Option Nat}{v:Value}(ht:TrLe st' st)(hd: ∀d,dst=some d→FF X d):Lk X M Z w0 st' (a.put dst v):=h.next ht (RQ hd)
theorem Cy(a:Act)(d:Option Nat)(v:Value):(a.put d v).tmps.size=a.tmps.size:=by cases d<;>simp[Act.put]
theorem FO(h:Rel M Z w0 ρ st a w){i:Nat}{o:Own}(hi:ρ i=some o){ad:Addr}(ho:o.has ad):ad.block<w.heap.size:=by
 obtain⟨hn,hb,hlo,hhi⟩:=ho
 obtain⟨⟨v,hv⟩,_⟩:=h.heap.owns.cells i o hi hn (ad.off - o.o) (by omega)
 have:=World.block_lt_of_cell? w _ hv
 simpa [hb]using this
theorem Ki(h:Rel M Z w0 ρ st a w){i:Nat}{o:Own}(hi:ρ i=some o){ad:Addr}(ho:o.has ad): ¬Z ad:=fun hz=>by
 rcases h.mine i o ad hi ho with hm|hs
 ·exact h.mz ad hm hz
 ·have:=h.out ad hz;omega
theorem OU(h:Rel M Z w0 ρ st a w){ad:Addr}(ho:Aj ρ Z ad):ad.block<w.heap.size:=by
 rcases ho with hz|⟨j,oj,hj,hh⟩
 ·exact Nat.lt_of_lt_of_le (h.out ad hz) h.fr.size
 ·exact FO h hj hh
theorem Nk(h:Rel M Z w0 ρ st a w)(hL:Lk X M Z w0 st a){dst:Option Nat}(hd: ∀d,dst=some d→FF X d)(hn:a.tmps.size=X.n){ids:List Nat}{Y:Yl}(hX:X.Y=some Y)(hok:YlOk P Y){r r':List (List A)}{R D:Addr→Prop}
  (hJ0:Y.J r R D w0) (hRZ: ∀ad,R ad→Z ad) (hR0: ∀ad,R ad→X.R0 ad∨X.w0.heap.size≤ad.block) (hDM: ∀ad,D ad→ ¬M ad) (hD0: ∀ad,D ad→X.D0 ad∨ ¬X.Z ad∨X.w0.heap.size≤ad.block) (hD00: ∀ad,X.D0 ad→D ad)
  {w':World} {R' D':Addr→Prop} (hJ:Y.J r' R' D' w') (hfr:Fr R w w') (hR': ∀ad,R' ad→R ad∨w.heap.size≤ad.block) (hD': ∀ad,D' ad→D ad∨ ¬Aj (Ay ids ρ) Z ad∨w.heap.size≤ad.block) (hDD: ∀ad,D ad→D' ad) {K:St→Prop}
  (hK:K (st.backY dst ids Y.x r')):BM X K (a.put dst (.tuple #[])) w':=by
 have h1:=h.freeze ids;have hk:Keep w w' (Aj (Ay ids ρ) Z) (Aj (Ay ids ρ) fun ad=>Z ad∨R' ad):=fun ad x hno hv=>by
  refine⟨hfr.cell ad x (fun hr=>hno (.inl (hRZ ad hr))) hv,?_⟩
  rintro ((hz|hr)|ho)
  ·exact hno (.inl hz)
  ·rcases hR' ad hr with hr|hs
   ·exact hno (.inl (hRZ ad hr))
   ·have:=World.block_lt_of_cell? w ad hv;omega
  ·exact hno (.inr ho)
 have hkC: ∀(c:C) (v:Value),RepC (Ay ids ρ) w Z c v→RepC (Ay ids ρ) w' (fun ad=>Z ad∨R' ad) c v:=fun c v hc=>by
  cases c with
  |d x=>exact RepD.keep hk hc
  |nl=>exact hc
  |bad=>exact hc
  |sl i off n=>exact hc
  |ptr i off=>exact hc
 have hkU: ∀(u:U) (v:Value),RepU (Ay ids ρ) w Z u v→RepU (Ay ids ρ) w' (fun ad=>Z ad∨R' ad) u v:=fun u v hu=>by
  cases u with
  |c x=>exact hkC x v hu
  |agg cs=>obtain⟨vs,hv,hl,hr⟩:=hu;exact⟨vs,hv,hl,fun j x v hx hv=>hkC x v (hr j x v hx hv)⟩
  |clo f cs=>obtain⟨vs,hv,hl,hr⟩:=hu;exact⟨vs,hv,hl,fun j x v hx hv=>hkC x v (hr j x v hx hv)⟩
 have hkV: ∀(u:V) (v:Value),RepV (Ay ids ρ) w Z u v→RepV (Ay ids ρ) w' (fun ad=>Z ad∨R' ad) u v:=fun u v hu=>by
  cases u with
  |u x=>exact hkU x v hu
  |tup xs=>obtain⟨vs,hv,hl,hr⟩:=hu;exact⟨vs,hv,hl,fun j x v hx hv=>hkU x v (hr j x v hx hv)⟩
  |tr x r=>trivial
 have same: ∀i o,Ay ids ρ i=some o→o.gone=false→ ∀j,j<o.room*o.sz→w'.cell? (o.at j)=w.cell? (o.at j)∧w'.frozen? (o.at j)=w.frozen? (o.at j):=fun i o hi hg j hj=>by
  obtain⟨⟨v,hv⟩,_⟩:=h1.heap.owns.cells i o hi hg j hj
  refine⟨?_,hfr.frz _ (World.block_lt_of_cell? w _ hv)⟩
  rw[hv]
  exact hfr.cell _ v (fun hr=>Ki h1 hi (Own.has_at hg hj) (hRZ _ hr)) hv
 have hrel:Rel (Cells (Ay ids ρ)) (fun ad=>Z ad∨R' ad) w' (Ay ids ρ) (st.freeze ids) a w':=
  {fr:=⟨rfl,Az _,rfl,rfl,Az _,fun _ _ _ h=>h,fun _ _=>rfl,fun _ _ _=>rfl⟩
   heap:=⟨⟨fun i o hi hg j hj=>by rw[(same i o hi hg j hj).1,(same i o hi hg j hj).2];exact h1.heap.owns.cells i o hi hg j hj,h1.heap.owns.apart,h1.heap.owns.lim⟩,fun i b hb=>by
    obtain⟨o,ho,hr⟩:=h1.heap.rep i b hb
    refine⟨o,ho,?_⟩
    have hsame:=same i o ho;cases b with
    |row sz cs app=>
     obtain⟨q1,q2,q3,q4,q5⟩:=hr
     refine⟨q1,q2,q3,q4,fun j x hx=> ?_⟩
     obtain⟨v,hv,hd⟩:=q5 j x hx
     have hj:j<cs.length:=(jzg.1 hx).1;have hnil:o.nil=false:=by
      cases hn:o.nil with
      |false=>rfl
      |true=>rw[q4.1 hn]at q3;omega
     exact⟨v,by rw[(hsame (q4.2.trans hnil) j (by rw[q1];omega)).1];exact hv,hd.keep hk⟩
    |box cs=>
     obtain⟨q1,q2,q3,q4⟩:=hr
     refine⟨q1,q2,q3,fun j x hx=> ?_⟩
     obtain⟨v,hv,h1v,hd⟩:=q4 j x hx
     have hj:j<cs.length:=(jzg.1 hx).1;exact⟨v,by rw[(hsame q3.2 j (by rw[q1,q2];omega)).1];exact hv,h1v,hkC x v hd⟩
    |fbox f cs=>
     obtain⟨q1,q2,q3,v,hv,hd⟩:=hr
     exact⟨q1,q2,q3,v,by rw[(hsame q3.2 0 (by rw[q1,q2];omega)).1];exact hv,hkU (.clo f cs) v hd⟩⟩
   mine:=fun i o ad hi ho=> .inl ⟨i,o,hi,ho⟩
   out:=fun ad hz=>by
    rcases hz with hz|hr
    ·exact Nat.lt_of_lt_of_le (h.out ad hz) (Nat.le_trans h.fr.size hfr.size)
    ·exact(hok.sub _ _ _ _ hJ).2 ad ((hok.sub _ _ _ _ hJ).1 ad hr)
   mz:=fun ad ⟨i,o,hi,ho⟩ hz=>by
    rcases hz with hz|hr
    ·exact Ki h1 hi ho hz
    ·rcases hR' ad hr with hr|hs
     ·exact Ki h1 hi ho (hRZ ad hr)
     ·have:=FO h1 hi ho;omega
   tmps:=fun t v hv=>hkV v _ (h1.tmps t v hv)
   defers:=h.defers }
 have hp:=hrel.put (dst:=dst) (v:= .tup []) (x:= .tuple #[]) (fun d h=>by rw[hn];exact(hd d h).1) ⟨[],rfl,rfl,fun j x v hx=>by simp at hx⟩
 refine⟨_,_,_,_,st.backY dst ids Y.x r',?_,⟨hp.fr,hp.heap,hp.mine,hp.out,hp.mz,fun t v hv=> ?_,hp.defers⟩,(Cy _ _ _).trans hn,hK⟩
 ·refine⟨fun k hk=>(RQ hd k hk).trans (hL.pins k hk),fun h=>(by rw[hX]at h;cases h),?_,fun ad h=> .inl (hL.z ad h),fun ad ⟨i,o,hi,ho⟩=> ?_,fun x r hh=> ?_⟩
  ·refine(hL.fr.into h.fr fun ad hm=> ?_).into hfr fun ad hr=> ?_
   ·rcases hL.m ad hm with h|h
    ·exact .inl (.inl h)
    ·exact .inr h
   ·rcases hR0 ad hr with h|h
    ·exact .inl (.inr h)
    ·exact .inr h
  ·rcases h1.mine i o ad hi ho with hm|hs
   ·exact hL.m ad hm
   ·exact .inr (Nat.le_trans hL.fr.size hs)
  ·simp only[St.backY,St.rest,AR,Option.some.injEq,V.tr.injEq]at hh;obtain⟨rfl,rfl⟩:=hh;refine⟨Y,R',D',hX,rfl,hJ,fun ad h=> .inr h,fun ad hr=> ?_,fun ad hdd ⟨i,o,hi,ho⟩=> ?_,fun ad hdd=> ?_,fun ad hdd=>hDD ad (hD00 ad hdd)⟩
   ·rcases hR' ad hr with hr|hs
    ·exact hR0 ad hr
    ·exact .inr (Nat.le_trans (Nat.le_trans hL.fr.size h.fr.size) hs)
   ·rcases hD' ad hdd with hq|hq|hq
    ·have hlt:=(hok.sub _ _ _ _ hJ0).2 ad hq;rcases h1.mine i o ad hi ho with hm|hs
     ·exact hDM ad hq hm
     ·omega
    ·exact hq (.inr ⟨i,o,hi,ho⟩)
    ·have:=FO h1 hi ho;omega
   ·rcases hD' ad hdd with hq|hq|hq
    ·exact hD0 ad hq
    ·exact .inr (.inl fun hz=>hq (.inl (hL.z ad hz)))
    ·exact .inr (.inr (Nat.le_trans (Nat.le_trans hL.fr.size h.fr.size) hq))
 ·simp only[St.backY,St.rest]at hv;by_cases e:t=YS
  ·subst e;rw[AR]at hv;cases hv;trivial
  ·rw[AW e,Bt e]at hv;exact hp.tmps t v hv
end
section
variable {P:Program} {T:Au} {X:Cx} {M Z:Addr→Prop} {w0 w:World} {ρ:As} {st:St} {a:Act}
theorem RepC.keepZ{w':World}{Z':Addr→Prop}(hk:Keep w w' (Aj ρ Z) (Aj ρ Z')){c:C}{v:Value}(hc:RepC ρ w Z c v):RepC ρ w' Z' c v:=by
 cases c with
 |d x=>exact RepD.keep hk hc
 |nl=>exact hc
 |bad=>exact hc
 |sl i off n=>exact hc
 |ptr i off=>exact hc
theorem RepU.keepZ{w':World}{Z':Addr→Prop}(hk:Keep w w' (Aj ρ Z) (Aj ρ Z')){u:U}{v:Value}(hu:RepU ρ w Z u v):RepU ρ w' Z' u v:=by
 cases u with
 |c x=>exact RepC.keepZ hk hu
 |agg cs=>obtain⟨vs,hv,hl,hr⟩:=hu;exact⟨vs,hv,hl,fun j x v hx hv=>RepC.keepZ hk (hr j x v hx hv)⟩
 |clo f cs=>obtain⟨vs,hv,hl,hr⟩:=hu;exact⟨vs,hv,hl,fun j x v hx hv=>RepC.keepZ hk (hr j x v hx hv)⟩
theorem Heap.keepZ{w':World}{Z':Addr→Prop}{h:List (Nat×Blk)}(hh:Heap ρ w Z h)(hk:Keep w w' (Aj ρ Z) (Aj ρ Z'))
  (hs: ∀i o,ρ i=some o→o.gone=false→ ∀j,j<o.room*o.sz→w'.cell? (o.at j)=w.cell? (o.at j)∧w'.frozen? (o.at j)=w.frozen? (o.at j)):Heap ρ w' Z' h:=
 ⟨⟨fun i o hi hg j hj=>by rw[(hs i o hi hg j hj).1,(hs i o hi hg j hj).2];exact hh.owns.cells i o hi hg j hj,hh.owns.apart,hh.owns.lim⟩,fun i b hb=>by
  obtain⟨o,ho,hr⟩:=hh.rep i b hb
  refine⟨o,ho,?_⟩
  have hsame:=hs i o ho;cases b with
  |row sz cs app=>
   obtain⟨q1,q2,q3,q4,q5⟩:=hr
   refine⟨q1,q2,q3,q4,fun j x hx=> ?_⟩
   obtain⟨v,hv,hd⟩:=q5 j x hx
   have hj:j<cs.length:=(jzg.1 hx).1;have hnil:o.nil=false:=by
    cases hn:o.nil with
    |false=>rfl
    |true=>rw[q4.1 hn]at q3;omega
   exact⟨v,by rw[(hsame (q4.2.trans hnil) j (by rw[q1];omega)).1];exact hv,hd.keep hk⟩
  |box cs=>
   obtain⟨q1,q2,q3,q4⟩:=hr
   refine⟨q1,q2,q3,fun j x hx=> ?_⟩
   obtain⟨v,hv,h1v,hd⟩:=q4 j x hx
   have hj:j<cs.length:=(jzg.1 hx).1;exact⟨v,by rw[(hsame q3.2 j (by rw[q1,q2];omega)).1];exact hv,h1v,hd.keepZ hk⟩
  |fbox f cs=>
   obtain⟨q1,q2,q3,v,hv,hd⟩:=hr
   exact⟨q1,q2,q3,v,by rw[(hsame q3.2 0 (by rw[q1,q2];omega)).1];exact hv,RepU.keepZ (u:= .clo f cs) hk hd⟩⟩
theorem A.rep.keep{w':World}{Z':Addr→Prop}(hk:Keep w w' Z Z'){A0:A}{v:Value}(h:A.rep w Z A0 v):A.rep w' Z' A0 v:=by
 cases A0 with
 |c x=>exact RepD.keep hk h
 |agg cs=>obtain⟨vs,hv,hl,hr⟩:=h;exact⟨vs,hv,hl,fun j x v hx hv=>RepD.keep hk (hr j x v hx hv)⟩
theorem RepL.mono{α:Type}{r s:α→Value→Prop}{xs:List α}{vs:List Value}(h:RepL r xs vs)(hi: ∀x v,r x v→s x v):RepL s xs vs:=⟨h.1,fun j x v hx hv=>hi x v (h.2 j x v hx hv)⟩
def KS(P:Program)(Y:Yl)(f:FuncId)(cl:List D)(clv:List Value)(zs:List A→List (List A))(rest:List (List A))(Db:Addr→Prop):Yl where
 g:=f
 caps:=clv
 J:=fun rem R D w=>(∀y∈rem,BA P Y.x f (y++cl.map .c) (zs y))∧(∀ad,D ad→ad.block<w.heap.size)∧(∃D0:Addr→Prop,(∀ad,Db ad→D0 ad)∧(∀ad,D0 ad→D ad)∧Y.J (rem.flatMap zs++rest) R D0 w)∧RepL (RepD w fun ad=>R ad∨ ¬D ad) cl clv
theorem Q0{Y:Yl}(hY:YlOk P Y)(f:FuncId)(cl:List D)(clv:List Value)(zs:List A→List (List A))(rest:List (List A))(Db:Addr→Prop):YlOk P (KS P Y f cl clv zs rest Db) where
 sub:=fun rem R D w ⟨_,h,⟨D0,_,h2,h3⟩,_⟩=>⟨fun ad hr=>h2 ad ((hY.sub _ R D0 w h3).1 ad hr),h⟩
 stable:=fun rem R D w w' M ⟨h1,hlt,⟨D0,hb,hD0,h2⟩,h3⟩ hM hfr=>⟨h1,fun ad h=>Nat.lt_of_lt_of_le (hlt ad h) hfr.size,⟨D0,hb,hD0,hY.stable _ R D0 w w' M h2 (fun ad hm hd=>hM ad hm (hD0 ad hd)) hfr⟩,h3.mono fun x v hx=>hx.keep fun ad u hn hu=>
  ⟨hfr.cell ad u (fun hm=>hn (.inr (hM ad hm))) hu,hn⟩⟩
 step:=fun y rem R D D2 w vals ⟨h1,hlt,⟨D0,hb,hD0,h2⟩,h3⟩ hD hD2 hy=>by
  obtain⟨hfn,hcall⟩:=h1 y (by simp)
  refine⟨hfn,?_⟩
  rw[List.flatMap_cons,List.append_assoc]at h2
  have hsub:=hY.sub _ R D0 w h2;have hargs:RepL (A.rep w fun ad=>(R ad∨ ¬D2 ad)∧ad.block<w.heap.size) (y++cl.map .c) (vals++clv):=by
   refine(hy.mono fun x v hx=>hx.keep (Keep.mono fun _ h=>h.1)).append ⟨by simpa using h3.1,fun j x v hx hv=> ?_⟩
   simp only[Bi,jze]at hx;obtain⟨d,hd,rfl⟩:=hx;exact RepD.keep (Keep.mono fun ad h=>h.1.imp id fun hn hd=>hn (hD ad hd)) (h3.2 j d v hd hv)
  have:=hcall Y rfl hY w _ _ _ R D0 h2 (fun ad h=>h.2) (fun ad h=>⟨.inl h,hsub.2 ad (hsub.1 ad h)⟩) hargs
  refine this.mono fun e w' ⟨he,R',D',hJ,hfr,hR',hD',hDD⟩=>⟨he,R',fun ad=>D' ad∨D ad,⟨fun y hy=>h1 y (by simp[hy]),fun ad h=> ?_,⟨D',fun ad h=>hDD ad (hb ad h),fun ad h=> .inl h,hJ⟩,h3.mono fun x v hx=>hx.keep fun ad u hn hu=> ?_⟩,hfr,hR',fun ad hd=> ?_,fun ad h=> .inr h⟩
  ·rcases h with h|h
   ·exact(hY.sub _ R' D' w' hJ).2 ad h
   ·exact Nat.lt_of_lt_of_le (hlt ad h) hfr.size
  ·have hnR: ¬R ad:=fun h=>hn (.inl h)
   have hDa:D ad:=Classical.not_not.1 fun h=>hn (.inr h)
   refine⟨hfr.cell ad u hnR hu,?_⟩
   rintro (h|h)
   ·rcases hR' ad h with h|h
    ·exact hnR h
    ·have:=World.block_lt_of_cell? w ad hu;omega
   ·exact h (.inr hDa)
  ·rcases hd with hd|hd
   ·rcases hD' ad hd with h|h|h
    ·exact .inl (hD ad (hD0 ad h))
    ·by_cases hb:ad.block<w.heap.size
     ·exact .inl (Classical.not_not.1 fun hn=>h ⟨.inr hn,hb⟩)
     ·exact .inr (by omega)
    ·exact .inr h
   ·exact .inl (hD ad hd)
def HG(f:FuncId)(cs:List C)(ys:List (List A))(H:List (List A)→List (Nat×Blk))(cv:List Value):Yl where
 g:=f
 caps:=cv
 J:=fun rem R D w=>rem<:+ys∧(∀ad,D ad→ad.block<w.heap.size)∧ ∃ρ,R=Cells ρ∧(∀ad,Cells ρ ad→D ad)∧Heap ρ w (fun ad=>ad.block<w.heap.size∧ ¬D ad) (H rem)∧
  RepL (RepC ρ w fun ad=>ad.block<w.heap.size∧ ¬D ad) cs cv∧ ∀i o,ρ i=some o→(lk i (H rem)).isSome=true
theorem R9{f:FuncId}{cs:List C}{ys:List (List A)}{H:List (List A)→List (Nat×Blk)}(cv:List Value)(hx: ∀y rest,(y::rest)<:+ys→HE P f y cs (H (y::rest)) (H rest)):YlOk P (HG f cs ys H cv) where
 sub:=fun rem R D w ⟨_,h2,ρ,h3,h4,_⟩=>⟨fun ad h=>h4 ad (h3 ▸ h),h2⟩
 stable:=fun rem R D w w' M ⟨h1,h2,ρ,h3,h4,h5,h6,h7⟩ hM hfr=>by
  have hk:Keep w w' (Aj ρ fun ad=>ad.block<w.heap.size∧ ¬D ad) (Aj ρ fun ad=>ad.block<w'.heap.size∧ ¬D ad):=fun ad u hn hu=>by
   have hlt:=World.block_lt_of_cell? w ad hu;have hDa:D ad:=Classical.not_not.1 fun h=>hn (.inl ⟨hlt,h⟩)
   refine⟨hfr.cell ad u (fun hm=>hM ad hm hDa) hu,?_⟩
   rintro (h|h)
   ·exact h.2 hDa
   ·exact hn (.inr h)
  refine⟨h1,fun ad h=>Nat.lt_of_lt_of_le (h2 ad h) hfr.size,ρ,h3,h4,h5.keepZ hk fun i o hi hg j hj=> ?_,h6.mono fun c v hc=>hc.keepZ hk,h7⟩
  obtain⟨⟨v,hv⟩,_⟩:=h5.owns.cells i o hi hg j hj
  refine⟨?_,hfr.frz _ (World.block_lt_of_cell? w _ hv)⟩
  rw[hv]
  exact hfr.cell _ v (fun hm=>hM _ hm (h4 _ ⟨i,o,hi,Own.has_at hg hj⟩)) hv
 step:=fun y rem R D D2 w vals ⟨h1,h2,ρ,h3,h4,h5,h6,h7⟩ hD hD2 hy=>by
  obtain⟨hfn,hcall⟩:=hx y rem h1
  refine⟨hfn,?_⟩
  have hkz:Keep w w (Aj ρ fun ad=>ad.block<w.heap.size∧ ¬D ad) (Aj ρ fun ad=>ad.block<w.heap.size∧ ¬D2 ad):=Keep.mono fun ad h=>h.imp (fun h=>⟨h.1,fun hd=>h.2 (hD ad hd)⟩) id
  have:=hcall w (fun ad=>ad.block<w.heap.size∧ ¬D2 ad) ρ vals cv (fun ad h=>h.1) (h5.keepZ hkz fun _ _ _ _ _ _=>⟨rfl,rfl⟩) (fun ad h hz=>hz.2 (hD ad (h4 ad h))) h7
   (hy.mono fun x v hx=>hx.keep (Keep.mono fun ad h=>by
    rcases h with h|h
    ·exact .inr h.2
    ·exact .inl (h3 ▸ h))) (h6.mono fun c v hc=>hc.keepZ hkz)
  refine this.mono fun e w' ⟨he,ρ',hfr,hh,hl,hc,hcs⟩=> ?_
  have hout: ∀ad,(ad.block<w'.heap.size∧ ¬(D2 ad∨(w.heap.size≤ad.block∧ad.block<w'.heap.size)))→ad.block<w.heap.size∧ ¬D2 ad:=fun ad h=>⟨by
   rcases Nat.lt_or_ge ad.block w.heap.size with h'|h'
   ·exact h'
   ·exact absurd (.inr ⟨h',h.1⟩) h.2,fun hd=>h.2 (.inl hd)⟩
  have hkz':Keep w' w' (Aj ρ' fun ad=>ad.block<w.heap.size∧ ¬D2 ad) (Aj ρ' fun ad=>ad.block<w'.heap.size∧ ¬(D2 ad∨(w.heap.size≤ad.block∧ad.block<w'.heap.size))):=Keep.mono fun ad h=>h.imp (hout ad) id
  have hltc: ∀ad,Cells ρ' ad→ad.block<w'.heap.size:=fun ad ⟨i,o,hi,hn,hb,hlo,hhi⟩=>by
   obtain⟨⟨v,hv⟩,_⟩:=hh.owns.cells i o hi hn (ad.off - o.o) (by omega)
   have:=World.block_lt_of_cell? w' _ hv
   simpa [hb]using this
  refine⟨he,Cells ρ',fun ad=>D2 ad∨(w.heap.size≤ad.block∧ad.block<w'.heap.size),⟨List.IsSuffix.trans (List.suffix_cons y rem) h1,fun ad h=> ?_,ρ',rfl,fun ad h=> ?_,hh.keepZ hkz' fun _ _ _ _ _ _=>⟨rfl,rfl⟩,hcs.mono fun c v hc=>hc.keepZ hkz',hl⟩,h3 ▸ hfr,fun ad h=> ?_,fun ad h=>h.imp id fun h=>h.1,fun ad h=> .inl (hD ad h)⟩
  ·rcases h with h|h
   ·exact Nat.lt_of_lt_of_le (hD2 ad h) hfr.size
   ·exact h.2
  ·rcases hc ad h with h'|h'
   ·exact .inl (hD ad (h4 ad h'))
   ·exact .inr ⟨h',hltc ad h⟩
  ·rcases hc ad h with h'|h'
   ·exact .inl (h3 ▸ h')
   ·exact .inr h'
theorem Rel.purgesF: ∀(l:List Nat) {ρ:As} {st:St},Rel M Z w0 ρ st a w→Rel M Z w0 (Ay l ρ) (purges l st) a w
 |[],ρ,st,h=>by
  have:Ay [] ρ=ρ:=by funext j;simp[Ay,ersd]
  rw[this];exact h
 |i::l,ρ,st,h=>by
  have:=Rel.purgesF l (h.purge i)
  have e:Ay (i::l) ρ=Ay l (upd ρ i none):=by
   funext j
   by_cases hj:j=i
   ·subst hj;simp[Ay,ersd,upd]
   ·simp[Ay,ersd,upd,hj]
  rw[e]
  exact this
theorem MI{ids:List Nat}{j:Nat}{o:Own}(h:Ay ids ρ j=some o):j∉ids∧ρ j=some o:=by
 obtain⟨h1,h2⟩:=Fj h
 exact⟨by simpa using h1,h2⟩
theorem Gz{ids:List Nat}{j:Nat}(h:j∉ids):Ay ids ρ j=ρ j:=by simp[Ay,ersd,h]
section
variable {f:FuncId} {cs:List C} {cv:List Value} {ys:List (List A)} {H:List (List A)→List (Nat×Blk)} {fz ids nw:List Nat}
def F7(ids nw fz:List Nat)(ρ:As):Addr→Prop:=Cells (Bo ids (Ay nw (Ay fz ρ)))
def E0(ids nw fz:List Nat)(ρ:As)(Z:Addr→Prop)(w:World):Addr→Prop:=fun ad=>ad.block<w.heap.size∧ ¬Aj (Ay ids (Ay nw (Ay fz ρ))) Z ad
theorem Q8(h:Rel M Z w0 ρ st a w)(hc:HbOk st cs (H ys) (H []) fz ids nw)(hcs:RepL (RepC ρ w Z) cs cv):(HG f cs ys H cv).J ys (F7 ids nw fz ρ) (E0 ids nw fz ρ Z w) w:=by
 have h2:=Rel.purgesF nw (h.freeze fz);have hid: ∀i∈ids,Ay nw (Ay fz ρ) i=ρ i:=fun i hi=>(Gz fun e=>hc.free i e hi).trans (Gz (hc.frz i hi))
 have hsub: ∀ad,Aj (Ay nw (Ay fz ρ)) Z ad→Aj ρ Z ad:=fun ad h=>CC (CC h)
 have hcs2:RepL (RepC (Ay nw (Ay fz ρ)) w Z) cs cv:=⟨hcs.1,fun j c v hx hv=>(hcs.2 j c v hx hv).keep (Keep.mono hsub) fun i hi=>hid i (hc.caps c (BB hx) i hi)⟩
 have hkz:Keep w w (Aj (Bo ids (Ay nw (Ay fz ρ))) (Aj (Ay ids (Ay nw (Ay fz ρ))) Z)) (Aj (Bo ids (Ay nw (Ay fz ρ))) fun ad=>ad.block<w.heap.size∧ ¬E0 ids nw fz ρ Z w ad):=Keep.mono fun ad hh=>by
  rcases hh with⟨hl,hn⟩|hh
  ·exact .inl (Classical.not_not.1 fun hno=>hn ⟨hl,hno⟩)
  ·exact .inr hh
 refine⟨List.suffix_refl _,fun ad hd=>hd.1,_,rfl,fun ad ⟨i,o,hi,ho⟩=>⟨FO h2 (AU hi).2 ho,?_⟩,Heap.keepZ ⟨⟨fun j oj hj=>h2.heap.owns.cells j oj (AU hj).2,fun j j' o1 o2 hj hj'=>h2.heap.owns.apart j j' o1 o2 (AU hj).2 (AU hj').2,fun j oj hj=>h2.heap.owns.lim j oj (AU hj).2⟩,fun i b hb=> ?_⟩ hkz fun _ _ _ _ _ _=>⟨rfl,rfl⟩,
  ⟨hcs2.1,fun j c v hx hv=>RepC.keepZ hkz (Hh (hc.caps c (BB hx)) (hcs2.2 j c v hx hv))⟩,fun i o hi=>hc.here i (AU hi).1⟩
 ·obtain⟨e1,e2⟩:=AU hi
  exact h2.thawed (ok:=(ids.contains ·)) e2 (by simpa using e1) ho
 ·obtain⟨e1,e2,e3⟩:=hc.old i b hb
  obtain⟨oj,hoj,hr⟩:=h2.heap.rep i b e2
  exact⟨oj,(ET e1).trans hoj,K2 e3 hr⟩
theorem Sj(h:Rel M Z w0 ρ st a w)(hc:HbOk st cs (H ys) (H []) fz ids nw){dst:Option Nat}(hd: ∀d,dst=some d→d<a.tmps.size)(hcs:RepL (RepC ρ w Z) cs cv){w':World}{R' D':Addr→Prop}(hJ:(HG f cs ys H cv).J [] R' D' w')
  (hfr:Fr (F7 ids nw fz ρ) w w') (hR': ∀ad,R' ad→F7 ids nw fz ρ ad∨w.heap.size≤ad.block) (hD': ∀ad,D' ad→E0 ids nw fz ρ Z w ad∨ ¬Aj (Ay fz ρ) Z ad∨w.heap.size≤ad.block):
  ∃ρ',Rel M Z w0 ρ' (st.backX dst ids nw fz cs (H [])) (a.put dst (.tuple #[])) w':=by
 have h2:=Rel.purgesF nw (h.freeze fz);generalize hρ:Ay nw (Ay fz ρ)=ρ2 at h2;have hid: ∀i∈ids,ρ2 i=ρ i:=fun i hi=>by rw[←hρ];exact(Gz fun e=>hc.free i e hi).trans (Gz (hc.frz i hi))
 have hnw: ∀i∈nw,ρ2 i=none:=fun i hi=>by rw[←hρ];simp[Ay,ersd,hi]
 have hsub1: ∀ad,Aj ρ2 Z ad→Aj (Ay fz ρ) Z ad:=fun ad h=>by rw[←hρ]at h;exact CC h
 simp only[F7,E0,hρ]at hfr hR' hD';obtain⟨_,hDlt,ρc,rfl,hcD,hheap,hcs',hlk⟩:=hJ;have hcid: ∀i o,ρc i=some o→i∈ids∨i∈nw:=fun i o hi=>by
  cases hb:lk i (H [])with
  |none=>have:=hlk i o hi;rw[hb]at this;cases this
  |some b=>exact hc.new i b hb
 let ρ3:As:=fun i=>if i∈ids∨i∈nw then ρc i else ρ2 i
 have e3c: ∀i o,ρc i=some o→ρ3 i=some o:=fun i o hi=>by simp only[ρ3];rw[if_pos (hcid i o hi)];exact hi
 have e3n: ∀i,i∉ids→i∉nw→ρ3 i=ρ2 i:=fun i h1 h2=>by simp only[ρ3];rw[if_neg (by simp[h1,h2])]
 have e3: ∀i o,ρ3 i=some o→ρc i=some o∨(i∉ids∧i∉nw∧ρ2 i=some o):=fun i o hi=>by
  simp only[ρ3]at hi;split at hi
  ·exact .inl hi
  ·rename_i hn;exact .inr ⟨fun h=>hn (.inl h),fun h=>hn (.inr h),hi⟩
 have hRown: ∀ad,Cells (Bo ids ρ2) ad→ ∃i o,i∈ids∧ρ2 i=some o∧o.has ad:=fun ad ⟨i,o,hi,ho⟩=>⟨i,o,(AU hi).1,(AU hi).2,ho⟩
 have hk:Keep w w' (Aj ρ2 Z) (Aj ρ3 Z):=fun ad u hn hu=>by
  refine⟨hfr.cell ad u (fun hr=> ?_) hu,?_⟩
  ·obtain⟨i,o,_,hi,ho⟩:=hRown ad hr;exact hn (.inr ⟨i,o,hi,ho⟩)
  rintro (hz|⟨i,o,hi,ho⟩)
  ·exact hn (.inl hz)
  ·rcases e3 i o hi with hi|⟨_,_,hi⟩
   ·rcases hR' ad ⟨i,o,hi,ho⟩with hr|hs
    ·obtain⟨j,oj,_,hj,hoj⟩:=hRown ad hr;exact hn (.inr ⟨j,oj,hj,hoj⟩)
    ·have:=World.block_lt_of_cell? w ad hu;omega
   ·exact hn (.inr ⟨i,o,hi,ho⟩)
 have hcs2:RepL (RepC ρ2 w Z) cs cv:=⟨hcs.1,fun j c v hx hv=>(hcs.2 j c v hx hv).keep (Keep.mono fun ad h=>CC (hsub1 ad h)) fun i hi=>hid i (hc.caps c (BB hx) i hi)⟩
 have hturn:Cq ρ2 ρ3 w w' Z (EI ids cs):=fun c v hr=>by
  cases c with
  |d x=>exact RepD.keep hk hr
  |nl=>exact hr
  |bad=>exact hr
  |sl i off n=>
   simp only[C.on,EI];split
   ·exact RepC.one hr
   ·rename_i hi
    have hi:i∉ids:=by simpa using hi
    exact RepC.keep hk (fun k hk'=>by
     cases hk'
     obtain⟨o,ho,_⟩:=hr
     exact e3n i hi fun hw=>by rw[hnw i hw]at ho;cases ho) hr
  |ptr i off=>
   simp only[C.on,EI];split
   ·rename_i hi
    have hi:i∈ids:=by simpa using hi
    split
    ·rename_i hany
     rw[List.any_eq_true]at hany
     obtain⟨e,he,hp⟩:=hany
     cases e with
     |ptr j off'=>
      have:j=i:=by simpa using hp
      subst this;obtain⟨k,hk1,hk2⟩:=List.getElem_of_mem he;have hkv:k<cv.length:=by rw[←hcs.1];exact hk1
      obtain⟨o,ho,hn,hv⟩:=hcs2.2 k _ cv[k] (by rw[Am hk1,hk2]) (Am hkv)
      obtain⟨o',ho',hn',hv'⟩:=hcs'.2 k _ cv[k] (by rw[Am hk1,hk2]) (Am hkv)
      obtain⟨o2,ho2,hn2,hv2⟩:=hr
      obtain rfl:o2=o:=AK (ho2.symm.trans ho);rw[hv]at hv';simp only[Value.pointer.injEq,Option.some.injEq,Own.at,Addr.mk.injEq]at hv';refine⟨o',e3c _ _ ho',hn',?_⟩;rw[hv2];simp only[Own.at,Value.pointer.injEq,Option.some.injEq,Addr.mk.injEq,and_true];exact⟨hv'.1,by omega⟩
     |_=>simp at hp
    ·exact RepC.one hr
   ·rename_i hi
    have hi:i∉ids:=by simpa using hi
    exact RepC.keep hk (fun k hk'=>by
     cases hk'
     obtain⟨o,ho,_⟩:=hr
     exact e3n i hi fun hw=>by rw[hnw i hw]at ho;cases ho) hr
 have same: ∀i o,i∉ids→ρ2 i=some o→o.gone=false→ ∀j,j<o.room*o.sz→w'.cell? (o.at j)=w.cell? (o.at j)∧w'.frozen? (o.at j)=w.frozen? (o.at j):=fun i o hni hi hg j hj=>by
  obtain⟨⟨v,hv⟩,_⟩:=h2.heap.owns.cells i o hi hg j hj
  refine⟨?_,hfr.frz _ (World.block_lt_of_cell? w _ hv)⟩
  rw[hv]
  refine hfr.cell _ v (fun hr=> ?_) hv
  obtain⟨i',o',hi',ho',hh⟩:=hRown _ hr
  exact h2.heap.owns.apart i i' o o' hi ho' (fun e=>hni (e ▸ hi')) _ (Own.has_at hg hj) hh
 have hoff: ∀ad,Aj ρ3 Z ad→Aj ρc (fun ad=>ad.block<w'.heap.size∧ ¬D' ad) ad:=fun ad ho=>by
  rcases ho with hz|⟨i,o,hi,ho⟩
  ·have hlt:ad.block<w.heap.size:=Nat.lt_of_lt_of_le (h.out ad hz) h.fr.size;refine .inl ⟨Nat.lt_of_lt_of_le hlt hfr.size,fun hd=> ?_⟩
   rcases hD' ad hd with h1|h1|h1
   ·exact h1.2 (.inl hz)
   ·exact h1 (.inl hz)
   ·omega
  ·rcases e3 i o hi with hi|⟨hn1,hn2,hi⟩
   ·exact .inr ⟨i,o,hi,ho⟩
   ·have hlt:=FO h2 hi ho;refine .inl ⟨Nat.lt_of_lt_of_le hlt hfr.size,fun hd=> ?_⟩
    rcases hD' ad hd with h1|h1|h1
    ·exact h1.2 (.inr ⟨i,o,(Gz hn1).trans hi,ho⟩)
    ·exact h1 (hsub1 ad (.inr ⟨i,o,hi,ho⟩))
    ·omega
 have hcC: ∀(c:C) (v:Value),RepC ρc w' (fun ad=>ad.block<w'.heap.size∧ ¬D' ad) c v→RepC ρ3 w' Z c v:=fun c v hr=>by
  cases c with
  |d x=>exact RepD.keep (Keep.mono hoff) hr
  |nl=>exact hr
  |bad=>exact hr
  |sl i off n=>obtain⟨o,ho,r⟩:=hr;exact⟨o,e3c i o ho,r⟩
  |ptr i off=>obtain⟨o,ho,r⟩:=hr;exact⟨o,e3c i o ho,r⟩
 have hrel:Rel M Z w0 ρ3 { (purges nw (st.freeze fz)).on (EI ids cs)with h:=H []++Ee (ids.contains ·) ((purges nw (st.freeze fz)).on (EI ids cs)).h } a w':=
  {fr:=h.fr.into hfr fun ad hr=>by
    obtain⟨i,o,_,hi,ho⟩:=hRown ad hr
    exact h2.mine i o ad hi ho
   heap:=⟨⟨fun i o hi hg j hj=>by
     rcases e3 i o hi with hi|⟨hn1,hn2,hi⟩
     ·exact hheap.owns.cells i o hi hg j hj
     ·rw[(same i o hn1 hi hg j hj).1,(same i o hn1 hi hg j hj).2];exact h2.heap.owns.cells i o hi hg j hj,
    fun i i' o o' hi hi' hne ad ho ho'=>by
     have mixed: ∀{i i' o o'},ρc i=some o→i'∉ids→ρ2 i'=some o'→o.has ad→o'.has ad→False:=fun {i i' o o'} hi hn hi' ho ho'=>by
      rcases hR' ad ⟨i,o,hi,ho⟩with hr|hs
      ·obtain⟨j,oj,hj,hj2,hoj⟩:=hRown ad hr
       exact h2.heap.owns.apart j i' oj o' hj2 hi' (fun e=>hn (e ▸ hj)) ad hoj ho'
      ·have:=FO h2 hi' ho';omega
     rcases e3 i o hi with hi|⟨hn1,hn2,hi⟩<;>rcases e3 i' o' hi' with hi'|⟨hn1',hn2',hi'⟩
     ·exact hheap.owns.apart i i' o o' hi hi' hne ad ho ho'
     ·exact mixed hi hn1' hi' ho ho'
     ·exact mixed hi' hn1 hi ho' ho
     ·exact h2.heap.owns.apart i i' o o' hi hi' hne ad ho ho',
    fun i o hi=>by
     rcases e3 i o hi with hi|⟨hn1,hn2,hi⟩
     ·exact hheap.owns.lim i o hi
     ·exact h2.heap.owns.lim i o hi⟩,fun i b hb=>by
    simp only at hb;rw[H8]at hb;cases hl:lk i (H [])with
    |some b2=>
     rw[hl]at hb
     have hb:b2=b:=AK hb
     subst hb;obtain⟨o,ho,hr⟩:=hheap.rep i _ hl;refine⟨o,e3c i o ho,?_⟩;cases b2 with
     |row sz cs app=>obtain⟨q1,q2,q3,q4,q5⟩:=hr;exact⟨q1,q2,q3,q4,fun j x hx=>by obtain⟨v,hv,hd⟩:=q5 j x hx;exact⟨v,hv,hd.keep (Keep.mono hoff)⟩⟩
     |box cs=>obtain⟨q1,q2,q3,q4⟩:=hr;exact⟨q1,q2,q3,fun j x hx=>by obtain⟨v,hv,h1,hd⟩:=q4 j x hx;exact⟨v,hv,h1,hcC _ _ hd⟩⟩
     |fbox f cs=>obtain⟨q1,q2,q3,v,hv,vs,hvs,hl,hd⟩:=hr;exact⟨q1,q2,q3,v,hv,vs,hvs,hl,fun j x u hx hu=>hcC _ _ (hd j x u hx hu)⟩
    |none=>
     rw[hl]at hb
     simp only[Option.none_or]at hb;rw[IV]at hb;split at hb
     ·cases hb
     ·rename_i e
      have e:i∉ids:=by simpa using e
      simp only[St.on]at hb;rw[BQ,jze]at hb;obtain⟨b0,hb0,rfl⟩:=hb;obtain⟨o,ho,hr⟩:=h2.heap.rep i b0 hb0;have hn2:i∉nw:=fun hw=>by rw[hnw i hw]at ho;cases ho
      exact⟨o,(e3n i e hn2).trans ho,hr.turn hturn hk fun hg j hj=>(same i o e ho hg j hj).1⟩⟩
   mine:=fun i o ad hi ho=>by
    rcases e3 i o hi with hi|⟨hn1,hn2,hi⟩
    ·rcases hR' ad ⟨i,o,hi,ho⟩with hr|hs
     ·obtain⟨j,oj,_,hj2,hoj⟩:=hRown ad hr;exact h2.mine j oj ad hj2 hoj
     ·exact .inr (Nat.le_trans h.fr.size hs)
    ·exact h2.mine i o ad hi ho
   out:=h.out
   mz:=h.mz
   tmps:=fun t v hv=>by
    simp only[St.on]at hv;rw[BQ,jze]at hv;obtain⟨v0,hv0,rfl⟩:=hv;exact(h2.tmps t v0 hv0).turn hturn
   defers:=h.defers }
 exact⟨ρ3,hrel.put (v:= .tup []) hd ⟨[],rfl,rfl,fun j x v hx=>by simp at hx⟩⟩
end
theorem XW(h:Rel M Z w0 ρ st a w){k d sz m:Nat}{cs':List D}{w':World}{ρ':As}{v:Value}(hkn:(ρ k).isSome=true)(hd:d<a.tmps.size)
  (hfr:Fr (Cells (Bo [k] ρ)) w w') (hheap:Heap ρ' w' (Aj (Ay [k] ρ) Z) [(k,.row sz cs' true)]) (hone: ∀i o,ρ' i=some o→i=k) (hcells: ∀ad,Cells ρ' ad→Cells (Bo [k] ρ) ad∨w.heap.size≤ad.block)
  (hv:RepC ρ' w' (Aj (Ay [k] ρ) Z) (.sl k 0 m) v): ∃ρ'',Rel M Z w0 ρ'' (((st.drop k).new d (.row sz cs' true)).put (some d) (vC (.sl d 0 m))) (a.put (some d) v) w':=by
 obtain⟨ok,hok⟩:=Option.isSome_iff_exists.1 hkn
 obtain⟨o2,ho2,hv2⟩:=hv
 let ρ3:As:=fun i=>if i=d then some o2 else if i=k then some { ok with gone:=true } else ρ i
 have e3: ∀i o,ρ3 i=some o→(i=d∧o=o2)∨(i≠d∧i=k∧o={ ok with gone:=true })∨(i≠d∧i≠k∧ρ i=some o):=fun i o hi=>by
  simp only[ρ3]at hi;split at hi
  ·exact .inl ⟨‹_›,(AK hi).symm⟩
  ·split at hi
   ·exact .inr (.inl ⟨‹_›,‹_›,(AK hi).symm⟩)
   ·exact .inr (.inr ⟨‹_›,‹_›,hi⟩)
 have ngone: ∀ad,¬Own.has { ok with gone:=true } ad:=fun ad hh=>by cases hh.1
 have hRk: ∀ad,Cells (Bo [k] ρ) ad→ok.has ad:=fun ad ⟨i,o,hi,ho⟩=>by
  obtain⟨h1,h2⟩:=AU hi
  have:i=k:=by simpa using h1
  subst this;rw[hok]at h2;cases h2;exact ho
 have h2c: ∀ad,o2.has ad→ok.has ad∨w.heap.size≤ad.block:=fun ad ho=>(hcells ad ⟨k,o2,ho2,ho⟩).imp (hRk ad) id
 have hk:Keep w w' (Aj ρ Z) (Aj ρ3 Z):=fun ad u hn hu=>by
  refine⟨hfr.cell ad u (fun hr=>hn (.inr ⟨k,ok,hok,hRk ad hr⟩)) hu,?_⟩
  rintro (hz|⟨i,o,hi,ho⟩)
  ·exact hn (.inl hz)
  ·rcases e3 i o hi with⟨_,rfl⟩|⟨_,_,rfl⟩|⟨_,_,hi⟩
   ·rcases h2c ad ho with h1|h1
    ·exact hn (.inr ⟨k,ok,hok,h1⟩)
    ·have:=World.block_lt_of_cell? w ad hu;omega
   ·exact ngone ad ho
   ·exact hn (.inr ⟨i,o,hi,ho⟩)
 have hturn:Cq ρ ρ3 w w' Z (AY d):=fun c v hr=>by
  have named: ∀i,i≠d→ ∀o,ρ i=some o→ ∃o',ρ3 i=some o'∧o'={ o with gone:=o'.gone }:=fun i hi o ho=>by
   by_cases e:i=k
   ·subst e;rw[hok]at ho;cases ho;exact⟨{ ok with gone:=true },by simp[ρ3,hi],rfl⟩
   ·exact⟨o,by simp[ρ3,hi,e,ho],rfl⟩
  cases c with
  |d x=>exact RepD.keep hk hr
  |nl=>exact hr
  |bad=>exact hr
  |sl i off n=>
   simp only[C.on,AY];split
   ·exact RepC.one hr
   ·rename_i hi
    obtain⟨o,ho,r⟩:=hr
    obtain⟨o',ho',he⟩:=named i hi o ho
    rw[he]at ho'
    exact⟨_,ho',r⟩
  |ptr i off=>
   simp only[C.on,AY];split
   ·exact RepC.one hr
   ·rename_i hi
    obtain⟨o,ho,r⟩:=hr
    obtain⟨o',ho',he⟩:=named i hi o ho
    rw[he]at ho'
    exact⟨_,ho',r⟩
 have same: ∀i o,i≠k→ρ i=some o→o.gone=false→ ∀j,j<o.room*o.sz→w'.cell? (o.at j)=w.cell? (o.at j)∧w'.frozen? (o.at j)=w.frozen? (o.at j):=fun i o hni hi hg j hj=>by
  obtain⟨⟨v,hv⟩,_⟩:=h.heap.owns.cells i o hi hg j hj
  refine⟨?_,hfr.frz _ (World.block_lt_of_cell? w _ hv)⟩
  rw[hv]
  exact hfr.cell _ v (fun hr=>h.heap.owns.apart i k o ok hi hok hni _ (Own.has_at hg hj) (hRk _ hr)) hv
 have hout: ∀ad,Aj ρ3 Z ad→Aj ρ' (Aj (Ay [k] ρ) Z) ad:=fun ad ho=>by
  rcases ho with hz|⟨i,o,hi,ho⟩
  ·exact .inl (.inl hz)
  ·rcases e3 i o hi with⟨_,rfl⟩|⟨_,_,rfl⟩|⟨_,hne,hi⟩
   ·exact .inr ⟨k,o,ho2,ho⟩
   ·exact absurd ho (ngone ad)
   ·exact .inl (.inr ⟨i,o,(Gz (by simpa using hne)).trans hi,ho⟩)
 obtain⟨o2',ho2',q1,q2,q3,q4,q5⟩:=hheap.rep k (.row sz cs' true) (AR _ _ _)
 obtain rfl:o2'=o2:=AK (ho2'.symm.trans ho2);have hrel:Rel M Z w0 ρ3 ((st.drop k).new d (.row sz cs' true)) a w':=
  {fr:=h.fr.into hfr fun ad hr=>h.mine k ok ad hok (hRk ad hr)
   heap:=⟨⟨fun i o hi hg j hj=>by
     rcases e3 i o hi with⟨_,rfl⟩|⟨_,_,rfl⟩|⟨_,hne,hi⟩
     ·exact hheap.owns.cells k o ho2 hg j hj
     ·cases hg
     ·rw[(same i o hne hi hg j hj).1,(same i o hne hi hg j hj).2];exact h.heap.owns.cells i o hi hg j hj,
    fun i i' o o' hi hi' hne ad ho ho'=>by
     have mixed: ∀{i' o'},i'≠k→ρ i'=some o'→o2'.has ad→o'.has ad→False:=fun {i' o'} hn hi' ho ho'=>by
      rcases h2c ad ho with h1|h1
      ·exact h.heap.owns.apart k i' ok o' hok hi' (fun e=>hn e.symm) ad h1 ho'
      ·have:=FO h hi' ho';omega
     rcases e3 i o hi with⟨h1,h2⟩|⟨_,_,h2⟩|⟨_,hn,hq⟩<;>rcases e3 i' o' hi' with⟨h1',h2'⟩|⟨_,_,h2'⟩|⟨_,hn',hq'⟩
     ·exact hne (h1.trans h1'.symm)
     ·exact ngone ad (h2' ▸ ho')
     ·exact mixed hn' hq' (h2 ▸ ho) ho'
     ·exact ngone ad (h2 ▸ ho)
     ·exact ngone ad (h2 ▸ ho)
     ·exact ngone ad (h2 ▸ ho)
     ·exact mixed hn hq (h2' ▸ ho') ho
     ·exact ngone ad (h2' ▸ ho')
     ·exact h.heap.owns.apart i i' o o' hq hq' hne ad ho ho',
    fun i o hi=>by
     rcases e3 i o hi with⟨_,rfl⟩|⟨_,_,rfl⟩|⟨_,hne,hi⟩
     ·exact hheap.owns.lim k o ho2
     ·exact h.heap.owns.lim k ok hok
     ·exact h.heap.owns.lim i o hi⟩,fun i b hb=>by
    by_cases e:i=d
    ·subst e;simp only[St.new,St.blk]at hb;rw[AR]at hb;cases hb;refine⟨o2',by simp[ρ3],q1,q2,q3,q4,fun j x hx=> ?_⟩
     obtain⟨u,hu,hdd⟩:=q5 j x hx
     exact⟨u,hu,hdd.keep (Keep.mono hout)⟩
    ·simp only[St.new,St.blk,St.purge]at hb;rw[AW e,Bt e,Bt e]at hb;simp only[St.on,St.drop]at hb;rw[BQ,jze]at hb;obtain⟨b0,hb0,rfl⟩:=hb;obtain⟨hne,hb0⟩:=GH hb0;obtain⟨o,ho,hr⟩:=h.heap.rep i b0 hb0;exact⟨o,by simp[ρ3,e,hne,ho],hr.turn hturn hk fun hg j hj=>(same i o hne ho hg j hj).1⟩⟩
   mine:=fun i o ad hi ho=>by
    rcases e3 i o hi with⟨_,rfl⟩|⟨_,_,rfl⟩|⟨_,hne,hi⟩
    ·rcases h2c ad ho with h1|h1
     ·exact h.mine k ok ad hok h1
     ·exact .inr (Nat.le_trans h.fr.size h1)
    ·exact absurd ho (ngone ad)
    ·exact h.mine i o ad hi ho
   out:=h.out
   mz:=h.mz
   tmps:=fun t v hv=>by
    simp only[St.new,St.blk,St.purge,St.on,St.drop]at hv;rw[BQ,jze]at hv;obtain⟨v0,hv0,rfl⟩:=hv;exact(h.tmps t v0 hv0).turn hturn
   defers:=h.defers }
 exact⟨ρ3,hrel.put (dst:=some d) (v:=vC (.sl d 0 m)) (fun q hq=>by cases hq;exact hd) ⟨o2',by simp[ρ3],hv2⟩⟩
end
end Go.Va
