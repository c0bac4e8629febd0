/- a part of the proof -/
import Derived.Test.YtlgoebgnbkhmmaaGreatDoorZae
set_option linter.all false
namespace Go.Va
open Go.RowKit
variable [Gv]
structure Cx where
 M:Addr→Prop
 Z:Addr→Prop
 w0:World
 n:Nat
 pin:List Nat
 pv:Nat→Value
 Y:Option Yl
 R0:Addr→Prop
 D0:Addr→Prop
structure Lk (X:Cx) (M Z:Addr→Prop) (w0:World) (st:St) (a:Act):Prop where
 pins: ∀k∈X.pin,a.tmps.getD k undef=X.pv k
 plain:X.Y=none→M=X.M∧Z=X.Z∧w0=X.w0
 fr:Fr (fun ad=>X.M ad∨X.R0 ad) X.w0 w0
 z: ∀ad,X.Z ad→Z ad
 m: ∀ad,M ad→X.M ad∨X.w0.heap.size≤ad.block
 y: ∀x r,lk YS st.t=some (.tr x r)→ ∃Y R D,X.Y=some Y∧x=Y.x∧Y.J r R D w0∧(∀ad,R ad→Z ad)∧(∀ad,R ad→X.R0 ad∨X.w0.heap.size≤ad.block)∧(∀ad,D ad→ ¬M ad)∧
  (∀ad,D ad→X.D0 ad∨ ¬X.Z ad∨X.w0.heap.size≤ad.block)∧(∀ad,X.D0 ad→D ad)
def BX(X:Cx)(K:St→Prop)(a:Act)(w:World):Prop:= ∃M Z w0 ρ st,Lk X M Z w0 st a∧Rel M Z w0 ρ st a w∧a.tmps.size=X.n∧K st
def Fg(X:Cx)(d:Nat):Prop:=d<X.n∧d<YS∧d∉X.pin
section
variable {P:Program} {T:AH} {X:Cx} {M Z:Addr→Prop} {w0 w:World} {ρ:AE} {st:St} {a:Act}
theorem Lk.next(h:Lk X M Z w0 st a){st':St}{a':Act}(ht:TrLe st' st)(hp: ∀k∈X.pin,a'.tmps.getD k undef=a.tmps.getD k undef):Lk X M Z w0 st' a' where
 pins:=fun k hk=>(hp k hk).trans (h.pins k hk)
 plain:=h.plain
 fr:=h.fr
 z:=h.z
 m:=h.m
 y:=fun x r hh=>h.y x r (ht x r hh)
theorem Lk.of(h:Lk X M Z w0 st a){st':St}(ht:TrLe st' st):Lk X M Z w0 st' a:=h.next ht fun _ _=>rfl
theorem PQ{a:Act}{dst:Option Nat}{v:Value}(hd: ∀d,dst=some d→Fg X d): ∀k∈X.pin,(a.put dst v).tmps.getD k undef=a.tmps.getD k undef:=fun k hk=>by
 cases dst with
 |none=>rfl
 |some d=>
  have hne:d≠k:=fun e=>(hd d rfl).2.2 (e ▸ hk)
  simp[Act.put,Cn,Array.getElem?_setIfInBounds,hne]
theorem Lk.put(h:Lk X M Z w0 st a){st':St}{dst:Option Nat}{v:Value}(ht:TrLe st' st)(hd: ∀d,dst=some d→Fg X d):Lk X M Z w0 st' (a.put dst v):=h.next ht (PQ hd)
theorem CX(a:Act)(d:Option Nat)(v:Value):(a.put d v).tmps.size=a.tmps.size:=by cases d<;>simp[Act.put]
theorem EG(h:Rel M Z w0 ρ st a w){i:Nat}{o:Own}(hi:ρ i=some o){ad:Addr}(ho:o.has ad):ad.block<w.heap.size:=by
 rcases Own.has_cases ho with⟨hn,hb,hlo,hhi⟩|⟨hm,hb⟩
 case inr=>
  obtain⟨y,hl,_⟩:=h.mps i o hi hm
  grind
 obtain⟨⟨v,hv⟩,_⟩:=h.heap.owns.cells i o hi hn (ad.off - o.o) (by omega)
 have:=World.block_lt_of_cell? w _ hv
 grind
theorem IP(h:Rel M Z w0 ρ st a w){i:Nat}{o:Own}(hi:ρ i=some o){ad:Addr}(ho:o.has ad): ¬Z ad:=fun hz=>by
 rcases h.mine i o ad hi ho with hm|hs
 ·exact h.mz ad hm hz
 ·have:=h.out ad hz;omega
theorem SC(h:Rel M Z w0 ρ st a w){ad:Addr}(ho:Ar ρ Z ad):ad.block<w.heap.size:=by
 rcases ho with hz|⟨j,oj,hj,hh⟩
 ·exact Nat.lt_of_lt_of_le (h.out ad hz) h.fr.size
 ·exact EG h hj hh
theorem PJ(h:Rel M Z w0 ρ st a w){Z1 Z2:Addr→Prop}(h1: ∀ad,Z1 ad→ad.block<w.heap.size)(h2: ∀ad,Z2 ad→ad.block<w.heap.size→Ar ρ Z ad):ZOk w Z1 Z2:=
 h.out.keep h.fr (by grind) h1 fun ad hz=>by
  rcases Nat.lt_or_ge ad.block w.heap.size with hl|hl
  ·rcases h2 ad hz hl with hz|⟨j,oj,hj,hh⟩
   ·grind
   ·exact(h.mine j oj ad hj hh).imp .inr id
  ·exact .inr (Nat.le_trans h.fr.size hl)
theorem Hs(h:Rel M Z w0 ρ st a w){Z1 Z2:Addr→Prop}(h1: ∀ad,Z1 ad→Ar ρ Z ad)(h2: ∀ad,Z2 ad→Ar ρ Z ad):ZOk w Z1 Z2:=
 (by grind[PJ,SC])
theorem MX(h:Rel M Z w0 ρ st a w)(hL:Lk X M Z w0 st a){dst:Option Nat}(hd: ∀d,dst=some d→Fg X d)(hn:a.tmps.size=X.n){ids:List Nat}{Y:Yl}(hX:X.Y=some Y)(hok:YlOk P Y){r r':List (List A)}{R D:Addr→Prop}
  (hJ0:Y.J r R D w0) (hRZ: ∀ad,R ad→Z ad) (hR0: ∀ad,R ad→X.R0 ad∨X.w0.heap.size≤ad.block) (hDM: ∀ad,D ad→ ¬M ad) (hD0: ∀ad,D ad→X.D0 ad∨ ¬X.Z ad∨X.w0.heap.size≤ad.block) (hD00: ∀ad,X.D0 ad→D ad)
  {w':World} {R' D':Addr→Prop} (hJ:Y.J r' R' D' w') (hfr:Fr R w w') (hR': ∀ad,R' ad→R ad∨w.heap.size≤ad.block) (hD': ∀ad,D' ad→D ad∨ ¬Ar (AJ ids ρ) Z ad∨w.heap.size≤ad.block) (hDD: ∀ad,D ad→D' ad) {K:St→Prop}
  (hK:K (st.backY dst ids Y.x r')):BX X K (a.put dst (.tuple #[])) w':=by
 have h1:=h.freeze ids;have hk:Keep w w' (Ar (AJ ids ρ) Z) (Ar (AJ ids ρ) fun ad=>Z ad∨R' ad):=fun ad x hno hv=>by
  refine⟨hfr.cell ad x (fun hr=>hno (.inl (hRZ ad hr))) hv,?_⟩
  rintro ((hz|hr)|ho)
  ·exact hno (.inl hz)
  ·rcases hR' ad hr with hr|hs
   ·exact hno (.inl (hRZ ad hr))
   ·have:=World.block_lt_of_cell? w ad hv;omega
  ·exact hno (.inr ho)
 have hkC: ∀(c:C) (v:Value),RepC (AJ ids ρ) w Z c v→RepC (AJ ids ρ) w' (fun ad=>Z ad∨R' ad) c v:=fun c v hc=>by
  cases c with
  |d x=>exact RepD.keep hk hc
  |nl=>exact hc
  |bad=>exact hc
  |sl i off n=>exact hc
  |ptr i off=>exact hc
  |mp q i=>exact hc
 have hkU: ∀(u:U) (v:Value),RepU (AJ ids ρ) w Z u v→RepU (AJ ids ρ) w' (fun ad=>Z ad∨R' ad) u v:=fun u v hu=>by
  cases u with
  |c x=>exact hkC x v hu
  |agg cs=>obtain⟨vs,hv,hl,hr⟩:=hu;exact⟨vs,hv,hl,(by grind)⟩
  |clo f cs=>obtain⟨vs,hv,hl,hr⟩:=hu;exact⟨vs,hv,hl,(by grind)⟩
 have hkV: ∀(u:V) (v:Value),RepV (AJ ids ρ) w Z u v→RepV (AJ ids ρ) w' (fun ad=>Z ad∨R' ad) u v:=fun u v hu=>by
  cases u with
  |u x=>exact hkU x v hu
  |tup xs=>obtain⟨vs,hv,hl,hr⟩:=hu;exact⟨vs,hv,hl,(by grind)⟩
  |tr x r=>trivial
 have same: ∀i o,AJ ids ρ i=some o→o.gone=false→ ∀j,j<o.room*o.sz→w'.cell? (o.at j)=w.cell? (o.at j)∧w'.frozen? (o.at j)=w.frozen? (o.at j):=fun i o hi hg j hj=>by
  obtain⟨⟨v,hv⟩,_⟩:=h1.heap.owns.cells i o hi hg j hj
  refine⟨?_,hfr.frz _ (fun hr=>IP h1 hi (Own.has_at hg hj) (hRZ _ hr)) (World.block_lt_of_cell? w _ hv)⟩
  rw[hv]
  exact hfr.cell _ v (fun hr=>IP h1 hi (Own.has_at hg hj) (hRZ _ hr)) hv
 have hobj: ∀i o,AJ ids ρ i=some o→o.mp→ ∀y:Obj,w.heap[o.g]? =some y→w'.heap[o.g]? =some y:=fun i o hi hm y hy=>G0 hfr (fun ad e hr=>IP h1 hi (ER hm e) (hRZ ad hr)) hy
 have hrel:Rel (Cells (AJ ids ρ)) (fun ad=>Z ad∨R' ad) w' (AJ ids ρ) (st.freeze ids) a w':=
  {fr:=⟨rfl,DR.refl _,rfl,rfl,AO _,fun _ _ _ h=>h,fun _ _ _=>rfl,fun _ _ _=>rfl⟩
   heap:=⟨⟨fun i o hi hg j hj=>by rw[(same i o hi hg j hj).1,(same i o hi hg j hj).2];exact h1.heap.owns.cells i o hi hg j hj,h1.heap.owns.apart,h1.heap.owns.lim⟩,fun i b hb=>by
    obtain⟨o,ho,hr⟩:=h1.heap.rep i b hb
    refine⟨o,ho,?_⟩
    have hsame:=same i o ho;cases b with
    |row sz cs app=>
     obtain⟨q1,q2,q3,q4,q5⟩:=hr
     refine⟨q1,q2,q3,q4,fun j x hx=> ?_⟩
     obtain⟨v,hv,hd⟩:=q5 j x hx
     have hj:j<cs.length:=(by grind)
     have hnil:o.nil=false:=by
      grind
     exact⟨v,by grind,hd.keep hk⟩
    |box cs=>
     obtain⟨q1,q2,q3,q4⟩:=hr
     refine⟨q1,q2,q3,fun j x hx=> ?_⟩
     grind
    |fbox f cs=>
     obtain⟨q1,q2,q3,v,hv,hd⟩:=hr
     exact⟨q1,q2,q3,v,by simp_all,(by grind)⟩
    |mp x=>
     obtain⟨q1,q2,y,hy,hx⟩:=hr
     exact⟨q1,q2,y,hobj i o ho q2 y hy,hx⟩
    |gh cs=>
     obtain⟨q1,q2,q3⟩:=hr
     exact⟨q1,q2,(by grind)⟩⟩
   mine:=fun i o ad hi ho=> .inl ⟨i,o,hi,ho⟩
   out:=(Hs h (Z1:=fun _=>False) (by simp) fun ad ho=>ho).keep hfr (fun ad hr=> .inl (hRZ ad hr)) (fun ad hz=>by
    rcases hz with hz|hr
    ·exact Nat.lt_of_lt_of_le (h.out ad hz) (Nat.le_trans h.fr.size hfr.size)
    ·exact(hok.sub _ _ _ _ hJ).2 ad ((hok.sub _ _ _ _ hJ).1 ad hr)) fun ad hz=>by
    rcases hz with (hz|hr)|⟨i,o,hi,ho⟩
    ·exact .inl (.inl hz)
    ·exact(hR' ad hr).imp (fun hr=> .inl (hRZ ad hr)) id
    ·exact .inl (CD (.inr ⟨i,o,hi,ho⟩))
   mz:=fun ad ⟨i,o,hi,ho⟩ hz=>by
    rcases hz with hz|hr
    ·exact IP h1 hi ho hz
    ·rcases hR' ad hr with hr|hs
     ·exact IP h1 hi ho (hRZ ad hr)
     ·have:=EG h1 hi ho;omega
   tmps:=fun t v hv=>hkV v _ (h1.tmps t v hv)
   defers:=h.defers
   mps:=h1.mps.to (by grind) }
 have hp:=hrel.put (dst:=dst) (v:= .tup []) (x:= .tuple #[]) (fun d h=>by rw[hn];exact(hd d h).1) ⟨[],rfl,rfl,(by simp)⟩
 refine⟨_,_,_,_,st.backY dst ids Y.x r',?_,⟨hp.fr,hp.heap,hp.mine,hp.out,hp.mz,fun t v hv=> ?_,hp.defers,hp.mps⟩,(CX _ _ _).trans hn,hK⟩
 ·refine⟨fun k hk=>(PQ hd k hk).trans (hL.pins k hk),(by grind),?_,fun ad h=> .inl (hL.z ad h),fun ad ⟨i,o,hi,ho⟩=> ?_,fun x r hh=> ?_⟩
  ·refine(hL.fr.into h.fr fun ad hm=> ?_).into hfr fun ad hr=> ?_
   ·rcases hL.m ad hm with h|h
    ·exact .inl (.inl h)
    ·exact .inr h
   grind
  ·rcases h1.mine i o ad hi ho with hm|hs
   ·exact hL.m ad hm
   ·exact .inr (Nat.le_trans hL.fr.size hs)
  ·simp only[St.backY,St.rest,Bt,Option.some.injEq,V.tr.injEq]at hh;obtain⟨rfl,rfl⟩:=hh;refine⟨Y,R',D',hX,rfl,hJ,fun ad h=> .inr h,fun ad hr=> ?_,fun ad hdd ⟨i,o,hi,ho⟩=> ?_,fun ad hdd=> ?_,(by grind)⟩
   ·rcases hR' ad hr with hr|hs
    ·exact hR0 ad hr
    ·exact .inr (Nat.le_trans (Nat.le_trans hL.fr.size h.fr.size) hs)
   ·rcases hD' ad hdd with hq|hq|hq
    ·have hlt:=(hok.sub _ _ _ _ hJ0).2 ad hq;rcases h1.mine i o ad hi ho with hm|hs
     ·exact hDM ad hq hm
     ·omega
    ·exact hq (.inr ⟨i,o,hi,ho⟩)
    ·have:=EG h1 hi ho;omega
   ·rcases hD' ad hdd with hq|hq|hq
    ·exact hD0 ad hq
    ·exact .inr (.inl fun hz=>hq (.inl (hL.z ad hz)))
    ·exact .inr (.inr (Nat.le_trans (Nat.le_trans hL.fr.size h.fr.size) hq))
 ·simp only[St.backY,St.rest]at hv;by_cases e:t=YS
  ·subst e;rw[Bt]at hv;cases hv;trivial
  ·rw[BD e,BR e]at hv;exact hp.tmps t v hv
end
end Go.Va
namespace Go.Va
open Go.RowKit
variable [Gv]
section
variable {P:Program} {T:AH} {X:Cx} {M Z:Addr→Prop} {w0 w:World} {ρ:AE} {st:St} {a:Act}
theorem RepC.keepZ{w':World}{Z':Addr→Prop}(hk:Keep w w' (Ar ρ Z) (Ar ρ Z')){c:C}{v:Value}(hc:RepC ρ w Z c v):RepC ρ w' Z' c v:=by
 cases c with
 |d x=>exact RepD.keep hk hc
 |nl=>exact hc
 |bad=>exact hc
 |sl i off n=>exact hc
 |ptr i off=>exact hc
 |mp q i=>exact hc
theorem RepU.keepZ{w':World}{Z':Addr→Prop}(hk:Keep w w' (Ar ρ Z) (Ar ρ Z')){u:U}{v:Value}(hu:RepU ρ w Z u v):RepU ρ w' Z' u v:=by
 cases u with
 |c x=>exact RepC.keepZ hk hu
 |agg cs=>obtain⟨vs,hv,hl,hr⟩:=hu;exact⟨vs,hv,hl,(by grind[RepC.keepZ])⟩
 |clo f cs=>obtain⟨vs,hv,hl,hr⟩:=hu;exact⟨vs,hv,hl,(by grind[RepC.keepZ])⟩
theorem Heap.keepZ{w':World}{Z':Addr→Prop}{h:List (Nat×Blk)}(hh:Heap ρ w Z h)(hk:Keep w w' (Ar ρ Z) (Ar ρ Z'))
  (hs: ∀i o,ρ i=some o→o.gone=false→ ∀j,j<o.room*o.sz→w'.cell? (o.at j)=w.cell? (o.at j)∧w'.frozen? (o.at j)=w.frozen? (o.at j))
  (hm: ∀i o,ρ i=some o→o.mp→ ∀y:Obj,w.heap[o.g]? =some y→w'.heap[o.g]? =some y):Heap ρ w' Z' h:=
 ⟨⟨fun i o hi hg j hj=>by rw[(hs i o hi hg j hj).1,(hs i o hi hg j hj).2];exact hh.owns.cells i o hi hg j hj,hh.owns.apart,hh.owns.lim⟩,fun i b hb=>by
  obtain⟨o,ho,hr⟩:=hh.rep i b hb
  refine⟨o,ho,?_⟩
  have hsame:=hs i o ho;cases b with
  |row sz cs app=>
   obtain⟨q1,q2,q3,q4,q5⟩:=hr
   refine⟨q1,q2,q3,q4,fun j x hx=> ?_⟩
   obtain⟨v,hv,hd⟩:=q5 j x hx
   have hj:j<cs.length:=(by grind)
   have hnil:o.nil=false:=by
    grind
   exact⟨v,by grind,hd.keep hk⟩
  |box cs=>
   obtain⟨q1,q2,q3,q4⟩:=hr
   refine⟨q1,q2,q3,fun j x hx=> ?_⟩
   obtain⟨v,hv,h1v,hd⟩:=q4 j x hx
   have hj:j<cs.length:=(by grind)
   exact⟨v,by grind,h1v,hd.keepZ hk⟩
  |fbox f cs=>
   obtain⟨q1,q2,q3,v,hv,hd⟩:=hr
   exact⟨q1,q2,q3,v,by simp_all,(by grind[RepU.keepZ])⟩
  |mp x=>
   obtain⟨q1,q2,y,hy,hx⟩:=hr
   exact⟨q1,q2,y,hm i o ho q2 y hy,hx⟩
  |gh cs=>
   obtain⟨q1,q2,q3⟩:=hr
   exact⟨q1,q2,fun j x hx v hv=>(q3 j x hx v hv).keepZ hk⟩⟩
theorem Heap.mps{h:List (Nat×Blk)}(hh:Heap ρ w Z h)(hd: ∀i o,ρ i=some o→(lk i h).isSome=true):Mps ρ w:=fun i o hi hm=>by
 obtain⟨b,hb⟩:=Option.isSome_iff_exists.1 (hd i o hi)
 obtain⟨o',ho',hr⟩:=hh.rep i b hb
 obtain rfl:o'=o:=(by grind)
 cases b with
 |mp x=>obtain⟨_,_,y,hy,hx⟩:=hr;grind[Ib]
 |_=>exact absurd hm (hr.nomp (by simp))
theorem Lw(hh:Owns ρ w)(hm:Mps ρ w){ad:Addr}(h:Cells ρ ad):ad.block<w.heap.size:=by
 obtain⟨i,o,hi,ho⟩:=h
 rcases Own.has_cases ho with⟨hn,hb,hlo,hhi⟩|⟨hp,hb⟩
 ·obtain⟨⟨v,hv⟩,_⟩:=hh.cells i o hi hn (ad.off - o.o) (by omega)
  have:=World.block_lt_of_cell? w _ hv
  grind
 ·obtain⟨y,hl,_⟩:=hm i o hi hp
  grind
theorem A.rep.keep{w':World}{Z':Addr→Prop}(hk:Keep w w' Z Z'){A0:A}{v:Value}(h:A.rep w Z A0 v):A.rep w' Z' A0 v:=by
 cases A0 with
 |c x=>exact RepD.keep hk h
 |agg cs=>obtain⟨vs,hv,hl,hr⟩:=h;exact⟨vs,hv,hl,(by grind[RepD.keep])⟩
theorem RepL.mono{α:Type}{r s:α→Value→Prop}{xs:List α}{vs:List Value}(h:RepL r xs vs)(hi: ∀x v,r x v→s x v):RepL s xs vs:=⟨h.1,fun j x v hx hv=>hi x v (h.2 j x v hx hv)⟩
def JX(P:Program)(Y:Yl)(f:FuncId)(cl:List D)(clv:List Value)(zs:List A→List (List A))(rest:List (List A))(Db:Addr→Prop):Yl where
 g:=f
 caps:=clv
 J:=fun rem R D w=>(∀y∈rem,Gy P Y.x f (y++cl.map .c) (zs y))∧(∀ad,D ad→ad.block<w.heap.size)∧(∃D0:Addr→Prop,(∀ad,Db ad→D0 ad)∧(∀ad,D0 ad→D ad)∧Y.J (rem.flatMap zs++rest) R D0 w)∧RepL (RepD w fun ad=>R ad∨ ¬D ad) cl clv
theorem Ua{Y:Yl}(hY:YlOk P Y)(f:FuncId)(cl:List D)(clv:List Value)(zs:List A→List (List A))(rest:List (List A))(Db:Addr→Prop):YlOk P (JX P Y f cl clv zs rest Db) where
 sub:=fun rem R D w ⟨_,h,⟨D0,_,h2,h3⟩,_⟩=>⟨fun ad hr=>h2 ad ((hY.sub _ R D0 w h3).1 ad hr),h⟩
 stable:=fun rem R D w w' M ⟨h1,hlt,⟨D0,hb,hD0,h2⟩,h3⟩ hM hfr=>⟨h1,fun ad h=>Nat.lt_of_lt_of_le (hlt ad h) hfr.size,⟨D0,hb,hD0,hY.stable _ R D0 w w' M h2 (by grind) hfr⟩,h3.mono fun x v hx=>hx.keep fun ad u hn hu=>
  ⟨hfr.cell ad u (by grind) hu,hn⟩⟩
 step:=fun y rem R D D2 w vals ⟨h1,hlt,⟨D0,hb,hD0,h2⟩,h3⟩ hD hD2 hy=>by
  obtain⟨hfn,hcall⟩:=h1 y (by simp)
  refine⟨hfn,?_⟩
  rw[List.flatMap_cons,List.append_assoc]at h2
  have hsub:=hY.sub _ R D0 w h2;have hargs:RepL (A.rep w fun ad=>(R ad∨ ¬D2 ad)∧ad.block<w.heap.size) (y++cl.map .c) (vals++clv):=by
   refine(hy.mono fun x v hx=>hx.keep (Keep.mono fun _ h=>h.1)).append ⟨by simpa using h3.1,fun j x v hx hv=> ?_⟩
   simp only[Bf,jze]at hx;obtain⟨d,hd,rfl⟩:=hx;exact RepD.keep (by grind[Keep.mono,id]) (h3.2 j d v hd hv)
  have:=hcall Y rfl hY w _ _ _ R D0 h2 (hD2.sub (fun ad h=>h.2) fun ad h=>h.1) (by grind) hargs
  refine this.mono fun e w' ⟨he,R',D',hJ,hfr,hR',hD',hDD⟩=>⟨he,R',fun ad=>D' ad∨D ad,⟨(by grind),fun ad h=> ?_,(by grind),h3.mono fun x v hx=>hx.keep fun ad u hn hu=> ?_⟩,hfr,hR',fun ad hd=> ?_,fun ad h=> .inr h⟩
  ·rcases h with h|h
   ·exact(hY.sub _ R' D' w' hJ).2 ad h
   ·exact Nat.lt_of_lt_of_le (hlt ad h) hfr.size
  ·have hnR: ¬R ad:=(by grind)
   have hDa:D ad:=(by grind)
   refine⟨hfr.cell ad u hnR hu,?_⟩
   grind
  grind
def Ht(f:FuncId)(cs:List C)(ys:List (List A))(H:List (List A)→List (Nat×Blk))(cv:List Value):Yl where
 g:=f
 caps:=cv
 J:=fun rem R D w=>rem<:+ys∧(∀ad,D ad→ad.block<w.heap.size)∧ ∃ρ,R=Cells ρ∧(∀ad,Cells ρ ad→D ad)∧Heap ρ w (fun ad=>ad.block<w.heap.size∧ ¬D ad) (H rem)∧
  RepL (RepC ρ w fun ad=>ad.block<w.heap.size∧ ¬D ad) cs cv∧ ∀i o,ρ i=some o→(lk i (H rem)).isSome=true
theorem N4{f:FuncId}{cs:List C}{ys:List (List A)}{H:List (List A)→List (Nat×Blk)}(cv:List Value)(hx: ∀y rest,(y::rest)<:+ys→Ld P f y cs (H (y::rest)) (H rest)):YlOk P (Ht f cs ys H cv) where
 sub:=fun rem R D w ⟨_,h2,ρ,h3,h4,_⟩=>(by simp_all)
 stable:=fun rem R D w w' M ⟨h1,h2,ρ,h3,h4,h5,h6,h7⟩ hM hfr=>by
  have hk:Keep w w' (Ar ρ fun ad=>ad.block<w.heap.size∧ ¬D ad) (Ar ρ fun ad=>ad.block<w'.heap.size∧ ¬D ad):=fun ad u hn hu=>by
   have hlt:=World.block_lt_of_cell? w ad hu;have hDa:D ad:=Classical.not_not.1 fun h=>hn (.inl ⟨hlt,h⟩)
   refine⟨hfr.cell ad u (by grind) hu,?_⟩
   rintro (h|h)
   ·exact h.2 hDa
   ·exact hn (.inr h)
  refine⟨h1,fun ad h=>Nat.lt_of_lt_of_le (h2 ad h) hfr.size,ρ,h3,h4,h5.keepZ hk (fun i o hi hg j hj=> ?_) (fun i o hi hm y hy=>G0 hfr (fun ad e hM'=>hM ad hM' (h4 ad ⟨i,o,hi,ER hm e⟩)) hy),h6.mono fun c v hc=>hc.keepZ hk,h7⟩
  obtain⟨⟨v,hv⟩,_⟩:=h5.owns.cells i o hi hg j hj
  refine⟨?_,hfr.frz _ (fun hm=>hM _ hm (h4 _ ⟨i,o,hi,Own.has_at hg hj⟩)) (World.block_lt_of_cell? w _ hv)⟩
  rw[hv]
  exact hfr.cell _ v (fun hm=>hM _ hm (h4 _ ⟨i,o,hi,Own.has_at hg hj⟩)) hv
 step:=fun y rem R D D2 w vals ⟨h1,h2,ρ,h3,h4,h5,h6,h7⟩ hD hD2 hy=>by
  obtain⟨hfn,hcall⟩:=hx y rem h1
  refine⟨hfn,?_⟩
  have hkz:Keep w w (Ar ρ fun ad=>ad.block<w.heap.size∧ ¬D ad) (Ar ρ fun ad=>ad.block<w.heap.size∧ ¬D2 ad):=Keep.mono fun ad h=>h.imp (by grind) id
  have:=hcall w (fun ad=>ad.block<w.heap.size∧ ¬D2 ad) ρ vals cv (hD2.sub (fun ad h=>h.1) fun ad h=>h.elim (fun h=> .inr h.2) fun h=> .inl (h3 ▸ h)) (h5.keepZ hkz (by simp) (by simp)) (by grind) h7
   (hy.mono fun x v hx=>hx.keep (Keep.mono fun ad h=>by
    rcases h with h|h
    ·exact .inr h.2
    ·exact .inl (h3 ▸ h))) (h6.mono fun c v hc=>hc.keepZ hkz)
  refine this.mono fun e w' ⟨he,ρ',hfr,hh,hl,hc,hcs⟩=> ?_
  have hout: ∀ad,(ad.block<w'.heap.size∧ ¬(D2 ad∨(w.heap.size≤ad.block∧ad.block<w'.heap.size)))→ad.block<w.heap.size∧ ¬D2 ad:=(by grind)
  have hkz':Keep w' w' (Ar ρ' fun ad=>ad.block<w.heap.size∧ ¬D2 ad) (Ar ρ' fun ad=>ad.block<w'.heap.size∧ ¬(D2 ad∨(w.heap.size≤ad.block∧ad.block<w'.heap.size))):=Keep.mono fun ad h=>h.imp (hout ad) id
  have hltc: ∀ad,Cells ρ' ad→ad.block<w'.heap.size:=fun ad h=>Lw hh.owns (hh.mps hl) h
  refine⟨he,Cells ρ',fun ad=>D2 ad∨(w.heap.size≤ad.block∧ad.block<w'.heap.size),⟨List.IsSuffix.trans (by simp) h1,fun ad h=> ?_,ρ',rfl,fun ad h=> ?_,hh.keepZ hkz' (by simp) (by simp),hcs.mono fun c v hc=>hc.keepZ hkz',hl⟩,h3 ▸ hfr,fun ad h=> ?_,(by grind),(by grind)⟩
  ·rcases h with h|h
   ·exact Nat.lt_of_lt_of_le (hD2 ad h) hfr.size
   ·exact h.2
  ·grind
  simp_all
theorem Rel.purgesF: ∀(l:List Nat) {ρ:AE} {st:St},Rel M Z w0 ρ st a w→Rel M Z w0 (AJ l ρ) (purges l st) a w
 |[],ρ,st,h=>by
  have:AJ [] ρ=ρ:=by rfl
  rw[this];exact h
 |i::l,ρ,st,h=>by
  have:=Rel.purgesF l (h.purge i)
  have e:AJ (i::l) ρ=AJ l (upd ρ i none):=by
   funext j
   by_cases hj:j=i
   ·simp_all[AJ,ersd,upd]
   ·simp[AJ,ersd,upd,hj]
  rw[e]
  exact this
theorem ME{ids:List Nat}{j:Nat}{o:Own}(h:AJ ids ρ j=some o):j∉ids∧ρ j=some o:=by
 obtain⟨h1,h2⟩:=Eu h
 grind
theorem Fi{ids:List Nat}{j:Nat}(h:j∉ids):AJ ids ρ j=ρ j:=by simp[AJ,ersd,h]
section
variable {f:FuncId} {cs:List C} {cv:List Value} {ys:List (List A)} {H:List (List A)→List (Nat×Blk)} {fz ids nw:List Nat}
def Gm(ids nw fz:List Nat)(ρ:AE):Addr→Prop:=Cells (Bj ids (AJ nw (AJ fz ρ)))
def ET(ids nw fz:List Nat)(ρ:AE)(Z:Addr→Prop)(w:World):Addr→Prop:=fun ad=>ad.block<w.heap.size∧ ¬Ar (AJ ids (AJ nw (AJ fz ρ))) Z ad
theorem SJ(h:Rel M Z w0 ρ st a w)(hc:HbOk st cs (H ys) (H []) fz ids nw)(hcs:RepL (RepC ρ w Z) cs cv):(Ht f cs ys H cv).J ys (Gm ids nw fz ρ) (ET ids nw fz ρ Z w) w:=by
 have h2:=Rel.purgesF nw (h.freeze fz);have hid: ∀i∈ids,AJ nw (AJ fz ρ) i=ρ i:=fun i hi=>(Fi fun e=>hc.free i e hi).trans (Fi (hc.frz i hi))
 have hsub: ∀ad,Ar (AJ nw (AJ fz ρ)) Z ad→Ar ρ Z ad:=fun ad h=>CD (CD h)
 have hcs2:RepL (RepC (AJ nw (AJ fz ρ)) w Z) cs cv:=⟨hcs.1,fun j c v hx hv=>(hcs.2 j c v hx hv).keep (Keep.mono hsub) fun i hi=>hid i (hc.caps c (by grind) i hi)⟩
 have hkz:Keep w w (Ar (Bj ids (AJ nw (AJ fz ρ))) (Ar (AJ ids (AJ nw (AJ fz ρ))) Z)) (Ar (Bj ids (AJ nw (AJ fz ρ))) fun ad=>ad.block<w.heap.size∧ ¬ET ids nw fz ρ Z w ad):=Keep.mono fun ad hh=>by
  rcases hh with⟨hl,hn⟩|hh
  ·exact .inl (Classical.not_not.1 fun hno=>hn ⟨hl,hno⟩)
  ·exact .inr hh
 refine⟨List.suffix_refl _,fun ad hd=>hd.1,_,rfl,fun ad ⟨i,o,hi,ho⟩=>⟨EG h2 (A9 hi).2 ho,?_⟩,Heap.keepZ ⟨⟨fun j oj hj=>h2.heap.owns.cells j oj (A9 hj).2,fun j j' o1 o2 hj hj'=>h2.heap.owns.apart j j' o1 o2 (A9 hj).2 (A9 hj').2,fun j oj hj=>h2.heap.owns.lim j oj (A9 hj).2⟩,fun i b hb=> ?_⟩ hkz (by simp) (by simp),
  ⟨hcs2.1,fun j c v hx hv=>RepC.keepZ hkz (E7 (hc.caps c (by grind)) (hcs2.2 j c v hx hv))⟩,fun i o hi=>hc.here i (A9 hi).1⟩
 ·obtain⟨e1,e2⟩:=A9 hi
  exact h2.thawed (ok:=(ids.contains ·)) e2 (by simpa using e1) ho
 ·obtain⟨e1,e2,e3⟩:=hc.old i b hb
  obtain⟨oj,hoj,hr⟩:=h2.heap.rep i b e2
  grind[D5,Jb]
theorem Ul(h:Rel M Z w0 ρ st a w)(hc:HbOk st cs (H ys) (H []) fz ids nw){dst:Option Nat}(hd: ∀d,dst=some d→d<a.tmps.size)(hcs:RepL (RepC ρ w Z) cs cv){w':World}{R' D':Addr→Prop}(hJ:(Ht f cs ys H cv).J [] R' D' w')
  (hfr:Fr (Gm ids nw fz ρ) w w') (hR': ∀ad,R' ad→Gm ids nw fz ρ ad∨w.heap.size≤ad.block) (hD': ∀ad,D' ad→ET ids nw fz ρ Z w ad∨ ¬Ar (AJ fz ρ) Z ad∨w.heap.size≤ad.block):
  ∃ρ',Rel M Z w0 ρ' (st.backX dst ids nw fz cs (H [])) (a.put dst (.tuple #[])) w':=by
 have h2:=Rel.purgesF nw (h.freeze fz);generalize hρ:AJ nw (AJ fz ρ)=ρ2 at h2;have hid: ∀i∈ids,ρ2 i=ρ i:=fun i hi=>by rw[←hρ];exact(Fi fun e=>hc.free i e hi).trans (Fi (hc.frz i hi))
 have hnw: ∀i∈nw,ρ2 i=none:=fun i hi=>by rw[←hρ];simp[AJ,ersd,hi]
 have hsub1: ∀ad,Ar ρ2 Z ad→Ar (AJ fz ρ) Z ad:=fun ad h=>by rw[←hρ]at h;exact CD h
 simp only[Gm,ET,hρ]at hfr hR' hD';obtain⟨_,hDlt,ρc,rfl,hcD,hheap,hcs',hlk⟩:=hJ;have hcid: ∀i o,ρc i=some o→i∈ids∨i∈nw:=fun i o hi=>by
  cases hb:lk i (H [])with
  |none=>grind
  |some b=>exact hc.new i b hb
 let ρ3:AE:=fun i=>if i∈ids∨i∈nw then ρc i else ρ2 i
 have e3c: ∀i o,ρc i=some o→ρ3 i=some o:=(by grind)
 have e3n: ∀i,i∉ids→i∉nw→ρ3 i=ρ2 i:=(by grind)
 have e3: ∀i o,ρ3 i=some o→ρc i=some o∨(i∉ids∧i∉nw∧ρ2 i=some o):=(by grind)
 have hRown: ∀ad,Cells (Bj ids ρ2) ad→ ∃i o,i∈ids∧ρ2 i=some o∧o.has ad:=fun ad ⟨i,o,hi,ho⟩=>⟨i,o,(A9 hi).1,(A9 hi).2,ho⟩
 have hk:Keep w w' (Ar ρ2 Z) (Ar ρ3 Z):=fun ad u hn hu=>by
  refine⟨hfr.cell ad u (fun hr=> ?_) hu,?_⟩
  ·obtain⟨i,o,_,hi,ho⟩:=hRown ad hr;exact hn (.inr ⟨i,o,hi,ho⟩)
  rintro (hz|⟨i,o,hi,ho⟩)
  ·exact hn (.inl hz)
  ·rcases e3 i o hi with hi|⟨_,_,hi⟩
   ·rcases hR' ad ⟨i,o,hi,ho⟩with hr|hs
    ·obtain⟨j,oj,_,hj,hoj⟩:=hRown ad hr;exact hn (.inr (by grind))
    grind[World.block_lt_of_cell?]
   ·exact hn (.inr ⟨i,o,hi,ho⟩)
 have hcs2:RepL (RepC ρ2 w Z) cs cv:=⟨hcs.1,fun j c v hx hv=>(hcs.2 j c v hx hv).keep (Keep.mono fun ad h=>CD (hsub1 ad h)) fun i hi=>hid i (hc.caps c (by grind) i hi)⟩
 have hturn:Cf ρ2 ρ3 w w' Z (FA ids cs):=fun c v hr=>by
  cases c with
  |d x=>exact RepD.keep hk hr
  |nl=>exact hr
  |bad=>exact hr
  |sl i off n=>
   simp only[C.on,FA];split
   ·exact RepC.one hr
   ·rename_i hi
    have hi:i∉ids:=by simpa using hi
    exact RepC.keep hk (fun k hk'=>by
     cases hk'
     obtain⟨o,ho,_⟩:=hr
     grind) hr
  |mp q i=>
   simp only[C.on,FA];split
   ·exact RepC.one hr
   ·rename_i hi
    have hi:i∉ids:=by simpa using hi
    exact RepC.keep hk (fun k hk'=>by
     cases hk'
     obtain⟨o,ho,_⟩:=hr
     grind) hr
  |ptr i off=>
   simp only[C.on,FA];split
   ·rename_i hi
    have hi:i∈ids:=by simpa using hi
    split
    ·rename_i hany
     rw[List.any_eq_true]at hany
     obtain⟨e,he,hp⟩:=hany
     cases e with
     |ptr j off'=>
      have:j=i:=by simpa using hp
      subst this;obtain⟨k,hk1,hk2⟩:=List.getElem_of_mem he;have hkv:k<cv.length:=by rw[←hcs.1];exact hk1
      obtain⟨o,ho,hn,hv⟩:=hcs2.2 k _ cv[k] (by rw[AD hk1,hk2]) (by simp)
      obtain⟨o',ho',hn',hv'⟩:=hcs'.2 k _ cv[k] (by rw[AD hk1,hk2]) (by simp)
      obtain⟨o2,ho2,hn2,hv2⟩:=hr
      obtain rfl:o2=o:=(by grind)
      rw[hv]at hv'
      simp only[Value.pointer.injEq,Option.some.injEq,Own.at,Addr.mk.injEq]at hv';refine⟨o',e3c _ _ ho',hn',?_⟩
      grind
     |_=>simp at hp
    ·exact RepC.one hr
   ·rename_i hi
    have hi:i∉ids:=by simpa using hi
    exact RepC.keep hk (fun k hk'=>by
     cases hk'
     obtain⟨o,ho,_⟩:=hr
     grind) hr
 have same: ∀i o,i∉ids→ρ2 i=some o→o.gone=false→ ∀j,j<o.room*o.sz→w'.cell? (o.at j)=w.cell? (o.at j)∧w'.frozen? (o.at j)=w.frozen? (o.at j):=fun i o hni hi hg j hj=>by
  obtain⟨⟨v,hv⟩,_⟩:=h2.heap.owns.cells i o hi hg j hj
  suffices hnm: ∀hr,False from⟨by rw[hv];exact hfr.cell _ v hnm hv,hfr.frz _ hnm (World.block_lt_of_cell? w _ hv)⟩
  intro hr;obtain⟨i',o',hi',ho',hh⟩:=hRown _ hr;exact h2.heap.owns.apart i i' o o' hi ho' (by grind) _ (Own.has_at hg hj) hh
 have hobj: ∀i o,i∉ids→ρ2 i=some o→o.mp→ ∀y:Obj,w.heap[o.g]? =some y→w'.heap[o.g]? =some y:=fun i o hni hi hm y hy=>G0 hfr (fun ad e hr=>by
  obtain⟨i',o',hi',ho',hh⟩:=hRown _ hr
  exact h2.heap.owns.apart i i' o o' hi ho' (by grind) _ (ER hm e) hh) hy
 have hoff: ∀ad,Ar ρ3 Z ad→Ar ρc (fun ad=>ad.block<w'.heap.size∧ ¬D' ad) ad:=fun ad ho=>by
  rcases ho with hz|⟨i,o,hi,ho⟩
  ·have hlt:ad.block<w.heap.size:=Nat.lt_of_lt_of_le (h.out ad hz) h.fr.size;refine .inl ⟨Nat.lt_of_lt_of_le hlt hfr.size,fun hd=> ?_⟩
   rcases hD' ad hd with h1|h1|h1
   ·exact h1.2 (.inl hz)
   ·exact h1 (.inl hz)
   ·omega
  ·rcases e3 i o hi with hi|⟨hn1,hn2,hi⟩
   ·exact .inr ⟨i,o,hi,ho⟩
   ·have hlt:=EG h2 hi ho;refine .inl ⟨Nat.lt_of_lt_of_le hlt hfr.size,fun hd=> ?_⟩
    rcases hD' ad hd with h1|h1|h1
    ·exact h1.2 (.inr ⟨i,o,(Fi hn1).trans hi,ho⟩)
    ·exact h1 (hsub1 ad (.inr ⟨i,o,hi,ho⟩))
    ·omega
 have hcC: ∀(c:C) (v:Value),RepC ρc w' (fun ad=>ad.block<w'.heap.size∧ ¬D' ad) c v→RepC ρ3 w' Z c v:=fun c v hr=>by
  cases c with
  |d x=>exact RepD.keep (Keep.mono hoff) hr
  |nl=>exact hr
  |bad=>exact hr
  |sl i off n=>obtain⟨o,ho,r⟩:=hr;exact⟨o,e3c i o ho,r⟩
  |ptr i off=>obtain⟨o,ho,r⟩:=hr;exact⟨o,e3c i o ho,r⟩
  |mp q i=>obtain⟨o,ho,r⟩:=hr;exact⟨o,e3c i o ho,r⟩
 have hrel:Rel M Z w0 ρ3 { (purges nw (st.freeze fz)).on (FA ids cs)with h:=H []++Ds (ids.contains ·) ((purges nw (st.freeze fz)).on (FA ids cs)).h } a w':=
  {fr:=h.fr.into hfr fun ad hr=>by
    obtain⟨i,o,_,hi,ho⟩:=hRown ad hr
    exact h2.mine i o ad hi ho
   heap:=⟨⟨fun i o hi hg j hj=>by
     rcases e3 i o hi with hi|⟨hn1,hn2,hi⟩
     ·exact hheap.owns.cells i o hi hg j hj
     ·rw[(same i o hn1 hi hg j hj).1,(same i o hn1 hi hg j hj).2];exact h2.heap.owns.cells i o hi hg j hj,
    fun i i' o o' hi hi' hne ad ho ho'=>by
     have mixed: ∀{i i' o o'},ρc i=some o→i'∉ids→ρ2 i'=some o'→o.has ad→o'.has ad→False:=fun {i i' o o'} hi hn hi' ho ho'=>by
      rcases hR' ad ⟨i,o,hi,ho⟩with hr|hs
      ·obtain⟨j,oj,hj,hj2,hoj⟩:=hRown ad hr
       exact h2.heap.owns.apart j i' oj o' hj2 hi' (by grind) ad hoj ho'
      ·have:=EG h2 hi' ho';omega
     rcases e3 i o hi with hi|⟨hn1,hn2,hi⟩<;>rcases e3 i' o' hi' with hi'|⟨hn1',hn2',hi'⟩
     ·exact hheap.owns.apart i i' o o' hi hi' hne ad ho ho'
     ·grind
     ·grind
     ·exact h2.heap.owns.apart i i' o o' hi hi' hne ad ho ho',
    fun i o hi=>by
     rcases e3 i o hi with hi|⟨hn1,hn2,hi⟩
     ·exact hheap.owns.lim i o hi
     ·exact h2.heap.owns.lim i o hi⟩,fun i b hb=>by
    simp only at hb;rw[HQ]at hb;cases hl:lk i (H [])with
    |some b2=>
     rw[hl]at hb
     have hb:b2=b:=Bi hb
     subst hb;obtain⟨o,ho,hr⟩:=hheap.rep i _ hl;refine⟨o,e3c i o ho,?_⟩;cases b2 with
     |row sz cs app=>obtain⟨q1,q2,q3,q4,q5⟩:=hr;exact⟨q1,q2,q3,q4,fun j x hx=>by obtain⟨v,hv,hd⟩:=q5 j x hx;exact⟨v,hv,hd.keep (Keep.mono hoff)⟩⟩
     |box cs=>obtain⟨q1,q2,q3,q4⟩:=hr;exact⟨q1,q2,q3,(by grind)⟩
     |fbox f cs=>obtain⟨q1,q2,q3,v,hv,vs,hvs,hl,hd⟩:=hr;exact⟨q1,q2,q3,v,hv,vs,hvs,hl,(by grind)⟩
     |mp x=>exact hr
     |gh cs=>obtain⟨q1,q2,q3⟩:=hr;exact⟨q1,q2,(by grind)⟩
    |none=>
     rw[hl]at hb
     simp only[Option.none_or]at hb;rw[FZ]at hb;split at hb
     ·cases hb
     ·rename_i e
      have e:i∉ids:=by simpa using e
      simp only[St.on]at hb;rw[BN,jze]at hb;obtain⟨b0,hb0,rfl⟩:=hb;obtain⟨o,ho,hr⟩:=h2.heap.rep i b0 hb0;have hn2:i∉nw:=(by grind)
      exact⟨o,(by grind),hr.turn hturn hk (by grind) (by grind)⟩⟩
   mine:=fun i o ad hi ho=>by
    rcases e3 i o hi with hi|⟨hn1,hn2,hi⟩
    ·rcases hR' ad ⟨i,o,hi,ho⟩with hr|hs
     ·obtain⟨j,oj,_,hj2,hoj⟩:=hRown ad hr;exact h2.mine j oj ad hj2 hoj
     ·exact .inr (Nat.le_trans h.fr.size hs)
    ·exact h2.mine i o ad hi ho
   out:=h.out
   mz:=h.mz
   tmps:=fun t v hv=>by
    simp only[St.on]at hv;rw[BN,jze]at hv;obtain⟨v0,hv0,rfl⟩:=hv;exact(h2.tmps t v0 hv0).turn hturn
   defers:=h.defers
   mps:=fun i o hi hm=>by
    rcases e3 i o hi with hi|⟨hn1,hn2,hi⟩
    ·exact hheap.mps hlk i o hi hm
    ·obtain⟨y,hy,hn⟩:=h2.mps i o hi hm
     grind }
 exact⟨ρ3,hrel.put (v:= .tup []) hd ⟨[],rfl,rfl,(by simp)⟩⟩
end
theorem jcc{x c:C}(h:C.same x c=true):x=c:=by
 cases x<;>cases c<;>simp only[C.same,AR,Nat.beq_eq,beq_iff_eq,Bool.false_eq_true]at h
 ·grind
 ·grind
 grind
theorem Ra(c:C): ∀gs gs':List C,GM c gs gs'= .bad∨ ∃j:Nat,gs[j]? =some c∧gs'[j]? =some (GM c gs gs')
 |[],_=> .inl rfl
 |_::_,[]=> .inl rfl
 |x::r,y::s=>by
  unfold GM;split
  ·rename_i h
   exact .inr ⟨0,by simp[jcc h],by simp⟩
  ·rcases Ra c r s with h|⟨j,h1,h2⟩
   ·exact .inl h
   ·exact .inr ⟨j+1,by simpa using h1,by simpa using h2⟩
theorem Vw(h:Rel M Z w0 ρ st a w){gs gs':List C}{h1 h2:List (Nat×Blk)}{ids nw:List Nat}(hc:HOk st h1 h2 ids nw){dst:Option Nat}(hd: ∀d,dst=some d→d<a.tmps.size)
  {w':World} {ρc:AE} {x:Value} {v:V} (hfr:Fr (Cells (Bj ids ρ)) w w') (hheap:Heap ρc w' (Ar (AJ ids ρ) Z) h2) (hlk: ∀i o,ρc i=some o→(lk i h2).isSome=true) (hR': ∀ad,Cells ρc ad→Cells (Bj ids ρ) ad∨w.heap.size≤ad.block)
  (hgs: ∀(j:Nat) (c c':C),gs[j]? =some c→gs'[j]? =some c'→ ∀y,RepC (Bj ids ρ) w (Ar (AJ ids ρ) Z) c y→RepC ρc w' (Ar (AJ ids ρ) Z) c' y) (hv:RepV ρc w' (Ar (AJ ids ρ) Z) v x) (hnt: ∀x r,v≠ .tr x r):
  ∃ρ',Rel M Z w0 ρ' (st.backH dst ids nw gs gs' h2 v) (a.put dst x) w':=by
 have hcid: ∀i o,ρc i=some o→i∈ids∨i∈nw:=fun i o hi=>by
  cases hb:lk i h2 with
  |none=>grind
  |some b=>exact hc.new i b hb
 let ρ3:AE:=fun i=>if i∈ids∨i∈nw then ρc i else ρ i
 have e3c: ∀i o,ρc i=some o→ρ3 i=some o:=(by grind)
 have e3n: ∀i,i∉ids→i∉nw→ρ3 i=ρ i:=(by grind)
 have e3: ∀i o,ρ3 i=some o→ρc i=some o∨(i∉ids∧i∉nw∧ρ i=some o):=(by grind)
 have hRown: ∀ad,Cells (Bj ids ρ) ad→ ∃i o,i∈ids∧ρ i=some o∧o.has ad:=fun ad ⟨i,o,hi,ho⟩=>⟨i,o,(A9 hi).1,(A9 hi).2,ho⟩
 have hk:Keep w w' (Ar ρ Z) (Ar ρ3 Z):=fun ad u hn hu=>by
  refine⟨hfr.cell ad u (fun hr=> ?_) hu,?_⟩
  ·obtain⟨i,o,_,hi,ho⟩:=hRown ad hr;exact hn (.inr ⟨i,o,hi,ho⟩)
  rintro (hz|⟨i,o,hi,ho⟩)
  ·exact hn (.inl hz)
  ·rcases e3 i o hi with hi|⟨_,_,hi⟩
   ·rcases hR' ad ⟨i,o,hi,ho⟩with hr|hs
    ·obtain⟨j,oj,_,hj,hoj⟩:=hRown ad hr;exact hn (.inr (by grind))
    ·have:=World.block_lt_of_cell? w ad hu;omega
   ·exact hn (.inr ⟨i,o,hi,ho⟩)
 have same: ∀i o,i∉ids→ρ i=some o→o.gone=false→ ∀j,j<o.room*o.sz→w'.cell? (o.at j)=w.cell? (o.at j)∧w'.frozen? (o.at j)=w.frozen? (o.at j):=fun i o hni hi hg j hj=>by
  obtain⟨⟨v,hv⟩,_⟩:=h.heap.owns.cells i o hi hg j hj
  suffices hnm: ∀hr,False from⟨by rw[hv];exact hfr.cell _ v hnm hv,hfr.frz _ hnm (World.block_lt_of_cell? w _ hv)⟩
  intro hr;obtain⟨i',o',hi',ho',hh⟩:=hRown _ hr;exact h.heap.owns.apart i i' o o' hi ho' (by grind) _ (Own.has_at hg hj) hh
 have hobj: ∀i o,i∉ids→ρ i=some o→o.mp→ ∀y:Obj,w.heap[o.g]? =some y→w'.heap[o.g]? =some y:=fun i o hni hi hm y hy=>G0 hfr (fun ad e hr=>by
  obtain⟨i',o',hi',ho',hh⟩:=hRown _ hr
  exact h.heap.owns.apart i i' o o' hi ho' (by grind) _ (ER hm e) hh) hy
 have hoff: ∀ad,Ar ρ3 Z ad→Ar ρc (Ar (AJ ids ρ) Z) ad:=fun ad ho=>by
  rcases ho with hz|⟨i,o,hi,ho⟩
  ·exact .inl (.inl hz)
  ·rcases e3 i o hi with hi|⟨hn1,hn2,hi⟩
   ·exact .inr ⟨i,o,hi,ho⟩
   ·exact .inl (.inr ⟨i,o,(Fi hn1).trans hi,ho⟩)
 have hcC: ∀(c:C) (v:Value),RepC ρc w' (Ar (AJ ids ρ) Z) c v→RepC ρ3 w' Z c v:=fun c v hr=>by
  cases c with
  |d x=>exact RepD.keep (Keep.mono hoff) hr
  |nl=>exact hr
  |bad=>exact hr
  |sl i off n=>obtain⟨o,ho,r⟩:=hr;exact⟨o,e3c i o ho,r⟩
  |ptr i off=>obtain⟨o,ho,r⟩:=hr;exact⟨o,e3c i o ho,r⟩
  |mp q i=>obtain⟨o,ho,r⟩:=hr;exact⟨o,e3c i o ho,r⟩
 have hold: ∀(i:Nat) (c:C) (v:Value),c.id? =some i→RepC ρ w Z c v→ids.contains i=true→RepC ρ3 w' Z (GM c gs gs') v:=fun i c v hid hr hm=>by
  rcases Ra c gs gs' with e|⟨j,h1,h2⟩
  ·rw[e];exact hr.one
  ·exact hcC _ _ (hgs j _ _ h1 h2 v (by grind[E7]))
 have hturn:Cf ρ ρ3 w w' Z (Fs ids nw gs gs'):=fun c v hr=>by
  have old: ∀i,i∉ids→i∉nw→c.id? =some i→RepC ρ3 w' Z c v:=(by grind[RepC.keep])
  cases c with
  |d x=>exact RepD.keep hk hr
  |nl=>exact hr
  |bad=>exact hr
  |sl i off n=>
   simp only[C.on,Fs];split
   ·rename_i hm;exact hold i _ v rfl hr hm
   ·split
    ·exact RepC.one hr
    ·rename_i q1 q2;exact old i (by simpa using q1) (by simpa using q2) rfl
  |mp q i=>
   simp only[C.on,Fs];split
   ·rename_i hm;exact hold i _ v rfl hr hm
   ·split
    ·exact RepC.one hr
    ·rename_i q1 q2;exact old i (by simpa using q1) (by simpa using q2) rfl
  |ptr i off=>
   simp only[C.on,Fs];split
   ·rename_i hm;exact hold i _ v rfl hr hm
   ·split
    ·exact RepC.one hr
    ·rename_i q1 q2;exact old i (by simpa using q1) (by simpa using q2) rfl
 have hcU: ∀(u:U) (v:Value),RepU ρc w' (Ar (AJ ids ρ) Z) u v→RepU ρ3 w' Z u v:=fun u v hu=>by
  cases u with
  |c x=>exact hcC x v hu
  |agg cs=>obtain⟨vs,hv,hl,hr⟩:=hu;exact⟨vs,hv,hl,(by grind)⟩
  |clo f cs=>obtain⟨vs,hv,hl,hr⟩:=hu;exact⟨vs,hv,hl,(by grind)⟩
 have hrel:Rel M Z w0 ρ3 { st.on (Fs ids nw gs gs')with h:=h2++Ds (fun i=>ids.contains i||nw.contains i) (st.on (Fs ids nw gs gs')).h } a w':=
  {fr:=h.fr.into hfr fun ad hr=>by
    obtain⟨i,o,_,hi,ho⟩:=hRown ad hr
    exact h.mine i o ad hi ho
   heap:=⟨⟨fun i o hi hg j hj=>by
     rcases e3 i o hi with hi|⟨hn1,hn2,hi⟩
     ·exact hheap.owns.cells i o hi hg j hj
     ·rw[(same i o hn1 hi hg j hj).1,(same i o hn1 hi hg j hj).2];exact h.heap.owns.cells i o hi hg j hj,
    fun i i' o o' hi hi' hne ad ho ho'=>by
     have mixed: ∀{i i' o o'},ρc i=some o→i'∉ids→ρ i'=some o'→o.has ad→o'.has ad→False:=fun {i i' o o'} hi hn hi' ho ho'=>by
      rcases hR' ad ⟨i,o,hi,ho⟩with hr|hs
      ·obtain⟨j,oj,hj,hj2,hoj⟩:=hRown ad hr
       exact h.heap.owns.apart j i' oj o' hj2 hi' (by grind) ad hoj ho'
      ·have:=EG h hi' ho';omega
     rcases e3 i o hi with hi|⟨hn1,hn2,hi⟩<;>rcases e3 i' o' hi' with hi'|⟨hn1',hn2',hi'⟩
     ·exact hheap.owns.apart i i' o o' hi hi' hne ad ho ho'
     ·grind
     ·grind
     ·exact h.heap.owns.apart i i' o o' hi hi' hne ad ho ho',
    fun i o hi=>by
     rcases e3 i o hi with hi|⟨hn1,hn2,hi⟩
     ·exact hheap.owns.lim i o hi
     ·exact h.heap.owns.lim i o hi⟩,fun i b hb=>by
    simp only at hb;rw[HQ]at hb;cases hl:lk i h2 with
    |some b2=>
     rw[hl]at hb
     have hb:b2=b:=Bi hb
     subst hb;obtain⟨o,ho,hr⟩:=hheap.rep i _ hl;refine⟨o,e3c i o ho,?_⟩;cases b2 with
     |row sz cs app=>obtain⟨q1,q2,q3,q4,q5⟩:=hr;exact⟨q1,q2,q3,q4,fun j x hx=>by obtain⟨v,hv,hd⟩:=q5 j x hx;exact⟨v,hv,hd.keep (Keep.mono hoff)⟩⟩
     |box cs=>obtain⟨q1,q2,q3,q4⟩:=hr;exact⟨q1,q2,q3,(by grind)⟩
     |fbox f cs=>obtain⟨q1,q2,q3,v,hv,hd⟩:=hr;exact⟨q1,q2,q3,v,hv,(by grind)⟩
     |mp x=>exact hr
     |gh cs=>obtain⟨q1,q2,q3⟩:=hr;exact⟨q1,q2,(by grind)⟩
    |none=>
     rw[hl]at hb
     simp only[Option.none_or]at hb;rw[FZ]at hb;split at hb
     ·cases hb
     ·rename_i e
      have e1:i∉ids:=(by grind)
      have e2:i∉nw:=(by grind)
      simp only[St.on]at hb;rw[BN,jze]at hb;obtain⟨b0,hb0,rfl⟩:=hb;obtain⟨o,ho,hr⟩:=h.heap.rep i b0 hb0;exact⟨o,(by grind),hr.turn hturn hk (by grind) (by grind)⟩⟩
   mine:=fun i o ad hi ho=>by
    rcases e3 i o hi with hi|⟨hn1,hn2,hi⟩
    ·rcases hR' ad ⟨i,o,hi,ho⟩with hr|hs
     ·obtain⟨j,oj,_,hj2,hoj⟩:=hRown ad hr;exact h.mine j oj ad hj2 hoj
     ·exact .inr (Nat.le_trans h.fr.size hs)
    ·exact h.mine i o ad hi ho
   out:=h.out
   mz:=h.mz
   tmps:=fun t v hv=>by
    simp only[St.on]at hv;rw[BN,jze]at hv;obtain⟨v0,hv0,rfl⟩:=hv;exact(h.tmps t v0 hv0).turn hturn
   defers:=h.defers
   mps:=fun i o hi hm=>by
    rcases e3 i o hi with hi|⟨hn1,hn2,hi⟩
    ·exact hheap.mps hlk i o hi hm
    ·obtain⟨y,hy,hn⟩:=h.mps i o hi hm
     grind }
 refine⟨ρ3,hrel.put hd ?_⟩
 cases v with
 |u u=>exact hcU u x hv
 |tup us=>obtain⟨vs,e,hl,hr⟩:=hv;exact⟨vs,e,hl,(by grind)⟩
 |tr y r=>grind
theorem jeJ(h:Rel M Z w0 ρ st a w){k d sz m:Nat}{cs':List D}{w':World}{ρ':AE}{v:Value}(hkn:(ρ k).isSome=true)(hd:d<a.tmps.size)
  (hfr:Fr (Cells (Bj [k] ρ)) w w') (hheap:Heap ρ' w' (Ar (AJ [k] ρ) Z) [(k,.row sz cs' true)]) (hone: ∀i o,ρ' i=some o→i=k) (hcells: ∀ad,Cells ρ' ad→Cells (Bj [k] ρ) ad∨w.heap.size≤ad.block)
  (hv:RepC ρ' w' (Ar (AJ [k] ρ) Z) (.sl k 0 m) v): ∃ρ'',Rel M Z w0 ρ'' (((st.drop k).new d (.row sz cs' true)).put (some d) (vC (.sl d 0 m))) (a.put (some d) v) w':=by
 obtain⟨ok,hok⟩:=Option.isSome_iff_exists.1 hkn
 obtain⟨o2,ho2,hv2⟩:=hv
 let ρ3:AE:=fun i=>if i=d then some o2 else if i=k then some { ok with gone:=true } else ρ i
 have e3: ∀i o,ρ3 i=some o→(i=d∧o=o2)∨(i≠d∧i=k∧o={ ok with gone:=true })∨(i≠d∧i≠k∧ρ i=some o):=(by grind)
 have ngone: ∀ad,¬Own.has { ok with gone:=true } ad:=fun ad hh=>by cases hh.1
 have hRk: ∀ad,Cells (Bj [k] ρ) ad→ok.has ad:=fun ad ⟨i,o,hi,ho⟩=>by
  obtain⟨h1,h2⟩:=A9 hi
  grind
 have h2c: ∀ad,o2.has ad→ok.has ad∨w.heap.size≤ad.block:=fun ad ho=>(hcells ad ⟨k,o2,ho2,ho⟩).imp (hRk ad) id
 have hk:Keep w w' (Ar ρ Z) (Ar ρ3 Z):=fun ad u hn hu=>by
  refine⟨hfr.cell ad u (fun hr=>hn (.inr (by grind))) hu,?_⟩
  rintro (hz|⟨i,o,hi,ho⟩)
  ·exact hn (.inl hz)
  ·rcases e3 i o hi with⟨_,rfl⟩|⟨_,_,rfl⟩|⟨_,_,hi⟩
   ·rcases h2c ad ho with h1|h1
    ·exact hn (.inr (by grind))
    ·have:=World.block_lt_of_cell? w ad hu;omega
   ·exact ngone ad ho
   ·exact hn (.inr ⟨i,o,hi,ho⟩)
 have hturn:Cf ρ ρ3 w w' Z (Bm d):=fun c v hr=>by
  have named: ∀i,i≠d→ ∀o,ρ i=some o→ ∃o',ρ3 i=some o'∧o'={ o with gone:=o'.gone }:=(by grind)
  cases c with
  |d x=>exact RepD.keep hk hr
  |nl=>exact hr
  |bad=>exact hr
  |sl i off n=>
   simp only[C.on,Bm];split
   ·exact RepC.one hr
   ·rename_i hi
    obtain⟨o,ho,r⟩:=hr
    obtain⟨o',ho',he⟩:=named i hi o ho
    rw[he]at ho'
    exact⟨_,ho',r⟩
  |ptr i off=>
   simp only[C.on,Bm];split
   ·exact RepC.one hr
   ·rename_i hi
    obtain⟨o,ho,r⟩:=hr
    obtain⟨o',ho',he⟩:=named i hi o ho
    rw[he]at ho'
    exact⟨_,ho',r⟩
  |mp q i=>
   simp only[C.on,Bm];split
   ·exact RepC.one hr
   ·rename_i hi
    obtain⟨o,ho,r⟩:=hr
    obtain⟨o',ho',he⟩:=named i hi o ho
    rw[he]at ho'
    exact⟨_,ho',r⟩
 have hobj: ∀i o,i≠k→ρ i=some o→o.mp→ ∀y:Obj,w.heap[o.g]? =some y→w'.heap[o.g]? =some y:=fun i o hni hi hm y hy=>G0 hfr (fun ad e hr=>h.heap.owns.apart i k o ok hi hok hni _ (ER hm e) (hRk _ hr)) hy
 have same: ∀i o,i≠k→ρ i=some o→o.gone=false→ ∀j,j<o.room*o.sz→w'.cell? (o.at j)=w.cell? (o.at j)∧w'.frozen? (o.at j)=w.frozen? (o.at j):=fun i o hni hi hg j hj=>by
  obtain⟨⟨v,hv⟩,_⟩:=h.heap.owns.cells i o hi hg j hj
  refine⟨?_,hfr.frz _ (fun hr=>h.heap.owns.apart i k o ok hi hok hni _ (Own.has_at hg hj) (hRk _ hr)) (World.block_lt_of_cell? w _ hv)⟩
  rw[hv]
  exact hfr.cell _ v (fun hr=>h.heap.owns.apart i k o ok hi hok hni _ (Own.has_at hg hj) (hRk _ hr)) hv
 have hout: ∀ad,Ar ρ3 Z ad→Ar ρ' (Ar (AJ [k] ρ) Z) ad:=fun ad ho=>by
  rcases ho with hz|⟨i,o,hi,ho⟩
  ·exact .inl (.inl hz)
  ·rcases e3 i o hi with⟨_,rfl⟩|⟨_,_,rfl⟩|⟨_,hne,hi⟩
   ·exact .inr ⟨k,o,ho2,ho⟩
   ·grind
   ·exact .inl (.inr ⟨i,o,(by grind[Fi]),ho⟩)
 obtain⟨o2',ho2',q1,q2,q3,q4,q5⟩:=hheap.rep k (.row sz cs' true) (Bt _ _ _)
 obtain rfl:o2'=o2:=(by grind)
 have hrel:Rel M Z w0 ρ3 ((st.drop k).new d (.row sz cs' true)) a w':=
  {fr:=h.fr.into hfr fun ad hr=>h.mine k ok ad hok (hRk ad hr)
   heap:=⟨⟨fun i o hi hg j hj=>by
     rcases e3 i o hi with⟨_,rfl⟩|⟨_,_,rfl⟩|⟨_,hne,hi⟩
     ·exact hheap.owns.cells k o ho2 hg j hj
     ·cases hg
     ·rw[(same i o hne hi hg j hj).1,(same i o hne hi hg j hj).2];exact h.heap.owns.cells i o hi hg j hj,
    fun i i' o o' hi hi' hne ad ho ho'=>by
     have mixed: ∀{i' o'},i'≠k→ρ i'=some o'→o2'.has ad→o'.has ad→False:=fun {i' o'} hn hi' ho ho'=>by
      rcases h2c ad ho with h1|h1
      ·exact h.heap.owns.apart k i' ok o' hok hi' (by omega) ad h1 ho'
      ·have:=EG h hi' ho';omega
     rcases e3 i o hi with⟨h1,h2⟩|⟨_,_,h2⟩|⟨_,hn,hq⟩<;>rcases e3 i' o' hi' with⟨h1',h2'⟩|⟨_,_,h2'⟩|⟨_,hn',hq'⟩
     ·omega
     ·grind
     ·grind
     ·grind
     ·omega
     ·grind
     ·grind
     ·grind
     ·exact h.heap.owns.apart i i' o o' hq hq' hne ad ho ho',
    fun i o hi=>by
     rcases e3 i o hi with⟨_,rfl⟩|⟨_,_,rfl⟩|⟨_,hne,hi⟩
     ·exact hheap.owns.lim k o ho2
     ·exact h.heap.owns.lim k ok hok
     ·exact h.heap.owns.lim i o hi⟩,fun i b hb=>by
    by_cases e:i=d
    ·subst e;simp only[St.new,St.blk]at hb;rw[Bt]at hb;cases hb;refine⟨o2',by simp[ρ3],q1,q2,q3,q4,fun j x hx=> ?_⟩
     obtain⟨u,hu,hdd⟩:=q5 j x hx
     exact⟨u,hu,hdd.keep (Keep.mono hout)⟩
    ·simp only[St.new,St.blk,St.purge]at hb;rw[BD e,BR e,BR e]at hb;simp only[St.on,St.drop]at hb;rw[BN,jze]at hb;obtain⟨b0,hb0,rfl⟩:=hb;obtain⟨hne,hb0⟩:=Hk hb0;obtain⟨o,ho,hr⟩:=h.heap.rep i b0 hb0;exact⟨o,by grind,hr.turn hturn hk (by grind) (by grind)⟩⟩
   mine:=fun i o ad hi ho=>by
    rcases e3 i o hi with⟨_,rfl⟩|⟨_,_,rfl⟩|⟨_,hne,hi⟩
    ·rcases h2c ad ho with h1|h1
     ·exact h.mine k ok ad hok h1
     ·exact .inr (Nat.le_trans h.fr.size h1)
    ·grind
    ·exact h.mine i o ad hi ho
   out:=h.out
   mz:=h.mz
   tmps:=fun t v hv=>by
    simp only[St.new,St.blk,St.purge,St.on,St.drop]at hv;rw[BN,jze]at hv;obtain⟨v0,hv0,rfl⟩:=hv;exact(h.tmps t v0 hv0).turn hturn
   defers:=h.defers
   mps:=fun i o hi hm=>by
    rcases e3 i o hi with⟨_,rfl⟩|⟨_,_,rfl⟩|⟨_,hne,hi⟩
    ·obtain⟨h1,h2⟩:=hm
     grind
    ·cases hm.2
    ·obtain⟨y,hy,hn⟩:=h.mps i o hi hm
     grind }
 exact⟨ρ3,hrel.put (dst:=some d) (v:=vC (.sl d 0 m)) (by grind) ⟨o2',by simp[ρ3],hv2⟩⟩
end
end Go.Va
