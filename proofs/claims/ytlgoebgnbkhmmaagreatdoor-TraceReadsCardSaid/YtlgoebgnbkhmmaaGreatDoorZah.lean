/- a part of the proof -/
import Derived.Test.YtlgoebgnbkhmmaaGreatDoorZag
import Derived.Scope
set_option linter.all false
namespace Go.Va
open Go.RowKit
variable [Gv]
section
variable {P:Program} {T:AH} {X:Cx} {pred:Nat→Nat→Bool}
structure Edges (ops:List Oper) (pred:Nat→Nat→Bool):Prop where
 has: ∀i o,ops[i]? =some o→ ∀e∈o.after,Region.binds .any e=true→pred e.on i=true
 gen: ∀i o,ops[i]? =some o→ ∀j,pred j i=true→ ∃e∈o.after,Region.binds .any e=true∧(e.on=j∨pred j e.on=true)
theorem Ml{ops:Array Oper}{listed:Array Bool}(hs:listed.size=ops.size){i:Nat}:i∈Region.ready .any ops listed↔ ∃o,ops[i]? =some o∧listed.getD i false=false∧ ∀e∈o.after,Region.binds .any e=true→listed.getD e.on false=true:=by
 unfold Region.ready;rw[List.mem_filter,List.mem_range,AR]
 constructor
 ·rintro⟨h1,h2,h3⟩
  have ho:ops[i]? =some ops[i]:=(by simp)
  rw[ho]at h3
  refine⟨_,ho,?_,fun e he hb=> ?_⟩
  ·grind
  ·simp only[Option.map_some,Option.getD_some]at h3;have:=Array.all_eq_true_iff_forall_mem.1 h3 e he
   grind
 grind
def Ci(n m:Nat):Array Bool:=((List.range n).map fun j=>decide (j<m)).toArray
theorem Gu(n m:Nat):(Ci n m).size=n:=by simp[Ci]
theorem CO(n m j:Nat)(h:j<n):(Ci n m).getD j false=decide (j<m):=by
 simp[Ci,Cn,h]
theorem L6{n m:Nat}{l:Array Bool}(hs:l.size=n)(h: ∀j,j<n→l.getD j false=decide (j<m)):l=Ci n m:=by
 apply Array.ext
 ·rw[hs,Gu]
 ·intro j h1 h2;have:=h j (by omega)
  rw[←CO n m j (by omega)]at this
  simpa [Cn,h1,h2]using this
def Cut(n:Nat)(pred:Nat→Nat→Bool)(m:Nat):Prop:= ∀i,m≤i→i<n→ ∀j,j<m→pred j i=true
theorem QC{n:Nat}{listed:Array Bool}(hs:listed.size=n){i:Nat}(hi:i<n)(j:Nat):(listed.setIfInBounds i true).getD j false=if j=i then true else listed.getD j false:=by
 by_cases hji:j=i
 ·simp_all
 simp_all[Cn,Array.getElem?_setIfInBounds,Ne.symm]
theorem PF{ops:List Oper}{pred:Nat→Nat→Bool}(he:Edges ops pred){listed:Array Bool}(hs:listed.size=ops.length)(hc: ∀j,listed.getD j false=true→ ∀k,pred k j=true→listed.getD k false=true)
  {i:Nat} (hi:i∈Region.ready .any ops.toArray listed): ∃o,ops[i]? =some o∧i<ops.length∧listed.getD i false=false∧ ∀j,pred j i=true→listed.getD j false=true:=by
 obtain⟨o,ho,h2,h3⟩:=(Ml (by simpa using hs)).1 hi
 have ho':ops[i]? =some o:=by simpa using ho
 refine⟨o,ho',(by grind),h2,fun j hj=> ?_⟩
 obtain⟨e,hem,hb,hor⟩:=he.gen i o ho' j hj
 grind
theorem Px{ops:List Oper}{pred:Nat→Nat→Bool}(he:Edges ops pred)(hlt: ∀j i,pred j i=true→j<i){listed:Array Bool}(hs:listed.size=ops.length)(hr:Region.ready .any ops.toArray listed=[]):
  ∀j,j<ops.length→listed.getD j false=true:=by
 intro j
 induction j using Nat.strongRecOn with
 |_ j ih=>
  intro hj;cases hl:listed.getD j false with
  |true=>rfl
  |false=>
   have ho:ops.toArray[j]? =some ops[j]:=by simp
   have:j∈Region.ready .any ops.toArray listed:=(Ml (by simpa using hs)).2 ⟨_,ho,hl,fun e hem hb=>by
    have:=hlt _ _ (he.has j ops[j] (by simp) e hem hb)
    grind⟩
   grind
def Frz(K:St→Prop)(s:St):Prop:= ∃l:List (List Nat),K (l.foldl (fun s ids=>s.freeze ids) s)
theorem Frz.of{K:St→Prop}{s:St}(h:K s):Frz K s:=⟨[],h⟩
theorem ja3{K:St→Prop}{a:Act}{w:World}:BX X (Frz K) a w→BX X K a w:=fun⟨M,Z,w0,ρ,s,hL,h1,h2,l,h3⟩=>by
 induction l generalizing ρ s with
 |nil=>exact⟨_,_,_,_,_,hL,h1,h2,h3⟩
 |cons ids l ih=>exact ih _ _ (hL.of (TrLe.freeze ids)) (h1.freeze ids) h3
theorem Qv{ops:List Oper}{Q:Exit→Act→World→Prop}(hok:Ev X.n X.pin ops=true)(hT:A5 P T)(hY: ∀Y,X.Y=some Y→YlOk P Y){K:St→Prop}{i:Nat}{o:Oper}(ho:ops[i]? =some o){a:Act}{w:World}{M Z:Addr→Prop}{w0:World}{ρ:AE}{s:St}
  (hL:Lk X M Z w0 s a) (hrel:Rel M Z w0 ρ s a w) (hn:a.tmps.size=X.n) (hw:Ca P T ops o s K) {next:Act→World→Prop} (hnext: ∀a w,BX X K a w→next a w):Go.wpOp P ops.toArray Q i next a w:=by
 have hg':=PM (Q:=Q) hT hY hL hrel hn hok (by grind) hw
 unfold Go.wpOp;have ho':ops.toArray[i]? =some o:=by simpa using ho
 rw[ho']
 dsimp only
 split
 ·rw[if_pos ‹_›]at hg'
  grind[Oper.wp_mono]
 grind
theorem QH{ops:List Oper}{Q:Exit→Act→World→Prop}{a:Act}{w:World}(h:Q .normal a w):wpAny P .any ops.toArray Q 0 (Ci ops.length ops.length) a w:=by
 refine⟨?_,h⟩
 rw[List.eq_nil_iff_forall_not_mem]
 grind[Ml,Gu,CO]
theorem jan(hT:A5 P T)(hY: ∀Y,X.Y=some Y→YlOk P Y){ops:List Oper}{Q:Exit→Act→World→Prop}(hok:Ev X.n X.pin ops=true){pred:Nat→Nat→Bool}(he:Edges ops pred)(hlt: ∀j i,pred j i=true→j<i){m:Nat}{o:Oper}(ho:ops[m]? =some o)
  (hcut:Cut ops.length pred (m+1)) (hcut0:Cut ops.length pred m) {K:St→Prop} {a:Act} {w:World} (hg:BX X (fun s=>Ca P T ops o s K) a w) {fuel:Nat} (next: ∀a w,BX X K a w→wpAny P .any ops.toArray Q fuel (Ci ops.length (m+1)) a w):
  wpAny P .any ops.toArray Q (fuel+1) (Ci ops.length m) a w:=by
 have hm:m<ops.length:=(by grind)
 have hc: ∀j,(Ci ops.length m).getD j false=true→ ∀k,pred k j=true→(Ci ops.length m).getD k false=true:=(by grind[Nat.lt_or_ge,Array.getD_eq_getD_getElem?,Ci,CO])
 refine⟨fun hr=> ?_,fun i hi=> ?_⟩
 ·grind[Px,Gu,CO]
 ·obtain⟨o',ho',hi',h2,h3⟩:=PF he (Gu _ _) hc hi
  rw[CO _ _ _ hi']at h2
  have hmi:m≤i:=by simpa using h2
  have:i=m:=by
   rcases Nat.eq_or_lt_of_le hmi with h|h
   ·exact h.symm
   ·have:=h3 m (hcut i (by omega) hi' m (by omega))
    grind[CO]
  subst this;rw[ho]at ho';cases ho';obtain⟨M,Z,w0,ρ,s,hL,hrel,hn,hw⟩:=hg;refine Qv hok hT hY ho hL hrel hn hw fun a' w' hg'=> ?_
  rw[L6 (n:=ops.length) (l:=(Ci ops.length i).setIfInBounds i true) (m:=i+1) (by simp[Gu]) (by grind[QC,Gu,CO])]
  grind
theorem jjV(hT:A5 P T)(hY: ∀Y,X.Y=some Y→YlOk P Y){ops:List Oper}{K:St→Prop}{Q:Exit→Act→World→Prop}(hok:Ev X.n X.pin ops=true){fuel0 lo hi:Nat}(hhi:hi≤ops.length)(hcut:Cut ops.length pred hi)
  (hcont: ∀a w,BX X K a w→wpAny P .any ops.toArray Q fuel0 (Ci ops.length hi) a w)
  {F0:FS} {f:Nat→Step} {E:Nat→St} (hp:Plan F0 hi f E pred) (he:Edges ops pred)
  (hdo: ∀i o,lo≤i→i<hi→ops[i]? =some o→ ∀(L:Nat→Bool) (s:St),L i=false→(∀j,L j=true→ ∀k,pred k j=true→L k=true)→(E i).Sub s→s.fs=F0.run ((Co hi L).map f)→
   ∀K:St→Prop,(∀s',s'.fs=s.fs.upd (f i)→K s')→Ca P T ops o s (Frz K))
  (hK: ∀s,s.fs=F0.run ((List.range hi).map f)→K s):
  ∀(fuel:Nat) (listed:Array Bool) (a:Act) (w:World),listed.size=ops.length→((List.range hi).filter fun j=> !listed.getD j false).length=fuel→(∀j,j<lo→listed.getD j false=true)→(∀j,hi≤j→listed.getD j false=false)→
   (∀j,listed.getD j false=true→ ∀k,pred k j=true→listed.getD k false=true)→
   BX X (fun s=>s.fs=F0.run ((Co hi fun j=>listed.getD j false).map f)) a w→wpAny P .any ops.toArray Q (fuel0+fuel) listed a w:=by
 intro fuel
 induction fuel with
 |zero=>
  intro listed a w hs hf hlo hhi' hc ⟨M,Z,w0,ρ,s,hL,h1,h2,h3⟩;have hall: ∀j,j<hi→listed.getD j false=true:=(by simp_all)
  rw[L6 (m:=hi) hs (by grind)]
  refine hcont a w ⟨M,Z,w0,ρ,s,hL,h1,h2,hK s ?_⟩;rw[h3];unfold Co;rw[List.filter_eq_self.2 (by grind)]
 |succ fuel ih=>
  intro listed a w hs hf hlo hhi' hc hg;obtain⟨j0,hj0,hl0⟩: ∃j,j<hi∧listed.getD j false=false:=by
   have:((List.range hi).filter fun j=> !listed.getD j false)≠[]:=(by grind)
   simp_all
  show wpAny P .any ops.toArray Q (fuel0+fuel+1) listed a w
  refine⟨fun hr=> ?_,fun i hi'=> ?_⟩
  ·have:=Px he hp.lt hs hr j0 (by omega)
   grind
  ·obtain⟨o,ho,hin,h2,hr⟩:=PF he hs hc hi'
   have hih:i<hi:=by
    rcases Nat.lt_or_ge i hi with h|h
    ·exact h
    ·have:=hr j0 (hcut i h hin j0 hj0);grind
   have hil:lo≤i:=by
    grind
   obtain⟨M,Z,w0,ρ,s,hL,hrel,hn,hfs⟩:=hg
   have hset:=QC hs hin;refine Qv hok hT hY ho hL hrel hn (hdo i o hil hih ho (fun j=>listed.getD j false) s h2 hc (hp.sub hih h2 hr hc hfs) hfs (fun s'=>s'.fs=s.fs.upd (f i)) fun s' h=>h) ?_
   intro a' w' hgf;obtain⟨M',Z',w0',ρ',s',gL,g1,g2,g3⟩:=ja3 hgf;refine ih _ a' w' (by simpa using hs) ?_ (fun j hj=> ?_) (fun j hj=> ?_) ?_ ⟨M',Z',w0',ρ',s',gL,g1,g2,?_⟩
   ·obtain⟨A,B,e1,e2,_⟩:=PY hih (L:=fun j=> !(listed.setIfInBounds i true).getD j false) (L':=fun j=> !listed.getD j false) (by rw[hset];simp) (by simp[h2]) (by grind)
    grind[Co,List.length_append,List.length_cons]
   ·grind
   ·grind
   ·grind
   ·show s'.fs=_
    rw[g3,hfs]
    exact hp.next hih (L:=fun j=>listed.getD j false) h2 (by rw[hset];simp) (by grind) hc
def GX(P:Program)(T:AH)(ops:List Oper)(pred:Nat→Nat→Bool)(hi:Nat):Nat→(Nat→Bool)→St→(St→Prop)→Prop
 |0,_,st,K=>K st
 |n+1,L,st,K=> ∀i o,i<hi→ops[i]? =some o→L i=false→(∀j,pred j i=true→L j=true)→Ca P T ops o st fun s=>GX P T ops pred hi n (fun j=>L j||j==i) s K
theorem XU(hT:A5 P T)(hY: ∀Y,X.Y=some Y→YlOk P Y){ops:List Oper}{K:St→Prop}{Q:Exit→Act→World→Prop}(hok:Ev X.n X.pin ops=true){fuel0 lo hi:Nat}(hhi:hi≤ops.length)(hcut:Cut ops.length pred hi)
  (hcont: ∀a w,BX X K a w→wpAny P .any ops.toArray Q fuel0 (Ci ops.length hi) a w) (he:Edges ops pred) (hlt: ∀j i,pred j i=true→j<i):
  ∀(fuel:Nat) (listed:Array Bool) (a:Act) (w:World),listed.size=ops.length→((List.range hi).filter fun j=> !listed.getD j false).length=fuel→(∀j,j<lo→listed.getD j false=true)→(∀j,hi≤j→listed.getD j false=false)→
   (∀j,listed.getD j false=true→ ∀k,pred k j=true→listed.getD k false=true)→
   BX X (fun s=>GX P T ops pred hi fuel (fun j=>listed.getD j false) s K) a w→wpAny P .any ops.toArray Q (fuel0+fuel) listed a w:=by
 intro fuel
 induction fuel with
 |zero=>
  intro listed a w hs hf hlo hhi' hc ⟨M,Z,w0,ρ,s,hL,h1,h2,h3⟩;have hall: ∀j,j<hi→listed.getD j false=true:=(by simp_all)
  rw[L6 (m:=hi) hs (by grind)]
  exact hcont a w ⟨M,Z,w0,ρ,s,hL,h1,h2,h3⟩
 |succ fuel ih=>
  intro listed a w hs hf hlo hhi' hc hg;obtain⟨j0,hj0,hl0⟩: ∃j,j<hi∧listed.getD j false=false:=by
   have:((List.range hi).filter fun j=> !listed.getD j false)≠[]:=(by grind)
   simp_all
  show wpAny P .any ops.toArray Q (fuel0+fuel+1) listed a w
  refine⟨fun hr=> ?_,fun i hi'=> ?_⟩
  ·grind[Px]
  ·obtain⟨o,ho,hin,h2,hr⟩:=PF he hs hc hi'
   have hih:i<hi:=by
    rcases Nat.lt_or_ge i hi with h|h
    ·exact h
    ·have:=hr j0 (hcut i h hin j0 hj0);grind
   have hil:lo≤i:=by
    grind
   obtain⟨M,Z,w0,ρ,s,hL,hrel,hn,hfs⟩:=hg
   have hset:=QC hs hin;refine Qv hok hT hY ho hL hrel hn (hfs i o hih ho h2 hr) ?_;intro a' w' ⟨M',Z',w0',ρ',s',gL,g1,g2,g3⟩;refine ih _ a' w' (by simpa using hs) ?_ (fun j hj=> ?_) (fun j hj=> ?_) ?_ ⟨M',Z',w0',ρ',s',gL,g1,g2,?_⟩
   ·obtain⟨A,B,e1,e2,_⟩:=PY hih (L:=fun j=> !(listed.setIfInBounds i true).getD j false) (L':=fun j=> !listed.getD j false) (by rw[hset];simp) (by simp[h2]) (by grind)
    grind[Co,List.length_append,List.length_cons]
   ·grind
   ·grind
   ·grind
   grind
end
end Go.Va
namespace Go.Va
open Go.RowKit
variable [Gv]
def V2(P:Program)(T:AH)(ops:List Oper)(F0:FS)(lo hi:Nat)(f:Nat→Step)(E:Nat→St)(pred:Nat→Nat→Bool):Prop:=
 ∀i o,lo≤i→i<hi→ops[i]? =some o→ ∀(L:Nat→Bool) (s:St),L i=false→(∀j,L j=true→ ∀k,pred k j=true→L k=true)→(E i).Sub s→s.fs=F0.run ((Co hi L).map f)→
  ∀K:St→Prop,(∀s',s'.fs=s.fs.upd (f i)→K s')→Ca P T ops o s (Frz K)
def FW(P:Program)(T:AH)(ops:List Oper)(pred:Nat→Nat→Bool):Nat→Nat→St→(St→Prop)→Prop
 |0,lo,st,K=>lo=ops.length∧K st
 |k+1,lo,st,K=>(lo=ops.length∧K st)∨
  (∃o,ops[lo]? =some o∧Cut ops.length pred (lo+1)∧Ca P T ops o st (fun s=>FW P T ops pred k (lo+1) s K))∨
  (∃(hi:Nat) (ids ds:List Nat) (f:Nat→Step) (E:Nat→St),lo≤hi∧hi≤ops.length∧Cut ops.length pred hi∧Plan (purges ds (st.freeze ids)).fs hi f E pred∧(∀i,i<lo→f i=⟨none,.val (.tup [])⟩)∧
   V2 P T ops (purges ds (st.freeze ids)).fs lo hi f E pred∧ ∃s,s.fs=(purges ds (st.freeze ids)).fs.run ((List.range hi).map f)∧FW P T ops pred k hi s K)∨
  (∃l:List (Nat×Nat),FW P T ops pred k lo (rns l st) K)∨
  ∃hi,lo≤hi∧hi≤ops.length∧Cut ops.length pred hi∧GX P T ops pred hi (hi - lo) (fun j=>decide (j<lo)) st fun s=> ∃s0:St,s0.le s∧FW P T ops pred k hi s0 K
def Kz(P:Program)(T:AH)(ops:List Oper)(st:St)(K:St→Prop):Prop:=
 ∃(pred:Nat→Nat→Bool) (n:Nat),Edges ops pred∧(∀j i,pred j i=true→j<i)∧FW P T ops pred n 0 st K
def JS(P:Program)(T:AH)(ops:List Oper)(draw:Bool)(st:St)(K:St→Prop):Prop:=
 if draw then Kz P T ops st K else EV P T ops ops st K
def Hr(Q:Bk)(e:Exit)(s:St):Prop:=
 match e with
 | .goto _=>False
 |e=>Q e s
def Bl(P:Program)(T:AH):Code→St→Bk→Prop
 | .skip,st,Q=>Q .normal st
 | .region _ ops draw,st,Q=>JS P T ops.toList draw st (IG Q)
 | .seq a b,st,Q=>Bl P T a st (DO (Bl P T b) Q)
 | .cond c x y,st,Q=>Ie (st.evB c) st (Bl P T x) (Bl P T y) Q
 | .block id c,st,Q=>Bl P T c st (Gf id Q)
 | .loop c,st,Q=>HN (Bl P T c) st Q
 | .exit id,st,Q=>Q (.exit id) st
 | .ret,st,Q=>Q .ret st
 | .scope c,st,Q=>Bl P T c st (Hr Q)
 | .label _,st,Q=>Q .normal st
 |_,_,_=>False
section
variable {P:Program} {T:AH} {X:Cx} {M Z:Addr→Prop} {w0 w:World} {a:Act}
theorem Rel.drew{ρ:AE}{st:St}(h:Rel M Z w0 ρ st a w):Rel M Z w0 ρ st a { w with drawn:=w.drawn+1 }:=h.ext (Ext.drew w)
theorem Rel.sub{ρ:AE}{st:St}(h:Rel M Z w0 ρ st a w){s0:St}(hs:s0.Sub st):Rel M Z w0 ρ s0 a w where
 fr:=h.fr
 heap:=⟨h.heap.owns,fun i b hb=>h.heap.rep i b (hs.h i b hb)⟩
 mine:=h.mine
 out:=h.out
 mz:=h.mz
 tmps:=fun t v hv=>h.tmps t v (hs.t t v hv)
 defers:=h.defers
 mps:=h.mps
theorem NA{s s':St}(h:s.fs=s'.fs):s.Sub s':=by
 simp only[St.fs,FS.mk.injEq]at h;exact⟨fun k x hx=>by rw[←congrFun h.1 k];exact hx,fun k x hx=>by rw[←congrFun h.2 k];exact hx⟩
theorem Rel.purges: ∀(l:List Nat) {ρ:AE} {st:St},Rel M Z w0 ρ st a w→ ∃ρ',Rel M Z w0 ρ' (purges l st) a w
 |[],_,_,h=>⟨_,h⟩
 |i::l,_,_,h=>Rel.purges l (h.purge i)
theorem YR(F:FS):F.upd ⟨none,.val (.tup [])⟩=F:=(by rfl)
theorem Nq(F:FS): ∀l:List Step,(∀s∈l,s=⟨none,.val (.tup [])⟩)→F.run l=F
 |[],_=>rfl
 |s::l,h=>by
  show(F.upd s).run l=F
  rw[h s (by simp),YR]
  exact Nq F l (by grind)
theorem TrLe.fs{s s':St}(h:s.fs=s'.fs):TrLe s s':=fun x r hh=>(NA h).t _ _ hh
theorem Zp(hT:A5 P T)(hY: ∀Y,X.Y=some Y→YlOk P Y){ops:List Oper}{K:St→Prop}{Q:Exit→Act→World→Prop}(hok:Ev X.n X.pin ops=true)(hQ: ∀a w,BX X K a w→Q .normal a w)
  {pred:Nat→Nat→Bool} (he:Edges ops pred) (hlt: ∀j i,pred j i=true→j<i): ∀(n lo:Nat) (a:Act) (w:World),lo≤ops.length→Cut ops.length pred lo→
   BX X (fun st=>FW P T ops pred n lo st K) a w→wpAny P .any ops.toArray Q (ops.length - lo) (Ci ops.length lo) a w:=by
 intro n
 induction n with
 |zero=>
  intro lo a w hlo hcut ⟨M,Z,w0,ρ,st,hL,h1,h2,h3,h4⟩;subst h3;rw[Nat.sub_self];exact QH (hQ a w ⟨M,Z,w0,ρ,st,hL,h1,h2,h4⟩)
 |succ n ih=>
  intro lo a w hlo hcut ⟨M,Z,w0,ρ,st,hL,hrel,hn,h⟩;rcases h with⟨rfl,h4⟩|⟨o,ho,hc,hw⟩|⟨hi,ids,ds,f,E,hlh,hhi,hc,hp,hidle,hturn,s1,hs1,hw⟩|⟨l,hw⟩|⟨hi,hlh,hhi,hc,hw⟩
  ·rw[Nat.sub_self]
   exact QH (hQ a w ⟨M,Z,w0,ρ,st,hL,hrel,hn,h4⟩)
  ·have hm:lo<ops.length:=(by grind)
   rw[show ops.length - lo=ops.length - (lo+1)+1 by omega]
   exact jan hT hY hok he hlt ho hc hcut ⟨M,Z,w0,ρ,st,hL,hrel,hn,hw⟩ (by grind)
  ·obtain⟨ρ',hrel'⟩:=Rel.purges ds (hrel.freeze ids)
   have hlen:((List.range hi).filter fun j=> !(Ci ops.length lo).getD j false).length=hi - lo:=by
    have hsplit:List.range hi=List.range lo++(List.range (hi - lo)).map (lo+ ·):=by
     conv=>lhs;rw[show hi=lo+(hi - lo) by omega,List.range_add]
    rw[hsplit,List.filter_append,List.filter_eq_nil_iff.2,List.filter_eq_self.2]
    ·simp
    ·intro j hj;obtain⟨k,hk,rfl⟩:=jzk.1 hj
     grind[CO]
    grind[CO]
   have hout: ∀j,ops.length≤j→(Ci ops.length lo).getD j false=false:=(by grind[Array.getD_eq_getD_getElem?,Ci])
   have:=jjV hT hY hok (fuel0:=ops.length - hi) (lo:=lo) hhi hc (K:=fun s=>s.fs=(Va.purges ds (st.freeze ids)).fs.run ((List.range hi).map f))
    (fun a w ⟨M,Z,w0,ρ,s,gL,g1,g2,g3⟩=>ih hi a w hhi hc ⟨M,Z,w0,ρ,s1,gL.of (by grind[TrLe.fs]),g1.sub (by grind[NA]),g2,hw⟩) hp he hturn (fun _ h=>h) (hi - lo) (Ci ops.length lo) a w (Gu _ _) hlen (by grind[CO]) (fun j hj=> ?_) (fun j hj k hk=> ?_) ⟨M,Z,w0,ρ',_,(hL.of (TrLe.freeze ids)).of (TrLe.purges ds),hrel',hn,?_⟩
   ·grind
   ·grind[Nat.lt_or_ge,CO]
   ·grind[Nat.lt_or_ge,CO]
   ·unfold Co;refine(Nq _ _ fun s hs=> ?_).symm
    obtain⟨j,hj,rfl⟩:=jzk.1 hs
    grind[CO]
  ·obtain⟨ρ',hrel'⟩:=Rel.rns l hrel
   exact ih lo a w hlo hcut ⟨M,Z,w0,ρ',_,hL.of (TrLe.rns l),hrel',hn,hw⟩
  ·have hlen:((List.range hi).filter fun j=> !(Ci ops.length lo).getD j false).length=hi - lo:=by
    have hsplit:List.range hi=List.range lo++(List.range (hi - lo)).map (lo+ ·):=by
     conv=>lhs;rw[show hi=lo+(hi - lo) by omega,List.range_add]
    rw[hsplit,List.filter_append,List.filter_eq_nil_iff.2,List.filter_eq_self.2]
    ·simp
    ·intro j hj;obtain⟨k,hk,rfl⟩:=jzk.1 hj
     grind[CO]
    grind[CO]
   have hout: ∀j,ops.length≤j→(Ci ops.length lo).getD j false=false:=(by grind[Array.getD_eq_getD_getElem?,Ci])
   have:=XU hT hY hok (fuel0:=ops.length - hi) (lo:=lo) hhi hc (K:=fun s=> ∃s0:St,s0.le s∧FW P T ops pred n hi s0 K)
    (fun a w ⟨M,Z,w0,ρ,s,gL,g1,g2,s0,g3,g4⟩=>ih hi a w hhi hc ⟨M,Z,w0,ρ,s0,gL.of (TrLe.le g3),g1.weaken g3,g2,g4⟩) he hlt (hi - lo) (Ci ops.length lo) a w (Gu _ _) hlen (by grind[CO]) (fun j hj=> ?_) (fun j hj k hk=> ?_) ⟨M,Z,w0,ρ,st,hL,hrel,hn,?_⟩
   ·grind
   ·grind[Nat.lt_or_ge,CO]
   ·grind[Nat.lt_or_ge,CO]
   ·have:(fun j=>(Ci ops.length lo).getD j false)=fun j=>decide (j<lo):=by
     funext j
     grind[Nat.lt_or_ge,CO,decide_eq_false]
    grind
theorem jbb(hT:A5 P T)(hY: ∀Y,X.Y=some Y→YlOk P Y){ops:List Oper}{K:St→Prop}{Q:Exit→Act→World→Prop}(hok:Ev X.n X.pin ops=true)(hQ: ∀a w,BX X K a w→Q .normal a w)
  (h:BX X (fun st=>Kz P T ops st K) a w):wpAny P .any ops.toArray Q ops.length (Array.replicate ops.length false) a w:=by
 obtain⟨M,Z,w0,ρ,st,hL,hrel,hn,pred,n,he,hlt,hw⟩:=h
 have:=Zp hT hY hok hQ he hlt n 0 a w (Nat.zero_le _) (fun i _ _ j hj=>by omega) ⟨M,Z,w0,ρ,st,hL,hrel,hn,hw⟩
 rw[Nat.sub_zero]at this
 rwa [show Array.replicate ops.length false=Ci ops.length 0 from L6 (by simp) (by simp_all)]
end
end Go.Va
namespace Go.Va
open Go.RowKit
variable [Gv]
section
variable {P:Program} {T:AH} {X:Cx} {w:World} {n:Nat}
def B6(n:Nat)(pin:List Nat):Code→Bool
 | .region _ ops _=>Ev n pin ops.toList
 | .seq x y=>B6 n pin x&&B6 n pin y
 | .cond _ x y=>B6 n pin x&&B6 n pin y
 | .block _ c=>B6 n pin c
 | .loop c=>B6 n pin c
 | .scope c=>B6 n pin c
 |_=>true
theorem _root_.Go.Code.wp.mono'{P:Program}{c:Code}{Q Q':Exit→Act→World→Prop}{a:Act}{w:World}(h:c.wp P Q a w)(hq: ∀e a w,Q e a w→Q' e a w):c.wp P Q' a w:=wp_mono h hq
def Jz(X:Cx)(Q:Bk):Exit→Act→World→Prop:=fun e=>BX X (Q e)
theorem Dr(hT:A5 P T)(hY: ∀Y,X.Y=some Y→YlOk P Y)(hm:P.follows .mixedOrders=true): ∀(c:Code) (Q:Bk) (a:Act) (w:World),B6 X.n X.pin c=true→BX X (fun st=>Bl P T c st Q) a w→c.wp P (Jz X Q) a w
 | .skip,Q,a,w,_,h=>wp_skip h
 | .region id ops draw,Q,a,w,hok,h=>by
  have hl:ops=ops.toList.toArray:=by simp
  cases draw with
  |false=>
   rw[hl]
   exact wp_region_lit (Rg hT hY (ops:=ops.toList) hok (fun a w h=>h) ops.toList a w (fun o ho=>ho) h)
  |true=>
   refine wp_region_any hm ?_;obtain⟨M,Z,w0,ρ,st,hL,h1,h2,h3⟩:=h;have:=jbb (Q:=Jz X Q) (K:=IG Q) hT hY (ops:=ops.toList) hok (fun a w h=>h) (a:=a) (w:={ w with drawn:=w.drawn+1 }) ⟨M,Z,w0,ρ,st,hL,h1.drew,h2,h3⟩
   simpa using this
 | .seq x y,Q,a,w,hok,h=>by
  simp only[B6,AR]at hok;refine wp_seq ((Dr hT hY hm x (DO (Bl P T y) Q) a w hok.1 h).mono' fun e a' w' he=> ?_)
  cases e<;>first|exact Dr hT hY hm y Q a' w' hok.2 he|exact he
 | .cond c x y,Q,a,w,hok,⟨M,Z,w0,ρ,st,hL,hrel,hn,hw⟩=>by
  simp only[B6,AR]at hok;unfold Bl Ie at hw;split at hw
  ·rename_i b hb
   refine wp_cond_split (hrel.evB hb) (fun ht=> ?_) (fun hf=> ?_)
   ·exact Dr hT hY hm x Q a w hok.1 ⟨M,Z,w0,ρ,st,hL,hrel,hn,hw.1 ht⟩
   ·exact Dr hT hY hm y Q a w hok.2 ⟨M,Z,w0,ρ,st,hL,hrel,hn,hw.2 hf⟩
  ·exact hw.elim
 | .block id c,Q,a,w,hok,h=>by
  refine wp_block ((Dr hT hY hm c (Gf id Q) a w hok h).mono' fun e a' w' he=> ?_)
  cases e<;>try exact he
  rename_i j
  obtain⟨M,Z,w0,ρ,st,hL,h1,h2,h3⟩:=he
  simp only[Exit.inBlock];simp only[Gf]at h3;split
  ·rw[if_pos ‹_›]at h3;exact⟨M,Z,w0,ρ,st,hL,h1,h2,h3⟩
  ·rw[if_neg ‹_›]at h3;exact⟨M,Z,w0,ρ,st,hL,h1,h2,h3⟩
 | .loop c,Q,a,w,hok,⟨M,Z,w0,ρ,st,hL,hrel,hn,hw⟩=>by
  obtain⟨I,rs,⟨s,m0,hle,hI⟩,hround⟩:=hw
  intro b k cs;have key: ∀(m:Nat) (a:Act) (w:World),(∃M Z w0 ρ s,Lk X M Z w0 s a∧Rel M Z w0 ρ s a w∧a.tmps.size=X.n∧I s m)→
    ∃e a' w',Jz X Q e a' w'∧Arrives P (lone (b.at a (.code c:: .inLoop c::k)) cs w) b k cs e a' w':=by
   intro m
   induction m using Nat.strongRecOn with
   |_ m ih=>
    rintro a w ⟨M,Z,w0,ρ,s,hL,h1,h2,h3⟩
    have hc:=Dr hT hY hm c (DO (Kw I rs m) Q) a w hok ⟨M,Z,w0,ρ,s,hL,h1,h2,hround s m h3⟩;obtain⟨e,a1,w1,hq,harr⟩:=hc b (.inLoop c::k) cs;cases e with
    |normal=>
     obtain⟨M',Z',w0',ρ1,s1,gL,g1,g2,s2,m2,g3,g4,g5⟩:=hq
     obtain⟨ρ2,g1'⟩:=Rel.rns rs g1
     obtain⟨e2,a2,w2,hq2,harr2⟩:=ih m2 g5 a1 w1 ⟨M',Z',w0',ρ2,s2,(gL.of (TrLe.rns rs)).of (TrLe.le g3),g1'.weaken g3,g2,g4⟩
     exact⟨e2,a2,w2,hq2,.of_steps (Steps.trans harr (.one step_inLoop)) harr2⟩
    |exit id=>exact⟨_,a1,w1,hq,.pass (x:= .inLoop c) rfl (by simp) harr⟩
    |goto l=>exact⟨_,a1,w1,hq,.pass (x:= .inLoop c) rfl (by simp) harr⟩
    |ret=>exact⟨_,a1,w1,hq,.pass (x:= .inLoop c) rfl (by simp) harr⟩
    |panic ch=>exact⟨_,a1,w1,hq,.pass (x:= .inLoop c) rfl (by simp) harr⟩
    |outgrown=>exact⟨_,a1,w1,hq,.pass (x:= .inLoop c) rfl (by simp) harr⟩
  obtain⟨ρ0,hrel'⟩:=Rel.rns rs hrel
  obtain⟨e,a',w',hq,harr⟩:=key _ a w ⟨M,Z,w0,ρ0,s,(hL.of (TrLe.rns rs)).of (TrLe.le hle),hrel'.weaken hle,hn,hI⟩
  exact⟨e,a',w',hq,.of_steps (.one step_loop) harr⟩
 | .exit id,Q,a,w,_,h=>wp_exit h
 | .ret,Q,a,w,_,h=>wp_ret h
 | .rangeFunc _ _ _ _,Q,a,w,_,⟨_,_,_,_,_,_,_,_,hw⟩=>hw.elim
 | .scope c,Q,a,w,hok,h=>by
  refine wp_scope_straight ((Dr hT hY hm c (Hr Q) a w hok h).mono' fun e a' w' he=> ?_)
  cases e with
  |goto l=>obtain⟨_,_,_,_,_,_,_,_,hw⟩:=he;exact hw.elim
  |_=>exact he
 | .label _,Q,a,w,_,h=>wp_label h
 | .goto _,Q,a,w,_,⟨_,_,_,_,_,_,_,_,hw⟩=>hw.elim
 | .refuse _,Q,a,w,_,⟨_,_,_,_,_,_,_,_,hw⟩=>hw.elim
end
end Go.Va
namespace Go.Va
open Go.RowKit
variable [Gv]
section
variable {P:Program} {T:AH} {M Z:Addr→Prop} {w0 w:World} {ρ:AE} {st:St} {a:Act}
def HV(tmps:Array Value)(r:ResultVar):Sem Value:=
 match r with
 | .tmp t=>pure (tmps.getD t undef)
 | .cell a' t=>do loadVar t (←asAddr (tmps.getD a' undef))
def Lz(vs:Array Value):Value:=if h:vs.size=1 then vs[0] else .tuple vs
theorem VU(fn:Func)(tmps:Array Value):results fn tmps=(fn.results.mapM (HV tmps)).bind fun vs=>pure (Lz vs):=by
 rfl
theorem Wy(tmps:Array Value)(t:Nat):HV tmps (.tmp t)=pure (tmps.getD t undef):=rfl
theorem RD(hT:A5 P T)(h:Rel M Z w0 ρ st a w): ∀{rs:List ResultVar} {us:List U},rs.mapM (st.resU T)=some us→
  ∃xs:List Value,(rs.mapM (HV a.tmps)).run P w= .ok xs w∧RepL (RepU ρ w Z) us xs
 |[],us,hu=>by simp at hu;subst hu;exact⟨[],by simp,rfl,(by simp)⟩
 |r::rs,us,hu=>by
  simp only[List.mapM_cons,Option.pure_def,Option.bind_eq_bind,jzd,Option.some.injEq]at hu;obtain⟨u,hu1,us',hu2,rfl⟩:=hu;obtain⟨xs,hx,i1,i2⟩:=RD hT h hu2;cases r with
  |cell t ty=>
   simp only[St.resU,jzd]at hu1;obtain⟨i,hi,hu1⟩:=hu1;split at hu1
   ·rename_i c hl
    obtain⟨info,d,ht⟩:=Be (hT ty i hi)
    obtain⟨ad,v,he,hr,hv⟩:=Tr (P:=P) h ht (h.tmps t _ hl) hu1
    refine⟨v::xs,?_,by simp[i1],fun j y v' hy hv'=> ?_⟩
    ·simp only[List.mapM_cons,HV,he,asAddr,Sem.run_bind,Sem.run_pure,Result.andThen_ok,hr,hx]
    ·cases j with
     |zero=>simp only[List.getElem?_cons_zero,Option.some.injEq]at hy hv';subst hy;subst hv';exact hv
     |succ j=>exact i2 j y v' (by simpa using hy) (by simpa using hv')
   ·cases hu1
  |tmp t=>
   simp only[St.resU]at hu1;split at hu1<;>cases hu1;have hv:=h.tmps t _ ‹_›;refine⟨a.tmps.getD t undef::xs,?_,by simp[i1],fun j y v hy hv'=> ?_⟩
   ·grind[Wy,Sem.run_bind,Sem.run_pure,Result.andThen_ok]
   ·cases j with
    |zero=>simp only[List.getElem?_cons_zero,Option.some.injEq]at hy hv';subst hy;subst hv';exact hv
    |succ j=>grind
theorem GT(hT:A5 P T)(h:Rel M Z w0 ρ st a w){fn:Func}{v:V}(hv:st.res T fn.results.toList=some v): ∃x,(results fn a.tmps).run P w= .ok x w∧RepV ρ w Z v x:=by
 rw[VU]
 have key: ∀us,fn.results.toList.mapM (st.resU T)=some us→ ∃xs:List Value,(fn.results.mapM (HV a.tmps)).run P w= .ok xs.toArray w∧RepL (RepU ρ w Z) us xs:=fun us hus=>by
  obtain⟨xs,h1,h2⟩:=RD (P:=P) hT h hus
  simp_all[Array.mapM_eq_mapM_toList]
 unfold St.res at hv;split at hv
 ·rename_i r hr
  rw[jze]at hv
  obtain⟨u,hu,rfl⟩:=hv
  obtain⟨xs,h1,h2,h3⟩:=key [u] (by rw[hr];simp[hu])
  match xs,h2 with
  |[x],_=>exact⟨x,by simp[Sem.run_bind',h1,Lz],h3 0 u x rfl rfl⟩
 ·rename_i hne
  rw[jze]at hv
  obtain⟨us,hu,rfl⟩:=hv
  obtain⟨xs,h1,h2⟩:=key us hu
  refine⟨.tuple xs.toArray,?_,xs,rfl,h2⟩
  have hl:xs.length≠1:=by
   rw[←h2.1,(Dl hu).1]
   intro h1;obtain⟨r,hr⟩:=List.length_eq_one_iff.1 h1;exact hne r hr
  simp[Sem.run_bind',h1,hl,Lz]
structure OwnOk (w0 w:World) (ρ:AE) (Z:Addr→Prop) (o:Own) (b:Blk):Prop where
 fresh: ∀ad,o.has ad→w0.heap.size≤ad.block
 sub: ∀ad,o.has ad→Ar ρ Z ad
 cells:o.gone=false→ ∀j,j<o.room*o.sz→(∃v,w.cell? (o.at j)=some v)∧w.frozen? (o.at j)=false
 lim:o.room≤maxLen
 rep: ∀ρs:AE,(∀ad,Ar ρs Z ad→Ar ρ Z ad)→RepB ρs w Z o b
theorem Zq(h:Rel (fun _=>False) Z w0 ρ st a w){pure:Bool}{c:C}{r:RC}{v:Value}(hf:fitC st pure c r)(hc:RepC ρ w Z c v)(hp:pure=false→r.rows=[]):
  ∃o:Own,(∀b∈r.rows,OwnOk w0 w ρ Z o b)∧ ∀(ρs:AE) (k:Nat),(∀ad,Ar ρs Z ad→Ar ρ Z ad)→(pure=false→ ∀ad,Ar ρs Z ad→Z ad)→(r.rows≠[]→ρs k=some o)→RepC ρs w Z (r.imp k) v:=by
 cases r with
 |d x=>
  obtain⟨h1,h2⟩:(pure=true→c.id? =none)∧st.cD c=some x:=by cases c<;>exact hf
  refine⟨default_own,(by grind[RC.rows]),fun ρs k hs1 hs2 _=> ?_⟩
  cases pure with
  |false=>
   have:=EP h (fun _=>true) 4 c v x hc h2
   refine RepD.keep (Keep.mono fun ad ho=> ?_) this
   exact .inl (hs2 rfl ad ho)
  |true=>
   have hid:=h1 rfl;cases c with
   |d y=>simp[St.cD,toD]at h2;subst h2;exact RepD.keep (Keep.mono hs1) hc
   |nl=>simp[St.cD,toD]at h2;subst h2;cases (show v=_ from hc);exact .snil
   |bad=>simp[St.cD,toD]at h2
   |sl=>cases hid
   |ptr=>cases hid
   |mp=>cases hid
 |own sz m cs=>
  cases c with
  |sl i off n=>
   cases off with
   |succ=>exact hf.elim
   |zero=>
    obtain⟨rfl,hlk,hlen⟩:=hf
    obtain⟨o,ho,hroom,hcase⟩:=hc
    obtain⟨o',ho',hb⟩:=h.heap.rep i _ hlk
    obtain rfl:o'=o:=(by grind)
    refine⟨o',fun b hb'=> ?_,fun ρs k hs1 hs2 hk=> ?_⟩
    ·simp only[RC.rows,List.mem_singleton]at hb';subst hb';exact⟨fun ad hh=>(h.mine i o' ad ho hh).resolve_left (fun h=>h),fun ad hh=> .inr ⟨i,o',ho,hh⟩,h.heap.owns.cells i o' ho,h.heap.owns.lim i o' ho,fun ρs hs=>by
      obtain⟨q1,q2,q3,q4,q5⟩:=hb
      exact⟨q1,q2,q3,q4,fun j x hx=>by obtain⟨u,hu,hd⟩:=q5 j x hx;exact⟨u,hu,hd.keep (Keep.mono hs)⟩⟩⟩
    ·exact⟨o',hk (by simp[RC.rows]),hroom,hcase⟩
  |nl=>
   obtain⟨rfl,rfl⟩:=hf
   refine⟨{ g:=0,o:=0,sz:=sz,room:=0,app:=true,nil:=true },fun b hb'=> ?_,fun ρs k hs1 hs2 hk=> ?_⟩
   ·simp only[RC.rows,List.mem_singleton]at hb';subst hb';exact⟨fun ad hh=>(by cases hh.1),fun ad hh=>(by cases hh.1),(by simp),by simp[maxLen],fun ρs hs=>⟨rfl,rfl,by simp,(by simp),(by simp)⟩⟩
   ·exact⟨_,hk (by simp[RC.rows]),by simp,.inl ⟨rfl,hc,rfl,rfl⟩⟩
  |d=>exact hf.elim
  |mp=>exact hf.elim
  |ptr=>exact hf.elim
  |bad=>exact hf.elim
where default_own:Own:={ g:=0,o:=0,sz:=0,room:=0,app:=false,nil:=true }
structure SOk (ρ:AE) (Z:Addr→Prop) (ρs:AE) (pure:Bool):Prop where
 sub: ∀ad,Ar ρs Z ad→Ar ρ Z ad
 none:pure=false→ ∀ad,Ar ρs Z ad→Z ad
def Fits(w0 w:World)(ρ:AE)(Z:Addr→Prop)(pure:Bool)(rows:List Blk)(rep:AE→Nat→Prop):Prop:=
 ∃o:Own,(∀b∈rows,OwnOk w0 w ρ Z o b)∧ ∀(ρs:AE) (k:Nat),SOk ρ Z ρs pure→(rows≠[]→ρs k=some o)→rep ρs k
theorem Fits.and{pure:Bool}{r1 r2:List Blk}{p1 p2:AE→Nat→Prop}(h1:Fits w0 w ρ Z pure r1 p1)(h2:Fits w0 w ρ Z pure r2 p2)(hl:(r1++r2).length≤1):Fits w0 w ρ Z pure (r1++r2) fun ρs k=>p1 ρs k∧p2 ρs k:=by
 obtain⟨o1,a1,b1⟩:=h1
 obtain⟨o2,a2,b2⟩:=h2
 cases r1 with
 |nil=>exact⟨o2,a2,(by grind)⟩
 |cons x r1=>
  have:r2=[]:=by
   simp_all
  subst this;simp only[List.append_nil]at*;exact⟨o1,a1,(by grind)⟩
theorem M2{α β:Type}{pure:Bool}{fit:α→β→Prop}{rows:β→List Blk}{rep:α→Value→Prop}{imp:Nat→β→α}{repS:AE→α→Value→Prop}
  (one: ∀(x:α) (y:β) (v:Value),fit x y→rep x v→(rows y).length≤1→(pure=false→rows y=[])→Fits w0 w ρ Z pure (rows y) fun ρs k=>repS ρs (imp k y) v):
  ∀(xs:List α) (ys:List β) (vs:List Value),fitL fit xs ys→RepL rep xs vs→(ys.flatMap rows).length≤1→(pure=false→ys.flatMap rows=[])→
   Fits w0 w ρ Z pure (ys.flatMap rows) fun ρs k=>RepL (repS ρs) (ys.map (imp k)) vs
 |[],[],vs,_,h,_,_=>⟨{ g:=0,o:=0,sz:=0,room:=0,app:=false,nil:=true },(by simp),fun ρs k _ _=>⟨by simpa using h.1,(by simp)⟩⟩
 |[],_::_,_,hf,_,_,_=>hf.elim
 |_::_,[],_,hf,_,_,_=>hf.elim
 |x::xs,y::ys,[],hf,h,_,_=>by have:=h.1;simp at this
 |x::xs,y::ys,v::vs,hf,h,hl,hp=>by
  obtain⟨hf1,hf2⟩:=hf
  simp only[List.flatMap_cons]at hl hp ⊢;have l1:(rows y).length≤1:=by simp at hl;omega
  have l2:(ys.flatMap rows).length≤1:=by grind
  have p1:pure=false→rows y=[]:=(by simp_all)
  have p2:pure=false→ys.flatMap rows=[]:=(by grind)
  have a1:=one x y v hf1 (h.2 0 x v rfl rfl) l1 p1;have a2:=M2 one xs ys vs hf2 ⟨by have:=h.1;simpa using this,fun j q u hq hu=>h.2 (j+1) q u (by simpa using hq) (by simpa using hu)⟩ l2 p2
  obtain⟨o,b1,b2⟩:=a1.and a2 hl
  refine⟨o,b1,fun ρs k hs hk=> ?_⟩
  obtain⟨c1,c2,c3⟩:=b2 ρs k hs hk
  refine⟨by simpa using c2,fun j q u hq hu=> ?_⟩
  cases j with
  |zero=>simp at hq hu;subst hq;subst hu;exact c1
  |succ j=>exact c3 j q u (by simpa using hq) (by simpa using hu)
theorem N8(h:Rel (fun _=>False) Z w0 ρ st a w){pure:Bool}{c:C}{r:RC}{v:Value}(hf:fitC st pure c r)(hc:RepC ρ w Z c v)(hp:pure=false→r.rows=[]):
  Fits w0 w ρ Z pure r.rows fun ρs k=>RepC ρs w Z (r.imp k) v:=by
 obtain⟨o,h1,h2⟩:=Zq h hf hc hp
 exact⟨o,h1,fun ρs k hs hk=>h2 ρs k hs.sub hs.none hk⟩
theorem Rn(h:Rel (fun _=>False) Z w0 ρ st a w){pure:Bool}{u:U}{r:RU}{v:Value}(hf:fitU st pure u r)(hc:RepU ρ w Z u v)(hl:r.rows.length≤1)(hp:pure=false→r.rows=[]):
  Fits w0 w ρ Z pure r.rows fun ρs k=>RepU ρs w Z (r.imp k) v:=by
 cases u with
 |c x=>cases r with
  |c y=>exact N8 h hf hc hp
  |agg=>exact hf.elim
 |agg cs=>cases r with
  |c=>exact hf.elim
  |agg ds=>
   obtain⟨vs,rfl,hvs⟩:=hc
   obtain⟨o,h1,h2⟩:=M2 (pure:=pure) (fit:=fitC st pure) (rep:=RepC ρ w Z) (rows:=RC.rows) (repS:=fun ρs=>RepC ρs w Z) (imp:=RC.imp) (fun x y v hf hc _ hp=>N8 h hf hc hp) cs ds vs hf hvs hl hp
   exact⟨o,h1,fun ρs k hs hk=>⟨vs,rfl,h2 ρs k hs hk⟩⟩
 |clo f cs=>cases r<;>exact hf.elim
theorem jcm(h:Rel (fun _=>False) Z w0 ρ st a w){pure:Bool}{u:V}{r:R}{v:Value}(hf:fitV st pure u r)(hc:RepV ρ w Z u v)(hl:r.rows.length≤1)(hp:pure=false→r.rows=[]):
  Fits w0 w ρ Z pure r.rows fun ρs k=>RepV ρs w Z (r.imp k) v:=by
 cases u with
 |u x=>cases r with
  |u y=>exact Rn h hf hc hl hp
  |tup=>exact hf.elim
 |tup xs=>cases r with
  |u=>exact hf.elim
  |tup ys=>
   obtain⟨vs,rfl,hvs⟩:=hc
   obtain⟨o,h1,h2⟩:=M2 (pure:=pure) (fit:=fitU st pure) (rep:=RepU ρ w Z) (rows:=RU.rows) (repS:=fun ρs=>RepU ρs w Z) (imp:=RU.imp) (fun x y v hf hc hl hp=>Rn h hf hc hl hp) xs ys vs hf hvs hl hp
   exact⟨o,h1,fun ρs k hs hk=>⟨vs,rfl,h2 ρs k hs hk⟩⟩
 |tr x ys=>cases r<;>exact hf.elim
theorem Ts(h:Rel (fun _=>False) Z w0 ρ st a w){u:V}{r:R}{v:Value}(hl:r.rows.length≤1)(hf:fitV st (!r.rows.isEmpty) u r)(hc:RepV ρ w Z u v):Hb w0 w Z r v:=by
 obtain⟨o,h1,h2⟩:=jcm h hf hc hl (by simp)
 refine⟨hl,?_⟩
 cases hr:r.rows with
 |nil=>
  rw[hr]at h2
  refine⟨{ g:=0,o:=0,sz:=0,room:=0,app:=false,nil:=true },fun ad hh=>(by cases hh.1),fun k=> ?_⟩
  have hout: ∀(o':Own) ad,Ar (B3 k [] o') Z ad→Z ad:=fun o' ad ho=>by
   rcases ho with hz|⟨j,oj,hj,_⟩
   ·exact hz
   ·cases hj
  refine⟨h2 _ k ⟨fun ad ho=> .inl (hout _ ad ho),(by grind)⟩ (by simp),⟨⟨fun i o' hi=>(by cases hi),fun i i' o1 o2 hi=>(by cases hi),fun i o' hi=>(by cases hi)⟩,fun i b hb=>(by cases hb)⟩⟩
 |cons b rest=>
  have hrest:rest=[]:=by simp_all
  subst hrest;rw[hr]at h1 h2;have ho:=h1 b (by simp)
  refine⟨o,ho.fresh,fun k=> ?_⟩
  have hs: ∀i o',B3 k [b] o i=some o'→i=k∧o'=o:=fun i o' hi=>by
   simp only[B3]at hi
   grind
  have hsub: ∀ad,Ar (B3 k [b] o) Z ad→Ar ρ Z ad:=fun ad hh=>by
   rcases hh with hz|⟨j,oj,hj,hoj⟩
   ·exact .inl hz
   ·obtain⟨rfl,rfl⟩:=hs j oj hj;exact ho.sub ad hoj
  refine⟨h2 _ k ⟨hsub,(by simp)⟩ (by grind[B3]),⟨⟨fun i o' hi=> ?_,fun i i' o1 o2 hi hi' hne=> ?_,fun i o' hi=> ?_⟩,fun i b' hb'=> ?_⟩⟩
  ·obtain⟨rfl,rfl⟩:=hs i o' hi;exact ho.cells
  ·obtain⟨rfl,rfl⟩:=hs i o1 hi;obtain⟨rfl,rfl⟩:=hs i' o2 hi';exact absurd rfl hne
  ·obtain⟨rfl,rfl⟩:=hs i o' hi;exact ho.lim
  ·by_cases e:i=k
   ·subst e;rw[Bt]at hb';cases hb';exact⟨o,by simp[B3],ho.rep _ hsub⟩
   ·rw[BD e]at hb'
    cases hb'
theorem Eg{w:World}{Z:Addr→Prop}: ∀(as:List A) (vals:List Value) (k:Nat),RepL (A.rep w Z) as vals→ ∀(t:Nat) (v:V),lk t (CJ k as)=some v→k≤t∧ ∃x,vals[t - k]? =some x∧RepV (fun _=>none) w Z v x
 |[],_,k,_,t,v,h=>by cases h
 |A0::as,[],k,hr,t,v,h=>by have:=hr.1;simp at this
 |A0::as,x::vals,k,hr,t,v,h=>by
  have hout: ∀ad,Ar (fun _=>none) Z ad→Z ad:=fun ad ho=>by
   rcases ho with hz|⟨j,oj,hj,_⟩
   ·exact hz
   ·cases hj
  simp only[CJ,lk]at h;split at h
  ·rename_i e
   subst e;cases h;refine⟨AO _,x,by simp,?_⟩
   have h0:=hr.2 0 A0 x rfl rfl;cases A0 with
   |c y=>exact RepD.keep (Keep.mono hout) h0
   |agg cs=>
    obtain⟨vs,rfl,hvs⟩:=h0
    exact⟨vs,rfl,hvs.imp C.d fun y u _ hu=>RepD.keep (Keep.mono hout) hu⟩
  ·obtain⟨h1,y,hy,hr'⟩:=Eg as vals (k+1) ⟨by have:=hr.1;simpa using this,fun j q u hq hu=>hr.2 (j+1) q u (by simpa using hq) (by simpa using hu)⟩ t v h
   grind
theorem GU: ∀(as:List A) (k t:Nat) (x:Value) (r:List (List A)),lk t (CJ k as)≠some (.tr x r)
 |[],_,_,_,_,h=>by cases h
 |A0::as,k,t,x,r,h=>by
  simp only[CJ,lk]at h;split at h
  ·cases A0<;>cases h
  ·exact GU as (k+1) t x r h
theorem Am(hT:A5 P T)(hm:P.follows .mixedOrders=true){f:FuncId}{fn:Func}{c:Code}{as:List A}{res:R}(hf:P.funcs[f]? =some fn)(hb:fn.body=some c)
  (hname : (fn.name == "runtime.NumGoroutine") = false) (hn : as.length ≤ fn.ntmps) (hok : B6 fn.ntmps [] c = true) (hw : Bl P T c (St.init as) (HU T fn.results.toList res)) : CallsF P f as res := by
 refine⟨⟨fn,hf,by rw[hb];rfl,hname⟩,fun w Z vals hZ hvals=> ?_⟩
 have hlen:vals.length=as.length:=hvals.1.symm
 refine calls_of_wp hf hb ?_;have hsz:(vals.toArray++Array.replicate (fn.ntmps - vals.toArray.size) undef).size=fn.ntmps:=by simp;omega
 have hrel:Rel (fun _=>False) Z w (fun _=>none) (St.init as) { tmps:=vals.toArray++Array.replicate (fn.ntmps - vals.toArray.size) undef,defers:=[] } w:=
  {fr:=⟨rfl,DR.refl _,rfl,rfl,AO _,fun a v _ h=>h,fun _ _ _=>rfl,fun _ _ _=>rfl⟩
   heap:=⟨⟨(by simp),(by simp),(by simp)⟩,fun i b hb=>(by cases hb)⟩
   mine:=(by simp)
   out:=(by grind)
   mz:=fun ad h=>h.elim
   tmps:=fun t v hv=>by
    obtain⟨_,x,hx,hr⟩:=Eg as vals 0 hvals t v hv
    have ht:t<vals.length:=by grind
    simp only[Nat.sub_zero]at hx;have:(vals.toArray++Array.replicate (fn.ntmps - vals.toArray.size) undef).getD t undef=x:=by
     simp_all[Cn,Array.getElem?_append_left]
    grind
   defers:=rfl
   mps:=fun i o hi=>by cases hi }
 have hc:=Dr (X:=⟨fun _=>False,Z,w,fn.ntmps,[],fun _=>undef,none,fun _=>False,fun _=>False⟩) hT (by simp) hm c (HU T fn.results.toList res) _ w hok
  ⟨_,_,_,_,_,⟨(by simp),(by simp),hrel.fr.mono fun _ h=> .inl h,fun _ h=>h,fun _ h=> .inl h,fun x r hh=>absurd hh (GU as 0 YS x r)⟩,hrel,hsz,hw⟩
 refine hc.mono' fun e a' w' hg=> ?_
 obtain⟨M1,Z1,w1,ρ,st,hL,h1,h2,hend,v,hv,hl,hfit⟩:=hg
 obtain⟨rfl,rfl,rfl⟩:=hL.plain rfl
 obtain⟨x,hx,hrx⟩:=GT (P:=P) hT h1 hv
 have hres:=Ts h1 hl hfit hrx;have hbel:Ext w1 w':=⟨⟨h1.fr.os,h1.fr.tape,h1.fr.output,h1.fr.size,fun k hk=>h1.fr.blk k hk (fun _ _ h=>h)⟩,h1.fr.drawn⟩
 rcases hend with rfl|rfl
 ·exact⟨h1.defers,x,hx,x,rfl,hbel,hres⟩
 ·exact⟨h1.defers,x,hx,x,rfl,hbel,hres⟩
end
end Go.Va
namespace Go.Va
open Go.RowKit
variable [Gv]
section
variable {P:Program} {T:AH}
theorem RP{α:Type}{i:Nat}{b:α}: ∀{l:List (Nat×α)},lk i l=some b→i∈l.map (·.1)
 |[],h=>by cases h
 |(j,v)::r,h=>by
  unfold lk at h;split at h
  ·grind
  ·simp[RP h]
theorem UN{α:Type}{i:Nat}: ∀{l:List (Nat×α)},i∈l.map (·.1)→(lk i l).isSome=true
 |[],h=>by simp at h
 |(j,v)::r,h=>by
  unfold lk;split
  ·rfl
  ·rename_i e
   simp only[List.map_cons,jzn]at h;exact UN (by grind)
def BK:Nat:=2000000
def St.initA(n sz:Nat)(cs:List D)(as:List A):St:={ t:=(0,vC (.sl BK 0 n))::CJ 1 as,h:=[(BK,.row sz cs true)] }
def Sz(T:AH)(rs:List ResultVar)(sz m:Nat)(cs:List D)(e:Exit)(st:St):Prop:=(e= .ret∨e= .normal)∧ ∃j,st.res T rs=some (vC (.sl j 0 m))∧lk j st.h=some (.row sz cs true)
theorem Rc(hT:A5 P T)(hm:P.follows .mixedOrders=true){f:FuncId}{fn:Func}{c:Code}{sz n m:Nat}{cs cs':List D}{as:List A}(hf:P.funcs[f]? =some fn)(hb:fn.body=some c)
  (hname : (fn.name == "runtime.NumGoroutine") = false) (hn : as.length + 1 ≤ fn.ntmps) (hok : B6 fn.ntmps [] c = true) (hw : Bl P T c (St.initA n sz cs as) (Sz T fn.results.toList sz m cs')) : CallsA P f sz n cs as m cs' := by
 refine⟨⟨fn,hf,by rw[hb];rfl,hname⟩,fun w Z ρ0 k v0 vals hZ hh hcz hone hv0 hvals=> ?_⟩
 have hlen:vals.length=as.length:=hvals.1.symm
 refine calls_of_wp hf hb ?_;generalize htm:((v0::vals).toArray++Array.replicate (fn.ntmps - (v0::vals).toArray.size) undef)=tm;have hsz:tm.size=fn.ntmps:=by grind
 have hg: ∀t,t<vals.length+1→tm.getD t undef=(v0::vals).getD t undef:=fun t ht=>by
  rw[←htm,Cn,Array.getElem?_append_left (by simp;omega)]
  simp
 let ρB:AE:=fun i=>if i=BK then ρ0 k else none
 have eB: ∀i o,ρB i=some o→i=BK∧ρ0 k=some o:=(by grind)
 have eB': ∀o,ρ0 k=some o→ρB BK=some o:=(by grind)
 have hcell: ∀ad,Cells ρB ad↔Cells ρ0 ad:=fun ad=>⟨fun⟨i,o,hi,ho⟩=>⟨k,o,(eB i o hi).2,ho⟩,fun⟨i,o,hi,ho⟩=>⟨BK,o,(by grind),ho⟩⟩
 have hout: ∀ad,Ar ρB Z ad→Ar ρ0 Z ad:=fun ad h=>h.imp id fun h=>(hcell ad).1 h
 have hout': ∀ad,Ar ρ0 Z ad→Ar ρB Z ad:=fun ad h=>h.imp id fun h=>(hcell ad).2 h
 have hrel:Rel (Cells ρ0) Z w ρB (St.initA n sz cs as) { tmps:=tm,defers:=[] } w:=
  {fr:=⟨rfl,DR.refl _,rfl,rfl,AO _,fun a v _ h=>h,fun _ _ _=>rfl,fun _ _ _=>rfl⟩
   heap:=⟨⟨fun i o hi=>hh.owns.cells k o (eB i o hi).2,(by grind),fun i o hi=>hh.owns.lim k o (eB i o hi).2⟩,fun i b hib=>by
    by_cases e:i=BK
    ·subst e;simp only[St.initA]at hib;rw[Bt]at hib;cases hib;obtain⟨o,ho,q1,q2,q3,q4,q5⟩:=hh.rep k _ (Bt _ _ _);exact⟨o,eB' o ho,q1,q2,q3,q4,fun j x hx=>by obtain⟨u,hu,hd⟩:=q5 j x hx;exact⟨u,hu,hd.keep (Keep.mono hout)⟩⟩
    ·simp only[St.initA]at hib;rw[BD e]at hib;cases hib⟩
   mine:=fun i o ad hi ho=> .inl ((hcell ad).1 ⟨i,o,hi,ho⟩)
   out:=hZ
   mz:=hcz
   tmps:=fun t v hv=>by
    simp only[St.initA,lk]at hv;split at hv
    ·rename_i e
     subst e;cases hv;rw[hg 0 (by omega)]
     obtain⟨o,ho,r⟩:=hv0
     exact⟨o,eB' o ho,r⟩
    ·obtain⟨hle,y,hy,hr⟩:=Eg as vals 1 hvals t v hv
     have hlt:=(jzg.1 hy).1;rw[hg t (by omega)]
     have:(v0::vals).getD t undef=y:=by
      grind
     rw[this]
     have key: ∀(u:V) (x:Value),RepV (fun _=>none) w (Ar ρ0 Z) u x→(∃A0:A,u=A0.toV)→RepV ρB w Z u x:=fun u x hu ⟨A0,he⟩=>by
      subst he;have hk:Keep w w (Ar (fun _=>none) (Ar ρ0 Z)) (Ar ρB Z):=Keep.mono fun ad h=> .inl (hout ad h)
      cases A0 with
      |c d=>exact RepD.keep hk hu
      |agg ds=>obtain⟨vs,hvs,hl,hr⟩:=hu;exact⟨vs,hvs,hl,fun j z y hz hy=>by
        have:=hr j z y hz hy
        simp only[Bf,jze]at hz;obtain⟨q,_,rfl⟩:=hz;exact RepD.keep hk this⟩
     refine key v y hr ?_;have toV: ∀(as:List A) (k:Nat),lk t (CJ k as)=some v→ ∃A0:A,v=A0.toV:=by
      intro as
      induction as with
      |nil=>intro k h;cases h
      |cons A0 as ih=>
       intro k h;simp only[CJ,lk]at h
       grind
     exact toV as 1 hv
   defers:=rfl
   mps:=fun i o hi hm=>by
    obtain⟨o',ho',hr⟩:=hh.rep k _ (Bt _ _ _)
    obtain rfl:o'=o:=(by grind)
    exact absurd hm (hr.nomp (by simp)) }
 have hc:=Dr (X:=⟨Cells ρ0,Z,w,fn.ntmps,[],fun _=>undef,none,fun _=>False,fun _=>False⟩) hT (by simp) hm c (Sz T fn.results.toList sz m cs') _ w hok
  ⟨_,_,_,_,_,⟨(by simp),(by simp),hrel.fr.mono fun _ h=> .inl h,fun _ h=>h,fun _ h=> .inl h,(by grind[St.initA,lk,absurd,GU,YS])⟩,hrel,hsz,hw⟩
 refine hc.mono' fun e a' w' hg=> ?_
 obtain⟨M1,Z1,w1,ρ1,st,hL,h1,h2,hend,j,hres,hlk⟩:=hg
 obtain⟨rfl,rfl,rfl⟩:=hL.plain rfl
 obtain⟨x,hx,hrx⟩:=GT (P:=P) hT h1 hres
 obtain⟨oj,hoj,hb'⟩:=h1.heap.rep j _ hlk
 have hrx:RepC ρ1 w' Z1 (.sl j 0 m) x:=hrx
 let ρ2:AE:=fun i=>if i=k then ρ1 j else none
 have e2: ∀i o,ρ2 i=some o→i=k∧ρ1 j=some o:=(by grind)
 have hsub: ∀ad,Ar ρ2 Z1 ad→Ar ρ1 Z1 ad:=fun ad h=>h.imp id (by grind)
 have hpost:Ending.returned x= .returned x∧ ∃ρ',Fr (Cells ρ0) w1 w'∧Heap ρ' w' Z1 [(k,.row sz cs' true)]∧(∀i o,ρ' i=some o→i=k)∧(∀ad,Cells ρ' ad→Cells ρ0 ad∨w1.heap.size≤ad.block)∧RepC ρ' w' Z1 (.sl k 0 m) x:=by
  refine⟨rfl,ρ2,h1.fr,⟨⟨fun i o hi=>h1.heap.owns.cells j o (e2 i o hi).2,(by grind),fun i o hi=>h1.heap.owns.lim j o (e2 i o hi).2⟩,fun i b hib=> ?_⟩,(by grind),fun ad ⟨i,o,hi,ho⟩=>h1.mine j o ad (e2 i o hi).2 ho,?_⟩
  ·by_cases e:i=k
   ·subst e;rw[Bt]at hib;cases hib;obtain⟨q1,q2,q3,q4,q5⟩:=hb';exact⟨oj,by simp[ρ2,hoj],q1,q2,q3,q4,fun t y hy=>by obtain⟨u,hu,hd⟩:=q5 t y hy;exact⟨u,hu,hd.keep (Keep.mono hsub)⟩⟩
   ·rw[BD e]at hib
    cases hib
  ·obtain⟨o,ho,r⟩:=hrx
   exact⟨o,by simp[ρ2,ho],r⟩
 rcases hend with rfl|rfl
 ·exact⟨h1.defers,_,hx,_,hpost⟩
 ·exact⟨h1.defers,_,hx,_,hpost⟩
end
end Go.Va
