/- a part of the proof -/
import Derived.Test.YtkajmpgbnbikiaaGreatDoorMaa
import Derived.Laws.Cells
import Derived.Laws.Entries
import Derived.Laws.NewBlocks
set_option linter.all false
namespace Go.Va
open Go.RowKit
section lists
variable {α β:Type}
theorem HB(k:Nat): ∀l:List (Nat×α),lk k (rm k l)=none
 |[]=>rfl
 |(j,v)::r=>by
  unfold rm;by_cases h:j=k
  ·rw[if_pos h];exact HB k r
  ·rw[if_neg h];unfold lk;rw[if_neg h];exact HB k r
theorem Bt{k j:Nat}(h:j≠k): ∀l:List (Nat×α),lk j (rm k l)=lk j l
 |[]=>rfl
 |(i,v)::r=>by
  unfold rm;by_cases hi:i=k
  ·rw[if_pos hi,Bt h r];simp only[lk];rw[if_neg (by omega)]
  ·rw[if_neg hi];unfold lk;by_cases hj:i=j
   ·rw[if_pos hj,if_pos hj]
   ·rw[if_neg hj,if_neg hj];exact Bt h r
theorem GH{k j:Nat}{l:List (Nat×α)}{v:α}(h:lk j (rm k l)=some v):j≠k∧lk j l=some v:=by
 by_cases e:j=k
 ·subst e;rw[HB]at h;cases h
 ·exact⟨e,by rwa [Bt e]at h⟩
theorem BQ(f:α→β)(k:Nat): ∀l:List (Nat×α),lk k (l.map fun e=>(e.1,f e.2))=(lk k l).map f
 |[]=>rfl
 |(j,v)::r=>by
  simp only[List.map_cons,lk];by_cases h:j=k
  ·rw[if_pos h,if_pos h];rfl
  ·rw[if_neg h,if_neg h];exact BQ f k r
theorem AR(k:Nat)(v:α)(l:List (Nat×α)):lk k ((k,v)::l)=some v:=by unfold lk;rw[if_pos rfl]
theorem AW{k j:Nat}(h:j≠k)(v:α)(l:List (Nat×α)):lk j ((k,v)::l)=lk j l:=by simp only[lk];rw[if_neg (fun e=>h e.symm)]
end lists
theorem E2(g o n:Nat):(⟨g,o,none⟩:Addr).add n=⟨g,o+n,none⟩:=by unfold Addr.add;split<;>simp_all
theorem I0(a:Addr)(n:Nat)(h:a.spot=none):a.add n=⟨a.block,a.off+n,none⟩:=by
 obtain⟨b,o,s⟩:=a
 simp at h;subst h;exact E2 b o n
def Keep(w w':World)(Z Z':Addr→Prop):Prop:= ∀(a:Addr) (x:Value),¬Z a→w.cell? a=some x→w'.cell? a=some x∧ ¬Z' a
theorem RepD.keep{w w':World}{Z Z':Addr→Prop}(hk:Keep w w' Z Z'){d:D}{v:Value}(h:RepD w Z d v):RepD w' Z' d v:=by
 induction h with
 |int k n=>exact .int k n
 |bool b=>exact .bool b
 |str s=>exact .str s
 |slice n cs a c vs hs hn hc h1 h2 h3 ih=>
  exact .slice n cs a c vs hs hn hc (fun j x hx=>(hk _ _ (h2 j x hx) (h1 j x hx)).1) (fun j x hx=>(hk _ _ (h2 j x hx) (h1 j x hx)).2) ih
 |snil=>exact .snil
 |ref cs a vs hs h1 h2 h3 ih=>
  exact .ref cs a vs hs (fun j x hx=>(hk _ _ (h2 j x hx) (h1 j x hx)).1) (fun j x hx=>(hk _ _ (h2 j x hx) (h1 j x hx)).2) ih
 |fn f caps vs hl h3 ih=>exact .fn f caps vs hl ih
 |nilFn=>exact .nilFn
 |nilPtr=>exact .nilPtr
 |iface t cs vs hl h3 ih=>exact .iface t cs vs hl ih
 |lit x h=>exact .lit x h
 |any x h=>exact .any x h
theorem Keep.refl(w:World)(Z:Addr→Prop):Keep w w Z Z:=fun _ _ h1 h2=>⟨h2,h1⟩
theorem Keep.mono{w:World}{Z Z':Addr→Prop}(h: ∀a,Z' a→Z a):Keep w w Z Z':=fun _ _ h1 h2=>⟨h2,fun h3=>h1 (h _ h3)⟩
theorem RepD.one{w:World}{Z:Addr→Prop}{d:D}{v:Value}(h:RepD w Z d v):one v:=by cases h<;>first|rfl|assumption
theorem RepC.one{ρ:As}{w:World}{Z:Addr→Prop}{c:C}{v:Value}(h:RepC ρ w Z c v):one v:=by
 cases c with
 |d x=>exact RepD.one h
 |nl=>cases (show v=_ from h);rfl
 |sl i off n=>
  obtain⟨o,_,_,⟨_,rfl,_⟩|⟨_,a,c,rfl,_⟩⟩:=h<;>rfl
 |ptr i off=>obtain⟨o,_,_,rfl⟩:=h;rfl
 |bad=>exact h
theorem RepC.keep{ρ ρ':As}{w w':World}{Z:Addr→Prop}(hk:Keep w w' (Aj ρ Z) (Aj ρ' Z)){c:C}{v:Value}(hid: ∀i,c.id? =some i→ρ' i=ρ i)(h:RepC ρ w Z c v):RepC ρ' w' Z c v:=by
 cases c with
 |d x=>exact RepD.keep hk h
 |nl=>exact h
 |sl i off n=>obtain⟨o,ho,r⟩:=h;exact⟨o,(hid i rfl).trans ho,r⟩
 |ptr i off=>obtain⟨o,ho,r⟩:=h;exact⟨o,(hid i rfl).trans ho,r⟩
 |bad=>exact h
def Ib:Nat→C→C:=fun _ c=>c
def Cq(ρ ρ':As)(w w':World)(Z:Addr→Prop)(g:Nat→C→C):Prop:= ∀(c:C) (v:Value),RepC ρ w Z c v→RepC ρ' w' Z (c.on g) v
theorem RepL.imp{α β:Type}{r:α→Value→Prop}{s:β→Value→Prop}{xs:List α}{vs:List Value}(f:α→β)(h:RepL r xs vs)(hi: ∀x v,x∈xs→r x v→s (f x) v):RepL s (xs.map f) vs:=by
 refine⟨by simpa using h.1,fun j x v hx hv=> ?_⟩
 rw[Bi]at hx
 cases hy:xs[j]? with
 |none=>rw[hy]at hx;cases hx
 |some y=>
  rw[hy]at hx
  cases hx;exact hi y v (BB hy) (h.2 j y v hy hv)
theorem RepU.turn{ρ ρ':As}{w w':World}{Z:Addr→Prop}{g:Nat→C→C}(hg:Cq ρ ρ' w w' Z g){u:U}{v:Value}(h:RepU ρ w Z u v):RepU ρ' w' Z (u.on g) v:=by
 cases u with
 |c x=>exact hg _ _ h
 |agg cs=>obtain⟨vs,rfl,hl⟩:=h;exact⟨vs,rfl,hl.imp _ fun x v _=>hg x v⟩
 |clo f cs=>obtain⟨vs,rfl,hl⟩:=h;exact⟨vs,rfl,hl.imp _ fun x v _=>hg x v⟩
theorem RepV.turn{ρ ρ':As}{w w':World}{Z:Addr→Prop}{g:Nat→C→C}(hg:Cq ρ ρ' w w' Z g){u:V}{v:Value}(h:RepV ρ w Z u v):RepV ρ' w' Z (u.on g) v:=by
 cases u with
 |u x=>exact RepU.turn hg h
 |tup xs=>obtain⟨vs,rfl,hl⟩:=h;exact⟨vs,rfl,hl.imp _ fun x v _=>RepU.turn hg⟩
 |tr x ys=>trivial
theorem RepB.turn{ρ ρ':As}{w w':World}{Z:Addr→Prop}{g:Nat→C→C}(hg:Cq ρ ρ' w w' Z g)(hk:Keep w w' (Aj ρ Z) (Aj ρ' Z)){o:Own}{b:Blk}(h:RepB ρ w Z o b)
  (hc:o.gone=false→ ∀j,j<o.room*o.sz→w'.cell? (o.at j)=w.cell? (o.at j)):RepB ρ' w' Z o (b.on g):=by
 cases b with
 |row sz cs app=>
  obtain⟨h1,h2,h3,h4,h5⟩:=h
  refine⟨h1,h2,h3,h4,fun j x hx=> ?_⟩
  obtain⟨v,hv,hd⟩:=h5 j x hx
  have hj:j<cs.length:=(jzg.1 hx).1;have hn:o.nil=false:=by
   cases hn:o.nil with
   |false=>rfl
   |true=>rw[h4.1 hn]at h3;omega
  exact⟨v,(hc (h4.2.trans hn) j (by rw[h1];omega)).trans hv,hd.keep hk⟩
 |box cs=>
  obtain⟨h1,h2,h3,h4⟩:=h
  refine⟨h1,by rw[h2];simp,h3,fun j c hc'=> ?_⟩
  rw[Bi]at hc'
  cases hy:cs[j]? with
  |none=>rw[hy]at hc';cases hc'
  |some y=>
   rw[hy]at hc'
   cases hc'
   obtain⟨v,hv,h1v,hr⟩:=h4 j y hy
   have hj:j<cs.length:=(jzg.1 hy).1;exact⟨v,(hc h3.2 j (by rw[h1,h2];omega)).trans hv,h1v,hg _ _ hr⟩
 |fbox f cs=>
  obtain⟨h1,h2,h3,v,hv,hr⟩:=h
  exact⟨h1,h2,h3,v,(hc h3.2 0 (by rw[h1,h2];omega)).trans hv,RepU.turn (u:= .clo f cs) hg hr⟩
theorem RepB.thaw{ρ:As}{w:World}{Z:Addr→Prop}{o:Own}{b:Blk}(hb:RepB ρ w Z o b)(hn:o.nil=false):o.gone=false:=by
 cases b with
 |row sz cs app=>exact hb.2.2.2.1.2.trans hn
 |box cs=>exact hb.2.2.1.2
 |fbox f cs=>exact hb.2.2.1.2
def upd(ρ:As)(i:Nat)(o:Option Own):As:=fun j=>if j=i then o else ρ j
theorem CN(ρ:As)(i:Nat)(o:Option Own):upd ρ i o i=o:=by simp[upd]
theorem BU(ρ:As){i j:Nat}(o:Option Own)(h:j≠i):upd ρ i o j=ρ j:=by simp[upd,h]
theorem Hr{ρ:As}{i j:Nat}{o:Own}(h:upd ρ i none j=some o):j≠i∧ρ j=some o:=by
 by_cases e:j=i
 ·subst e;rw[CN]at h;cases h
 ·exact⟨e,by rwa [BU ρ none e]at h⟩
theorem Qf{ρ:As}{Z:Addr→Prop}{i:Nat}{a:Addr}(h:Aj (upd ρ i none) Z a):Aj ρ Z a:=by
 rcases h with h|⟨j,o,hj,ho⟩
 ·exact .inl h
 ·exact .inr ⟨j,o,(Hr hj).2,ho⟩
theorem Owns.erase{ρ:As}{w:World}(h:Owns ρ w)(i:Nat):Owns (upd ρ i none) w:=
 ⟨fun j o hj=>h.cells j o (Hr hj).2,fun j j' o o' hj hj'=>h.apart j j' o o' (Hr hj).2 (Hr hj').2,fun j o hj=>h.lim j o (Hr hj).2⟩
theorem Rx(ρ:As)(w:World)(Z:Addr→Prop)(i:Nat):Cq ρ (upd ρ i none) w w Z (AY i):=by
 intro c v h;have hk:Keep w w (Aj ρ Z) (Aj (upd ρ i none) Z):=Keep.mono fun _=>Qf
 cases c with
 |d x=>exact RepC.keep hk (fun _ h=>by cases h) h
 |nl=>exact h
 |bad=>exact h
 |sl j off n=>
  simp only[C.on,AY];split
  ·exact RepC.one h
  ·rename_i hj
   exact RepC.keep hk (fun k hk'=>by cases hk';exact BU ρ none hj) h
 |ptr j off=>
  simp only[C.on,AY];split
  ·exact RepC.one h
  ·rename_i hj
   exact RepC.keep hk (fun k hk'=>by cases hk';exact BU ρ none hj) h
theorem KE(i:Nat)(st:St):st.purge i={ st.on (AY i)with h:=rm i (st.on (AY i)).h }:=rfl
variable {M Z:Addr→Prop} {w0 w:World} {ρ:As} {st:St} {a:Act}
theorem Rel.purge(h:Rel M Z w0 ρ st a w)(i:Nat):Rel M Z w0 (upd ρ i none) (st.purge i) a w where
 fr:=h.fr
 heap:=⟨h.heap.owns.erase i,fun j b hb=>by
  rw[KE]at hb
  obtain⟨hne,hb⟩:=GH hb
  simp only[St.on]at hb;rw[BQ]at hb;cases hl:lk j st.h with
  |none=>rw[hl]at hb;cases hb
  |some b0=>
   rw[hl]at hb
   cases hb;obtain⟨o,ho,hr⟩:=h.heap.rep j b0 hl
   exact⟨o,(BU ρ none hne).trans ho,hr.turn (Rx ρ w Z i) (Keep.mono fun _=>Qf) (fun _ _ _=>rfl)⟩⟩
 mine:=fun j o ad hj=>h.mine j o ad (Hr hj).2
 out:=h.out
 mz:=h.mz
 tmps:=fun t v hv=>by
  rw[KE]at hv
  simp only[St.on]at hv;rw[BQ]at hv;cases hl:lk t st.t with
  |none=>rw[hl]at hv;cases hv
  |some v0=>
   rw[hl]at hv
   cases hv;exact(h.tmps t v0 hl).turn (Rx ρ w Z i)
 defers:=h.defers
def Own.dead(o:Own):Own:={ o with gone:=true }
theorem Own.dead_has(o:Own)(ad:Addr): ¬o.dead.has ad:=fun h=>by cases h.1
def Cm(ρ:As)(i:Nat):As:=upd ρ i ((ρ i).map Own.dead)
theorem Jh{ρ:As}{i j:Nat}{o:Own}(h:Cm ρ i j=some o): ∃o',ρ j=some o'∧((j=i∧o=o'.dead)∨(j≠i∧o=o')):=by
 unfold Cm at h;by_cases e:j=i
 ·subst e;rw[CN,jze]at h;obtain⟨o',h1,rfl⟩:=h;exact⟨o',h1,.inl ⟨rfl,rfl⟩⟩
 ·rw[BU ρ _ e]at h
  exact⟨o,h,.inr ⟨e,rfl⟩⟩
theorem Ku{ρ:As}{i j:Nat}{o:Own}(h:Cm ρ i j=some o){ad:Addr}(hh:o.has ad):j≠i∧ρ j=some o:=by
 obtain⟨o',h1,⟨_,rfl⟩|⟨h2,rfl⟩⟩:=Jh h
 ·exact absurd hh (o'.dead_has ad)
 ·exact⟨h2,h1⟩
theorem J9{ρ:As}{Z:Addr→Prop}{i:Nat}{a:Addr}(h:Aj (Cm ρ i) Z a):Aj ρ Z a:=by
 rcases h with h|⟨j,o,hj,ho⟩
 ·exact .inl h
 ·exact .inr ⟨j,o,(Ku hj ho).2,ho⟩
theorem SC(ρ:As)(w:World)(Z:Addr→Prop)(i:Nat):Cq ρ (Cm ρ i) w w Z Ib:=by
 intro c v h;have hk:Keep w w (Aj ρ Z) (Aj (Cm ρ i) Z):=Keep.mono fun _=>J9
 have hc:c.on Ib=c:=by cases c<;>rfl
 rw[hc]
 cases c with
 |d x=>exact RepD.keep hk h
 |nl=>exact h
 |bad=>exact h
 |sl j off n=>
  obtain⟨o,ho,r⟩:=h
  by_cases e:j=i
  ·subst e;exact⟨o.dead,by simp[Cm,CN,ho],r⟩
  ·exact⟨o,(BU ρ _ e).trans ho,r⟩
 |ptr j off=>
  obtain⟨o,ho,r⟩:=h
  by_cases e:j=i
  ·subst e;exact⟨o.dead,by simp[Cm,CN,ho],r⟩
  ·exact⟨o,(BU ρ _ e).trans ho,r⟩
def DJ(ρ:As)(i j:Nat):As:=fun k=>if k=i then ρ j else if k=j then none else ρ k
theorem Fv{ρ:As}{i j k:Nat}{o:Own}(h:DJ ρ i j k=some o):(k=i∧ρ j=some o)∨(k≠i∧k≠j∧ρ k=some o):=by
 unfold DJ at h;split at h
 ·exact .inl ⟨‹_›,h⟩
 ·split at h
  ·cases h
  ·exact .inr ⟨‹_›,‹_›,h⟩
theorem jc4(ρ:As)(w:World)(Z:Addr→Prop){i j:Nat}:Cq ρ (DJ ρ i j) w w Z (Do i j):=by
 have hk:Keep w w (Aj ρ Z) (Aj (DJ ρ i j) Z):=Keep.mono fun ad h=>by
  rcases h with h|⟨k,o,hk,ho⟩
  ·exact .inl h
  ·rcases Fv hk with⟨_,h1⟩|⟨_,_,h1⟩
   ·exact .inr ⟨j,o,h1,ho⟩
   ·exact .inr ⟨k,o,h1,ho⟩
 have look: ∀k o,k≠j→k≠i→ρ k=some o→DJ ρ i j k=some o:=fun k o h1 h2 h=>by simp[DJ,h1,h2,h]
 intro c v h;cases c with
 |d x=>exact RepD.keep hk h
 |nl=>exact h
 |bad=>exact h
 |sl k off n=>
  simp only[C.on,Do];by_cases e1:k=j
  ·simp only[e1,if_true,C.to];obtain⟨o,ho,r⟩:=h;exact⟨o,by simp[DJ,←e1,ho],r⟩
  ·simp only[e1,if_false];by_cases e2:k=i
   ·simp only[e2,if_true];exact RepC.one h
   ·simp only[e2,if_false];obtain⟨o,ho,r⟩:=h;exact⟨o,look k o e1 e2 ho,r⟩
 |ptr k off=>
  simp only[C.on,Do];by_cases e1:k=j
  ·simp only[e1,if_true,C.to];obtain⟨o,ho,r⟩:=h;exact⟨o,by simp[DJ,←e1,ho],r⟩
  ·simp only[e1,if_false];by_cases e2:k=i
   ·simp only[e2,if_true];exact RepC.one h
   ·simp only[e2,if_false];obtain⟨o,ho,r⟩:=h;exact⟨o,look k o e1 e2 ho,r⟩
theorem Rel.rn(h:Rel M Z w0 ρ st a w)(i j:Nat): ∃ρ',Rel M Z w0 ρ' (st.rn i j) a w:=by
 unfold St.rn;by_cases hij:i=j
 ·rw[if_pos hij];exact⟨ρ,h⟩
 rw[if_neg hij]
 cases hb:lk j st.h with
 |none=>exact⟨ρ,h⟩
 |some b=>
  have ht:=jc4 ρ w Z (i:=i) (j:=j);have hk:Keep w w (Aj ρ Z) (Aj (DJ ρ i j) Z):=Keep.mono fun ad h=>by
   rcases h with h|⟨k,o,hk,ho⟩
   ·exact .inl h
   ·rcases Fv hk with⟨_,h1⟩|⟨_,_,h1⟩
    ·exact .inr ⟨j,o,h1,ho⟩
    ·exact .inr ⟨k,o,h1,ho⟩
  refine⟨DJ ρ i j,?_⟩
  exact {
   fr:=h.fr
   heap:=⟨⟨fun k o hk'=>by
     rcases Fv hk' with⟨_,h1⟩|⟨_,_,h1⟩
     ·exact h.heap.owns.cells j o h1
     ·exact h.heap.owns.cells k o h1,
    fun k k' o o' hk1 hk2 hne=>by
     rcases Fv hk1 with⟨e1,h1⟩|⟨_,n1,h1⟩
     ·rcases Fv hk2 with⟨e2,h2⟩|⟨_,n2,h2⟩
      ·exact absurd (e1.trans e2.symm) hne
      ·exact h.heap.owns.apart j k' o o' h1 h2 (fun e=>n2 e.symm)
     ·rcases Fv hk2 with⟨e2,h2⟩|⟨_,n2,h2⟩
      ·exact h.heap.owns.apart k j o o' h1 h2 n1
      ·exact h.heap.owns.apart k k' o o' h1 h2 hne,
    fun k o hk'=>by
     rcases Fv hk' with⟨_,h1⟩|⟨_,_,h1⟩
     ·exact h.heap.owns.lim j o h1
     ·exact h.heap.owns.lim k o h1⟩,fun k b' hb'=>by
    by_cases e:k=i
    ·subst e;rw[AR]at hb';cases hb';obtain⟨o,ho,hr⟩:=h.heap.rep j b hb;exact⟨o,by simp[DJ,ho],hr.turn ht hk (fun _ _ _=>rfl)⟩
    ·rw[AW e,Bt e]at hb'
     obtain⟨hne,hb'⟩:=GH hb'
     simp only[St.on]at hb';rw[BQ,jze]at hb';obtain⟨b0,hb0,rfl⟩:=hb';obtain⟨o,ho,hr⟩:=h.heap.rep k b0 hb0;exact⟨o,by simp[DJ,e,hne,ho],hr.turn ht hk (fun _ _ _=>rfl)⟩⟩
   mine:=fun k o ad hk'=>by
    rcases Fv hk' with⟨_,h1⟩|⟨_,_,h1⟩
    ·exact h.mine j o ad h1
    ·exact h.mine k o ad h1
   out:=h.out
   mz:=h.mz
   tmps:=fun t v hv=>by
    simp only[St.on]at hv;rw[BQ,jze]at hv;obtain⟨v0,hv0,rfl⟩:=hv;exact(h.tmps t v0 hv0).turn ht
   defers:=h.defers }
theorem Rel.rns: ∀(rs:List (Nat×Nat)) {ρ:As} {st:St},Rel M Z w0 ρ st a w→ ∃ρ',Rel M Z w0 ρ' (rns rs st) a w
 |[],ρ,st,h=>⟨ρ,h⟩
 |(i,j)::r,ρ,st,h=>by
  obtain⟨ρ1,h1⟩:=h.rn i j
  exact Rel.rns r h1
theorem Ext.cell{w w':World}(h:Ext w w'){a:Addr}{v:Value}(hv:w.cell? a=some v):w'.cell? a=some v:=
 (Below.cell h.toBelow (World.block_lt_of_cell? w a hv)).trans hv
theorem Ext.frozen{w w':World}(h:Ext w w'){p:Addr}(hp:p.block<w.heap.size):w'.frozen? p=w.frozen? p:=Below.frozen h.toBelow hp
theorem Ext.refl(w:World):Ext w w:=⟨Below.refl _ _,Az _⟩
theorem Ext.trans{a b c:World}(h:Ext a b)(k:Ext b c):Ext a c:=⟨Below.trans h.toBelow (k.toBelow.mono h.size),Nat.le_trans h.drawn k.drawn⟩
theorem Ext.alloc(w:World)(o:Obj):Ext w (w.alloc o):=⟨(Below.refl _ _).alloc (Az _) o,Az _⟩
theorem Ext.drew(w:World):Ext w w.drew:=⟨(Below.refl _ _).drew,Nat.le_succ _⟩
theorem Fr.ext(h:Fr M w0 w){w':World}(hx:Ext w w'):Fr M w0 w' where
 os:=hx.os.trans h.os
 drawn:=Nat.le_trans h.drawn hx.drawn
 tape:=hx.tape.trans h.tape
 output:=hx.output.trans h.output
 size:=Nat.le_trans h.size hx.size
 cell:=fun a v hm hv=>hx.cell (h.cell a v hm hv)
 frz:=fun a ha=>(hx.frozen (Nat.lt_of_lt_of_le ha h.size)).trans (h.frz a ha)
 blk:=fun k hk hm=>(hx.block k (Nat.lt_of_lt_of_le hk h.size)).trans (h.blk k hk hm)
theorem Keep.ext{w w':World}(hx:Ext w w')(Z:Addr→Prop):Keep w w' Z Z:=fun _ _ h1 h2=>⟨hx.cell h2,h1⟩
theorem Owns.ext(h:Owns ρ w){w':World}(hx:Ext w w'):Owns ρ w':=
 ⟨fun i o hi hn j hj=>by
  obtain⟨⟨v,hv⟩,hf⟩:=h.cells i o hi hn j hj
  exact⟨⟨v,hx.cell hv⟩,(hx.frozen (World.block_lt_of_cell? w _ hv)).trans hf⟩,h.apart,h.lim⟩
theorem UA{w w':World}(hx:Ext w w')(ρ:As)(Z:Addr→Prop)(c:C)(v:Value)(h:RepC ρ w Z c v):RepC ρ w' Z c v:=h.keep (Keep.ext hx _) (fun _ _=>rfl)
abbrev DF:Nat→C→C:=Ib
theorem C.on_id(c:C):c.on DF=c:=by cases c<;>rfl
theorem Jp(l:List C):l.map (C.on DF)=l:=by
 induction l with
 |nil=>rfl
 |cons c r ih=>rw[List.map_cons,C.on_id,ih]
theorem U.on_id(u:U):u.on DF=u:=by
 cases u with
 |c x=>simp[U.on,C.on_id]
 |agg cs=>simp[U.on,Jp]
 |clo f cs=>simp[U.on,Jp]
theorem V.on_id(u:V):u.on DF=u:=by
 cases u with
 |u x=>simp[V.on,U.on_id]
 |tup xs=>
  have:xs.map (U.on DF)=xs:=by
   induction xs with
   |nil=>rfl
   |cons c r ih=>rw[List.map_cons,U.on_id,ih]
  simp[V.on,this]
 |tr x ys=>rfl
theorem Blk.on_id(b:Blk):b.on DF=b:=by
 cases b with
 |row=>rfl
 |box cs=>simp[Blk.on,Jp]
 |fbox f cs=>simp[Blk.on,Jp]
theorem Rel.ext(h:Rel M Z w0 ρ st a w){w':World}(hx:Ext w w'):Rel M Z w0 ρ st a w' where
 fr:=h.fr.ext hx
 heap:=⟨h.heap.owns.ext hx,fun i b hb=>by
  obtain⟨o,ho,hr⟩:=h.heap.rep i b hb
  refine⟨o,ho,?_⟩
  have ht:Cq ρ ρ w w' Z DF:=fun c v hc=>by rw[C.on_id];exact UA hx ρ Z c v hc
  have:=hr.turn ht (Keep.ext hx _) (fun hn j hj=>by
   obtain⟨⟨v,hv⟩,_⟩:=h.heap.owns.cells i o ho hn j hj
   rw[hv,hx.cell hv])
  rwa [Blk.on_id]at this⟩
 mine:=h.mine
 out:=h.out
 mz:=h.mz
 tmps:=fun t v hv=>by
  have ht:Cq ρ ρ w w' Z DF:=fun c v hc=>by rw[C.on_id];exact UA hx ρ Z c v hc
  have:=(h.tmps t v hv).turn ht
  rwa [V.on_id]at this
 defers:=h.defers
theorem Rel.drop(h:Rel M Z w0 ρ st a w)(i:Nat):Rel M Z w0 (Cm ρ i) (st.drop i) a w where
 fr:=h.fr
 heap:=⟨⟨fun j o hj hn=>by
   obtain⟨o',h1,⟨_,rfl⟩|⟨_,rfl⟩⟩:=Jh hj
   ·cases hn
   ·exact h.heap.owns.cells j o h1 hn,
  fun j j' o o' hj hj' hne ad h1 h2=>h.heap.owns.apart j j' o o' (Ku hj h1).2 (Ku hj' h2).2 hne ad h1 h2,
  fun j o hj=>by
   obtain⟨o',h1,⟨_,rfl⟩|⟨_,rfl⟩⟩:=Jh hj
   ·exact h.heap.owns.lim j o' h1
   ·exact h.heap.owns.lim j o h1⟩,fun j b hb=>by
  obtain⟨hne,hb⟩:=GH hb
  obtain⟨o,ho,hr⟩:=h.heap.rep j b hb
  have:=hr.turn (SC ρ w Z i) (Keep.mono fun _=>J9) (fun _ _ _=>rfl)
  have e:b.on Ib=b:=Blk.on_id b
  rw[e]at this
  exact⟨o,(BU ρ _ hne).trans ho,this⟩⟩
 mine:=fun j o ad hj hh=>h.mine j o ad (Ku hj hh).2 hh
 out:=h.out
 mz:=h.mz
 tmps:=fun t v hv=>by
  have:=(h.tmps t v hv).turn (SC ρ w Z i)
  have e:v.on Ib=v:=V.on_id v
  rwa [e]at this
 defers:=h.defers
theorem Rel.put(h:Rel M Z w0 ρ st a w){dst:Option Nat}{v:V}{x:Value}(hd: ∀d,dst=some d→d<a.tmps.size)(hv:RepV ρ w Z v x):Rel M Z w0 ρ (st.put dst v) (a.put dst x) w where
 fr:=h.fr
 heap:=by cases dst<;>exact h.heap
 mine:=h.mine
 out:=h.out
 mz:=h.mz
 tmps:=fun t u hu=>by
  cases dst with
  |none=>exact h.tmps t u hu
  |some d=>
   simp only[St.put]at hu;by_cases e:t=d
   ·subst e;rw[AR]at hu;cases hu;have:=hd t rfl;simp[Act.put,Array.getD,this];exact hv
   ·rw[AW e,Bt e]at hu
    have:=h.tmps t u hu
    simp only[Act.put,BV];rw[Array.getElem?_setIfInBounds_ne (fun h=>e h.symm),←BV]
    exact this
 defers:=by cases dst<;>exact h.defers
theorem Rel.add(h:Rel M Z w0 ρ st a w){i:Nat}{o:Own}{b:Blk}(hi:ρ i=none)
  (hnew: ∀ad,o.has ad→w0.heap.size≤ad.block) (hfar: ∀ad v,o.has ad→w.cell? ad=some v→False) {w':World} (hx:Ext w w')
  (hcells:o.gone=false→ ∀j,j<o.room*o.sz→(∃v,w'.cell? (o.at j)=some v)∧w'.frozen? (o.at j)=false) (hlim:o.room≤maxLen)
  (hb:RepB (upd ρ i (some o)) w' Z o b):Rel M Z w0 (upd ρ i (some o)) (st.blk i b) a w':=by
 have hk:Keep w w' (Aj ρ Z) (Aj (upd ρ i (some o)) Z):=fun ad x hn hv=>⟨hx.cell hv,fun ho=>by
  rcases ho with ho|⟨j,o',hj,ho⟩
  ·exact hn (.inl ho)
  ·by_cases e:j=i
   ·subst e;rw[CN]at hj;cases hj;exact hfar ad x ho hv
   ·rw[BU ρ _ e]at hj
    exact hn (.inr ⟨j,o',hj,ho⟩)⟩
 have ht:Cq ρ (upd ρ i (some o)) w w' Z DF:=fun c v hc=>by
  rw[C.on_id]
  refine hc.keep hk fun j hj=> ?_
  by_cases e:j=i
  ·subst e;cases c with
   |sl k off n=>cases hj;obtain⟨o',ho',_⟩:=hc;rw[hi]at ho';cases ho'
   |ptr k off=>cases hj;obtain⟨o',ho',_⟩:=hc;rw[hi]at ho';cases ho'
   |_=>cases hj
  ·exact BU ρ _ e
 exact {
  fr:=h.fr.ext hx
  heap:=⟨⟨fun j o' hj hn k hk'=>by
    by_cases e:j=i
    ·subst e;rw[CN]at hj;cases hj;exact hcells hn k hk'
    ·rw[BU ρ _ e]at hj;exact(h.heap.owns.ext hx).cells j o' hj hn k hk',
   fun j j' o1 o2 hj hj' hne ad h1 h2=>by
    by_cases e:j=i
    ·subst e;rw[CN]at hj;cases hj;rw[BU ρ _ (fun e=>hne e.symm)]at hj'
     obtain⟨hn,hbk,hlo,hhi⟩:=h2
     obtain⟨⟨v,hv⟩,_⟩:=h.heap.owns.cells j' o2 hj' hn (ad.off - o2.o) (by omega)
     have h1':=h1;obtain⟨hn1,hb1,hl1,hh1⟩:=h1;have he:(o2.at (ad.off - o2.o))=⟨ad.block,ad.off,none⟩:=by simp[Own.at,hbk];omega
     rw[he]at hv
     exact hfar ⟨ad.block,ad.off,none⟩ v ⟨hn1,hb1,hl1,hh1⟩ hv
    ·by_cases e':j'=i
     ·subst e';rw[CN]at hj';cases hj';rw[BU ρ _ e]at hj;obtain⟨hn,hbk,hlo,hhi⟩:=h1;obtain⟨⟨v,hv⟩,_⟩:=h.heap.owns.cells j o1 hj hn (ad.off - o1.o) (by omega)
      obtain⟨hn1,hb1,hl1,hh1⟩:=h2
      have he:(o1.at (ad.off - o1.o))=⟨ad.block,ad.off,none⟩:=by simp[Own.at,hbk];omega
      rw[he]at hv
      exact hfar ⟨ad.block,ad.off,none⟩ v ⟨hn1,hb1,hl1,hh1⟩ hv
     ·rw[BU ρ _ e]at hj
      rw[BU ρ _ e']at hj'
      exact h.heap.owns.apart j j' o1 o2 hj hj' hne ad h1 h2,
   fun j o' hj=>by
    by_cases e:j=i
    ·subst e;rw[CN]at hj;cases hj;exact hlim
    ·rw[BU ρ _ e]at hj;exact h.heap.owns.lim j o' hj⟩,
   fun j b' hb'=>by
    by_cases e:j=i
    ·subst e;simp only[St.blk]at hb';rw[AR]at hb';cases hb';exact⟨o,CN _ _ _,hb⟩
    ·simp only[St.blk]at hb';rw[AW e,Bt e]at hb';obtain⟨o',ho',hr⟩:=h.heap.rep j b' hb';refine⟨o',(BU ρ _ e).trans ho',?_⟩;have:=hr.turn ht hk (fun hn k hk'=>by
      obtain⟨⟨v,hv⟩,_⟩:=h.heap.owns.cells j o' ho' hn k hk'
      rw[hv,hx.cell hv])
     rwa [Blk.on_id]at this⟩
  mine:=fun j o' ad hj ho=>by
   by_cases e:j=i
   ·subst e;rw[CN]at hj;cases hj;exact .inr (hnew ad ho)
   ·rw[BU ρ _ e]at hj;exact h.mine j o' ad hj ho
  out:=h.out
  mz:=h.mz
  tmps:=fun t v hv=>by
   have:=(h.tmps t v hv).turn ht
   rwa [V.on_id]at this
  defers:=h.defers }
def RepAt(ρ:As)(w:World)(Z:Addr→Prop)(w':World)(o:Own):Blk→Prop
 | .row sz cs app=>o.sz=sz∧o.app=app∧cs.length≤o.room*sz∧((o.nil=true→o.room=0)∧o.gone=o.nil)∧
   ∀(j:Nat) (x:D),cs[j]? =some x→ ∃v,w'.cell? (o.at j)=some v∧RepD w (Aj ρ Z) x v
 | .box cs=>o.sz=1∧o.room=cs.length∧(o.nil=false∧o.gone=false)∧
   ∀(j:Nat) (c:C),cs[j]? =some c→ ∃v,w'.cell? (o.at j)=some v∧one v∧RepC ρ w Z c v
 | .fbox f cs=>o.sz=1∧o.room=1∧(o.nil=false∧o.gone=false)∧ ∃v,w'.cell? (o.at 0)=some v∧RepU ρ w Z (.clo f cs) v
def BW(ρ:As)(i:Nat)(o:Own):As:=upd (upd ρ i none) i (some o)
theorem CW(ρ:As)(i:Nat)(o:Own):BW ρ i o i=some o:=CN _ _ _
theorem HJ(ρ:As){i j:Nat}(o:Own)(h:j≠i):BW ρ i o j=ρ j:=by unfold BW;rw[BU _ _ h,BU _ _ h]
theorem JS{w':World}(hx:Ext w w'){i:Nat}{o:Own}(hfar: ∀ad,o.has ad→w.heap.size≤ad.block):Keep w w' (Aj ρ Z) (Aj (BW ρ i o) Z):=fun ad x hn hv=>⟨hx.cell hv,fun ho=>by
 rcases ho with ho|⟨j,o',hj,ho⟩
 ·exact hn (.inl ho)
 ·by_cases e:j=i
  ·subst e;rw[CW]at hj;cases hj;have:=hfar ad ho;have:=World.block_lt_of_cell? w ad hv;omega
  ·rw[HJ ρ _ e]at hj
   exact hn (.inr ⟨j,o',hj,ho⟩)⟩
theorem O1{w':World}(hx:Ext w w'){i:Nat}{o:Own}(hfar: ∀ad,o.has ad→w.heap.size≤ad.block):Cq ρ (BW ρ i o) w w' Z (AY i):=by
 intro c v h;have hk:=JS (ρ:=ρ) (Z:=Z) (i:=i) hx hfar;cases c with
 |d x=>exact RepC.keep hk (fun _ h=>by cases h) h
 |nl=>exact h
 |bad=>exact h
 |sl j off n=>
  simp only[C.on,AY];split
  ·exact RepC.one h
  ·rename_i hj
   exact RepC.keep hk (fun k hk'=>by cases hk';exact HJ ρ o hj) h
 |ptr j off=>
  simp only[C.on,AY];split
  ·exact RepC.one h
  ·rename_i hj
   exact RepC.keep hk (fun k hk'=>by cases hk';exact HJ ρ o hj) h
theorem RepAt.new{w':World}(hx:Ext w w'){i:Nat}{o:Own}(hfar: ∀ad,o.has ad→w.heap.size≤ad.block){b:Blk}(h:RepAt ρ w Z w' o b):RepB (BW ρ i o) w' Z o (b.on (AY i)):=by
 have hk:=JS (ρ:=ρ) (Z:=Z) (i:=i) hx hfar;cases b with
 |row sz cs app=>
  obtain⟨h1,h2,h3,h4,h5⟩:=h
  refine⟨h1,h2,h3,h4,fun j x hx=> ?_⟩
  obtain⟨v,hv,hd⟩:=h5 j x hx
  exact⟨v,hv,hd.keep hk⟩
 |box cs=>
  obtain⟨h1,h2,h3,h4⟩:=h
  refine⟨h1,by rw[h2];simp,h3,fun j c hc'=> ?_⟩
  rw[Bi]at hc'
  cases hy:cs[j]? with
  |none=>rw[hy]at hc';cases hc'
  |some y=>
   rw[hy]at hc'
   cases hc'
   obtain⟨v,hv,h1v,hr⟩:=h4 j y hy
   exact⟨v,hv,h1v,O1 hx hfar _ _ hr⟩
 |fbox f cs=>
  obtain⟨h1,h2,h3,v,hv,hr⟩:=h
  exact⟨h1,h2,h3,v,hv,RepU.turn (u:= .clo f cs) (O1 hx hfar) hr⟩
theorem Rel.new(h:Rel M Z w0 ρ st a w){w':World}(hx:Ext w w')(i:Nat){o:Own}{b:Blk}(hfar: ∀ad,o.has ad→w.heap.size≤ad.block)
  (hcells:o.gone=false→ ∀j,j<o.room*o.sz→(∃v,w'.cell? (o.at j)=some v)∧w'.frozen? (o.at j)=false) (hlim:o.room≤maxLen) (hb:RepAt ρ w Z w' o b):
  Rel M Z w0 (BW ρ i o) (st.new i b) a w':=by
 refine(h.purge i).add (CN _ _ _) (fun ad hh=> ?_) (fun ad v hh hv=> ?_) hx hcells hlim (hb.new hx hfar)
 ·exact Nat.le_trans h.fr.size (hfar ad hh)
 ·have:=hfar ad hh
  have:=World.block_lt_of_cell? w ad hv
  omega
end Go.Va
namespace Go.Va
open Go.RowKit
theorem Dn{α β:Type}{f:α→Option β}: ∀{l:List α} {r:List β},l.mapM f=some r→r.length=l.length∧ ∀(j:Nat) (x:α),l[j]? =some x→ ∃y,r[j]? =some y∧f x=some y
 |[],r,h=>by simp at h;subst h;exact⟨rfl,fun j x hx=>by simp at hx⟩
 |a::l,r,h=>by
  simp only[List.mapM_cons,Option.pure_def,Option.bind_eq_bind,jzd,Option.some.injEq]at h;obtain⟨y,hy,ys,hys,rfl⟩:=h;obtain⟨h1,h2⟩:=Dn hys;refine⟨by simp[h1],fun j x hx=> ?_⟩
  cases j with
  |zero=>simp at hx;subst hx;exact⟨y,by simp,hy⟩
  |succ j=>simpa using h2 j x (by simpa using hx)
theorem getElem?_cut{α:Type}(off n j:Nat)(l:List α):(AA off n l)[j]? =if j<n then l[off+j]? else none:=by
 unfold AA;rw[List.getElem?_take,List.getElem?_drop]
def ersd(ok:Nat→Bool)(ρ:As):As:=fun j=>if ok j then none else ρ j
theorem Fj{ok:Nat→Bool}{ρ:As}{j:Nat}{o:Own}(h:ersd ok ρ j=some o):ok j=false∧ρ j=some o:=by
 unfold ersd at h;cases hk:ok j with
 |true=>rw[hk]at h;simp at h
 |false=>rw[hk]at h;exact⟨rfl,by simpa using h⟩
theorem CC{ok:Nat→Bool}{ρ:As}{Z:Addr→Prop}{a:Addr}(h:Aj (ersd ok ρ) Z a):Aj ρ Z a:=by
 rcases h with h|⟨j,o,hj,ho⟩
 ·exact .inl h
 ·exact .inr ⟨j,o,(Fj hj).2,ho⟩
section
variable {M Z:Addr→Prop} {w0 w:World} {ρ:As} {st:St} {a:Act}
theorem Rel.thawed(h:Rel M Z w0 ρ st a w){ok:Nat→Bool}{i:Nat}{o:Own}(hi:ρ i=some o)(hok:ok i=true){ad:Addr}(had:o.has ad): ¬Aj (ersd ok ρ) Z ad:=by
 rintro (hz|⟨j,o',hj,ho'⟩)
 ·rcases h.mine i o ad hi had with hm|hs
  ·exact h.mz ad hm hz
  ·have:=h.out ad hz;omega
 ·obtain⟨hf,hj⟩:=Fj hj
  have hne:i≠j:=fun e=>by subst e;rw[hok]at hf;cases hf
  exact h.heap.owns.apart i j o o' hi hj hne ad had ho'
theorem Own.has_at{o:Own}(hn:o.gone=false){j:Nat}(hj:j<o.room*o.sz):o.has (o.at j):=⟨hn,rfl,by simp,by simp;omega⟩
theorem toD_sl(h:Rel M Z w0 ρ st a w)(ok:Nat→Bool)(k i off n:Nat)(v:Value)(x:D)(hc:RepC ρ w Z (.sl i off n) v)(hx:toD ok st.h k (.sl i off n)=some x):RepD w (Aj (ersd ok ρ) Z) x v:=by
 have hx:(if ok i then (match lk i st.h with
  |some (.row sz cs _)=>if (off+n)*sz≤cs.length then some (.slice n (AA (off*sz) (n*sz) cs)) else none
  |_=>none) else none)=some x:=by cases k<;>exact hx
 split at hx
 case isFalse=>cases hx
 case isTrue hok=>
  split at hx
  case h_2=>cases hx
  case h_1 sz cs app hlk=>
   split at hx
   case isFalse=>cases hx
   case isTrue hlen=>
    cases hx;obtain⟨o,ho,_,hcase⟩:=hc
    obtain⟨o',ho',hb⟩:=h.heap.rep i _ hlk
    obtain rfl:o'=o:=AK (ho'.symm.trans ho);obtain⟨hb1,hb2,hb3,hb4,hb5⟩:=hb;rcases hcase with⟨hn,rfl,rfl,rfl⟩|⟨hn,ad,c,rfl,hnc,hcm,had,_⟩
    ·have:AA (0*sz) (0*sz) cs=[]:=by simp[AA]
     rw[this];exact .snil
    ·have key: ∀(j:Nat) (y:D),(AA (off*sz) (n*sz) cs)[j]? =some y→j<n*sz∧cs[off*sz+j]? =some y:=by
      intro j y hy;rw[getElem?_cut]at hy;split at hy
      ·exact⟨‹_›,hy⟩
      ·cases hy
     have hadr: ∀(j:Nat) (y:D),(AA (off*sz) (n*sz) cs)[j]? =some y→ad=o'.at (off*o'.sz):=by
      intro j y hy;obtain⟨hj,_⟩:=key j y hy;rcases had with h0|h1
      ·have:n=0:=by omega
       subst this;simp at hj
      ·exact h1
     refine .slice n _ ad c (fun j=>(w.cell? (o'.at (off*sz+j))).getD undef) (fun hne=> ?_) hnc hcm ?_ ?_ ?_
     ·obtain⟨y,r,hyr⟩:=List.exists_cons_of_ne_nil hne
      rw[hadr 0 y (by rw[hyr];rfl)]
     all_goals
      intro j y hy;obtain⟨hj,hcs⟩:=key j y hy;obtain⟨v,hv,hd⟩:=hb5 _ y hcs;have hlt:off*sz+j<cs.length:=(jzg.1 hcs).1;have ha:=hadr j y hy;have he:(⟨ad.block,ad.off+j,none⟩:Addr)=o'.at (off*sz+j):=by rw[ha,hb1];simp[Own.at];omega
     ·rw[he,hv];rfl
     ·rw[he];exact h.thawed ho hok (Own.has_at (hb4.2.trans hn) (by rw[hb1];omega))
     ·rw[hv];exact hd.keep (Keep.mono fun _=>CC)
theorem FL(h:Rel M Z w0 ρ st a w)(ok:Nat→Bool): ∀(k:Nat) (c:C) (v:Value) (x:D),RepC ρ w Z c v→toD ok st.h k c=some x→RepD w (Aj (ersd ok ρ) Z) x v:=by
 intro k
 induction k with
 |zero=>
  intro c v x hc hx;cases c with
  |d y=>simp[toD]at hx;subst hx;exact RepD.keep (Keep.mono fun _=>CC) hc
  |nl=>simp[toD]at hx;subst hx;cases (show v=_ from hc);exact .snil
  |bad=>simp[toD]at hx
  |ptr i off=>
   simp[toD]at hx
   rw[←hx.2]
   exact .any v (RepC.one hc)
  |sl i off n=>exact toD_sl h ok 0 i off n v x hc hx
 |succ k ih=>
  intro c v x hc hx;cases c with
  |d y=>simp[toD]at hx;subst hx;exact RepD.keep (Keep.mono fun _=>CC) hc
  |nl=>simp[toD]at hx;subst hx;cases (show v=_ from hc);exact .snil
  |bad=>simp[toD]at hx
  |sl i off n=>exact toD_sl h ok _ i off n v x hc hx
  |ptr i off=>
   simp only[toD]at hx;split at hx
   case isFalse=>cases hx
   case isTrue hok=>
    obtain⟨o,ho,hn,rfl⟩:=hc
    split at hx
    case h_4=>cases hx
    case h_3 f cs hlk=>
     split at hx
     case isFalse=>cases hx
     case isTrue hoff=>
      subst hoff;rw[jze]at hx;obtain⟨ds,hds,rfl⟩:=hx;obtain⟨hl,hm⟩:=Dn hds;obtain⟨o',ho',hb⟩:=h.heap.rep i _ hlk;obtain rfl:o'=o:=AK (ho'.symm.trans ho);obtain⟨hb1,hb2,hb3,v,hv,vs,rfl,hvs⟩:=hb;have hfn:RepD w (Aj (ersd ok ρ) Z) (.fn f ds) (.func (.func f) #[] vs.toArray):=by
       refine .fn f ds vs (by rw[hl];exact hvs.1) fun j y v hy hv=> ?_
       have hj:j<cs.length:=by rw[←hl];exact(jzg.1 hy).1
       obtain⟨y',hy',hf⟩:=hm j _ (Am hj)
       rw[hy]at hy'
       cases hy'
       exact ih _ v y (hvs.2 j _ v (Am hj) hv) hf
      refine .ref _ _ (fun _=> .func (.func f) #[] vs.toArray) (fun _=>rfl) ?_ ?_ ?_
      all_goals
       intro j y hy;obtain rfl:j=0:=by
        have:=(jzg.1 hy).1
        simpa using this
      ·simpa [Own.at]using hv
      ·exact h.thawed ho hok (Own.has_at hb3.2 (by rw[hb1,hb2];omega))
      ·simp at hy;subst hy;exact hfn
    case h_1 sz cs app hlk=>
     cases hx;obtain⟨o',ho',hb⟩:=h.heap.rep i _ hlk
     obtain rfl:o'=o:=AK (ho'.symm.trans ho);obtain⟨hb1,hb2,hb3,hb4,hb5⟩:=hb;refine .ref _ _ (fun j=>(w.cell? (o'.at (off+j))).getD undef) (fun _=>rfl) ?_ ?_ ?_
     all_goals
      intro j y hy;rw[List.getElem?_drop]at hy;obtain⟨v,hv,hd⟩:=hb5 _ y hy;have hlt:off+j<cs.length:=(jzg.1 hy).1;have he:(⟨(o'.at off).block,(o'.at off).off+j,none⟩:Addr)=o'.at (off+j):=by simp[Own.at];omega
     ·rw[he,hv];rfl
     ·rw[he];exact h.thawed ho hok (Own.has_at (hb4.2.trans hn) (by rw[hb1];omega))
     ·rw[hv];exact hd.keep (Keep.mono fun _=>CC)
    case h_2 cs hlk=>
     rw[jze]at hx
     obtain⟨ds,hds,rfl⟩:=hx
     obtain⟨hl,hm⟩:=Dn hds
     obtain⟨o',ho',hb⟩:=h.heap.rep i _ hlk
     obtain rfl:o'=o:=AK (ho'.symm.trans ho);obtain⟨hb1,hb2,hb3,hb4⟩:=hb;have key: ∀(j:Nat) (y:D),ds[j]? =some y→ ∃c,cs[off+j]? =some c∧toD ok st.h k c=some y:=by
      intro j y hy;have hj:j<(cs.drop off).length:=by rw[←hl];exact(jzg.1 hy).1
      obtain⟨y',hy',hf⟩:=hm j _ (Am hj)
      rw[hy]at hy'
      cases hy'
      refine⟨_,?_,hf⟩
      rw[←List.getElem?_drop,Am hj]
     refine .ref _ _ (fun j=>(w.cell? (o'.at (off+j))).getD undef) (fun _=>rfl) ?_ ?_ ?_
     all_goals
      intro j y hy;obtain⟨c,hc,hf⟩:=key j y hy;obtain⟨v,hv,_,hr⟩:=hb4 _ c hc;have hlt:off+j<cs.length:=(jzg.1 hc).1;have he:(⟨(o'.at off).block,(o'.at off).off+j,none⟩:Addr)=o'.at (off+j):=by simp[Own.at];omega
     ·rw[he,hv];rfl
     ·rw[he];exact h.thawed ho hok (Own.has_at hb3.2 (by rw[hb1,hb2];omega))
     ·rw[hv];exact ih c v y hr hf
theorem IV{α:Type}(ok:Nat→Bool)(k:Nat): ∀l:List (Nat×α),lk k (Ee ok l)=if ok k then none else lk k l
 |[]=>by simp[Ee,lk]
 |(j,v)::r=>by
  have ih:=IV ok k r;unfold Ee at ih ⊢;rw[List.filter_cons];cases hj:ok j with
  |true=>
   simp only[hj,Bool.not_true,Bool.false_eq_true,if_false,ih,lk];by_cases e:j=k
   ·subst e;simp[hj]
   ·simp[e]
  |false=>
   simp only[hj,Bool.not_false,if_true,lk,ih];by_cases e:j=k
   ·subst e;simp[hj]
   ·simp[e]
theorem TB(h:Rel M Z w0 ρ st a w)(ok:Nat→Bool):Cq ρ (ersd ok ρ) w w Z (DS st.h ok):=by
 intro c v hc;have hk:Keep w w (Aj ρ Z) (Aj (ersd ok ρ) Z):=Keep.mono fun _=>CC
 cases c with
 |d x=>exact RepC.keep hk (fun _ h=>by cases h) hc
 |nl=>exact hc
 |bad=>exact hc
 |sl j off n=>
  simp only[C.on,DS];split
  ·split
   ·exact FL h ok 4 _ v _ hc ‹_›
   ·exact RepC.one hc
  ·rename_i hj
   exact RepC.keep hk (fun k hk'=>by cases hk';simp[ersd,hj]) hc
 |ptr j off=>
  simp only[C.on,DS];split
  ·split
   ·exact FL h ok 4 _ v _ hc ‹_›
   ·exact RepC.one hc
  ·rename_i hj
   exact RepC.keep hk (fun k hk'=>by cases hk';simp[ersd,hj]) hc
theorem Owns.ersd(h:Owns ρ w)(ok:Nat→Bool):Owns (ersd ok ρ) w:=
 ⟨fun j o hj=>h.cells j o (Fj hj).2,fun j j' o o' hj hj'=>h.apart j j' o o' (Fj hj).2 (Fj hj').2,fun j o hj=>h.lim j o (Fj hj).2⟩
theorem Rel.freezeK(h:Rel M Z w0 ρ st a w)(ok:Nat→Bool):Rel M Z w0 (ersd ok ρ) (st.freezeK ok) a w where
 fr:=h.fr
 heap:=⟨h.heap.owns.ersd ok,fun j b hb=>by
  simp only[St.freezeK]at hb;rw[IV]at hb;cases hok:ok j with
  |true=>rw[hok]at hb;simp at hb
  |false=>
   rw[hok]at hb
   simp only[Bool.false_eq_true,if_false,St.on]at hb;rw[BQ]at hb;cases hl:lk j st.h with
   |none=>rw[hl]at hb;cases hb
   |some b0=>
    rw[hl]at hb
    cases hb;obtain⟨o,ho,hr⟩:=h.heap.rep j b0 hl
    exact⟨o,by simp[ersd,hok,ho],hr.turn (TB h ok) (Keep.mono fun _=>CC) (fun _ _ _=>rfl)⟩⟩
 mine:=fun j o ad hj=>h.mine j o ad (Fj hj).2
 out:=h.out
 mz:=h.mz
 tmps:=fun t v hv=>by
  simp only[St.freezeK,St.on]at hv;rw[BQ]at hv;cases hl:lk t st.t with
  |none=>rw[hl]at hv;cases hv
  |some v0=>
   rw[hl]at hv
   cases hv;exact(h.tmps t v0 hl).turn (TB h ok)
 defers:=h.defers
def Ay(ids:List Nat)(ρ:As):As:=ersd (ids.contains ·) ρ
theorem Rel.freeze(h:Rel M Z w0 ρ st a w)(ids:List Nat):Rel M Z w0 (Ay ids ρ) (st.freeze ids) a w:=by
 cases ids with
 |nil=>
  have:Ay [] ρ=ρ:=by funext j;simp[Ay,ersd]
  rw[this]
  exact h
 |cons i r=>exact h.freezeK _
theorem Rel.shut(h:Rel M Z w0 ρ st a w){ids:List Nat}{cs:List C}{ds:List D}{s:St}(hs:st.sealW ids cs=some (ds,s)){vs:List Value}(hr:RepL (RepC ρ w Z) cs vs):
  Rel M Z w0 (Ay ids ρ) s a w∧RepL (RepD w (Aj (Ay ids ρ) Z)) ds vs:=by
 simp only[St.sealW,jze,Prod.mk.injEq]at hs;obtain⟨ds',hm,rfl,rfl⟩:=hs;refine⟨h.freeze ids,?_⟩;obtain⟨hl,hf⟩:=Dn hm;refine⟨hl.trans hr.1,fun j x v hx hv=> ?_⟩
 have hj:j<cs.length:=by rw[←hl];exact(jzg.1 hx).1
 obtain⟨y,hy,hd⟩:=hf j _ (Am hj)
 rw[hx]at hy
 cases hy;exact FL h _ 4 _ v _ (hr.2 j _ v (Am hj) hv) hd
theorem Tz(b:Nat): ∀(vs:List Value) (o:Nat) (w:World) (k:Nat),k≠b→(w.setCells b o vs).heap[k]? =w.heap[k]?
 |[],_,_,_,_=>rfl
 |v::r,o,w,k,h=>by rw[World.setCells,Tz b r (o+1) _ k h];exact Below.heap_setCell w ⟨b,o,none⟩ v k h
theorem Rr(b:Nat): ∀(vs:List Value) (o:Nat) (w:World),(w.setCells b o vs).heap.size=w.heap.size∧(w.setCells b o vs).os=w.os∧(w.setCells b o vs).tape=w.tape∧(w.setCells b o vs).output=w.output∧(w.setCells b o vs).drawn=w.drawn
 |[],_,_=>⟨rfl,rfl,rfl,rfl,rfl⟩
 |v::r,o,w=>by
  obtain⟨h1,h2,h3,h4⟩:=Rr b r (o+1) (w.setCell ⟨b,o,none⟩ v)
  exact⟨h1.trans (by simp[World.setCell]),h2,h3,h4⟩
theorem Rel.write(h:Rel M Z w0 ρ st a w){i:Nat}{o:Own}(hi:ρ i=some o)(hn:o.gone=false){off:Nat}{vs:List Value}(hfit:off+vs.length≤o.room*o.sz){b:Blk}
  (hb:Keep w (w.setCells o.g (o.o+off) vs) (Aj ρ Z) (Aj ρ Z)→RepB ρ (w.setCells o.g (o.o+off) vs) Z o b):Rel M Z w0 ρ (st.blk i b) a (w.setCells o.g (o.o+off) vs):=by
 have hin: ∀ad:Addr,ad.block=o.g→o.o+off≤ad.off→ad.off<o.o+off+vs.length→o.has ad:=fun ad h1 h2 h3=>⟨hn,h1,by omega,by omega⟩
 have hout: ∀ad:Addr,¬o.has ad→(w.setCells o.g (o.o+off) vs).cell? ad=w.cell? ad:=fun ad ha=>World.cell?_setCells_out _ _ _ _ _ fun hb _=>by
  by_cases h1:ad.off<o.o+off
  ·exact .inl h1
  ·by_cases h2:o.o+off+vs.length≤ad.off
   ·exact .inr h2
   ·exact absurd (hin ad hb (by omega) (by omega)) ha
 have hk:Keep w (w.setCells o.g (o.o+off) vs) (Aj ρ Z) (Aj ρ Z):=fun ad x hx hv=>⟨by rw[hout ad (fun hh=>hx (.inr ⟨i,o,hi,hh⟩))];exact hv,hx⟩
 have ht:Cq ρ ρ w (w.setCells o.g (o.o+off) vs) Z DF:=fun c v hc=>by rw[C.on_id];exact hc.keep hk fun _ _=>rfl
 obtain⟨ks,kos,kt,ko,kdr⟩:=Rr o.g vs (o.o+off) w
 exact {
  fr:=⟨kos.trans h.fr.os,by rw[kdr];exact h.fr.drawn,kt.trans h.fr.tape,ko.trans h.fr.output,by rw[ks];exact h.fr.size,
   fun ad v hm hv=>by
    rw[hout ad fun hh=> ?_]
    ·exact h.fr.cell ad v hm hv
    ·rcases h.mine i o ad hi hh with h1|h1
     ·exact hm h1
     ·have:=World.block_lt_of_cell? w0 ad hv;omega,
   fun ad ha=>(World.frozen?_setCells _ _ _ _ _).trans (h.fr.frz ad ha),
   fun k hk' hm=>by
    by_cases hvs:vs=[]
    ·subst hvs;exact h.fr.blk k hk' hm
    ·have hpos:0<vs.length:=List.length_pos_iff.2 hvs;by_cases e:k=o.g
     ·subst e;have:=h.mine i o ⟨o.g,o.o+off,none⟩ hi (hin _ rfl (by simp) (by simp;omega))
      rcases this with h1|h1
      ·exact absurd h1 (hm _ rfl)
      ·simp at h1;omega
     ·rw[Tz _ _ _ _ _ e];exact h.fr.blk k hk' hm⟩
  heap:=⟨⟨fun j o' hj hn' k hk'=>by
    obtain⟨⟨v,hv⟩,hf⟩:=h.heap.owns.cells j o' hj hn' k hk'
    refine⟨?_,(World.frozen?_setCells _ _ _ _ _).trans hf⟩
    by_cases hh:o.has (o'.at k)
    ·by_cases e:j=i
     ·subst e;obtain rfl:=AK (hi.symm.trans hj);by_cases hr:off≤k∧k<off+vs.length
      ·have:=World.cell?_setCells_in o.g vs (o.o+off) w (fun q hq=>by
        obtain⟨⟨u,hu⟩,_⟩:=h.heap.owns.cells j o hj hn (off+q) (by omega)
        have he:(⟨o.g,o.o+off+q,none⟩:Addr)=o.at (off+q):=by simp;omega
        rw[he,hu];rfl) (k - off) (by omega)
       have he:(⟨o.g,o.o+off+(k - off),none⟩:Addr)=o.at k:=by simp;omega
       rw[he]at this
       exact⟨_,this⟩
      ·refine⟨v,?_⟩
       rw[World.cell?_setCells_out]
       ·exact hv
       ·intro _ _;simp;omega
     ·exact absurd hh (h.heap.owns.apart j i o' o hj hi e _ (Own.has_at hn' hk'))
    ·exact⟨v,by rw[hout _ hh];exact hv⟩,h.heap.owns.apart,h.heap.owns.lim⟩,
   fun j b' hb'=>by
    by_cases e:j=i
    ·subst e;simp only[St.blk]at hb';rw[AR]at hb';cases hb';exact⟨o,hi,hb hk⟩
    ·simp only[St.blk]at hb';rw[AW e,Bt e]at hb';obtain⟨o',ho',hr⟩:=h.heap.rep j b' hb';refine⟨o',ho',?_⟩;have:=hr.turn ht hk (fun hn' k hk'=>hout _ fun hh=>h.heap.owns.apart j i o' o ho' hi e _ (Own.has_at hn' hk') hh)
     rwa [Blk.on_id]at this⟩
  mine:=h.mine
  out:=h.out
  mz:=h.mz
  tmps:=fun t v hv=>by
   have:=(h.tmps t v hv).turn ht
   rwa [V.on_id]at this
  defers:=h.defers }
end
def G2:C→Value→Bool
 | .d (.int k n),.int k' n'=>k=k'&&n=n'
 | .d (.bool b),.bool b'=>b=b'
 | .d (.str s),.string s'=>s.size=0&&s'.size=0
 | .nl,.slice none 0 0=>true
 | .d .nilPtr,.pointer none=>true
 | .d .nilFn,.nilFunc=>true
 | .d (.lit .nilIface),.nilIface=>true
 |_,_=>false
def EK:List C→List Value→Bool
 |[],[]=>true
 |c::r,v::s=>G2 c v&&EK r s
 |_,_=>false
def Er(P:Program)(t:TypeId)(z:Option C):Bool:=
 match P.underlying t,z with
 |some (.int _),some (.d (.int _ _))=>true
 |some .bool,some (.d (.bool _))=>true
 |_,_=>false
def K6(P:Program)(t:TypeId)(d:TypeDesc)(zs:List C):Bool:=
 !P.eqGuardType P.depth t&&
 (match d with
 | .array n e=>n=zs.length&&P.cellsOf e=1&&zs.all fun z=>Er P e (some z)
 | .struct fs => !P.stoodInHeld t && fs.size = zs.length && fs.toList.zipIdx.all fun (f, k) => f.name ≠ "_" && f.offset = k && Er P f.type zs[k]?
 |_=>false)
def CT(d:TypeDesc)(i:TI):Bool:=
 match d with
 | .struct fs=>i.agg&&i.sl=none&&i.arr=none&&i.flds=fs.toList.map fun f=>(f.offset,f.type)
 | .array n e=>i.agg&&i.sl=none&&i.arr=some (n,e)&&i.flds=[]
 | .slice e=> !i.agg&&i.sl=some e&&i.arr=none&&i.flds=[]&&(match i.zero with|[.nl]=>true|_=>false)
 | .int k=> !i.agg&&i.sl=none&&i.arr=none&&i.flds=[]&&(match i.zero with|[.d (.int k' 0)]=>k'=k|_=>false)
 | .bool=> !i.agg&&i.sl=none&&i.arr=none&&i.flds=[]&&(match i.zero with|[.d (.bool _)]=>true|_=>false)
 | .string=> !i.agg&&i.sl=none&&i.arr=none&&i.flds=[]&&(match i.zero with|[.d (.str _)]=>true|_=>false)
 | .func .. => !i.agg&&i.sl=none&&i.arr=none&&i.flds=[]&&(match i.zero with|[.d .nilFn]=>true|_=>false)
 | .pointer _=> !i.agg&&i.sl=none&&i.arr=none&&i.flds=[]&&(match i.zero with|[.d .nilPtr]=>true|_=>false)
 | .interface _=> !i.agg&&i.sl=none&&i.arr=none&&i.flds=[]&&(match i.zero with|[.d (.lit .nilIface)]=>true|_=>false)
 |_=>false
def GY(P:Program)(t:TypeId)(i:TI):Bool:=
 match P.info? t,P.underlying t with
 |some info,some d=>
  info.size=i.size&&info.bytes=i.bytes&&i.size≤10000&&i.zero.length=i.size&&(match info.zero with|some z=>EK i.zero z.cells.toList|none=>false)&&CT d i&&(!i.flat||K6 P t d i.zero)
 |_,_=>false
structure TyOk (P:Program) (t:TypeId) (i:TI) (info:TypeInfo) (d:TypeDesc):Prop where
 inf:P.info? t=some info
 und:P.underlying t=some d
 size:info.size=i.size
 bytes:info.bytes=i.bytes
 small:i.size≤10000
 zlen:i.zero.length=i.size
 zero: ∃z,info.zero=some z∧EK i.zero z.cells.toList=true
 desc:CT d i=true
 flat:i.flat=true→K6 P t d i.zero=true
theorem A5{P:Program}{t:TypeId}{i:TI}(h:GY P t i=true): ∃info d,TyOk P t i info d:=by
 unfold GY at h;cases hi:P.info? t with
 |none=>rw[hi]at h;cases h
 |some info=>
  cases hu:P.underlying t with
  |none=>rw[hi,hu]at h;cases h
  |some d=>
   rw[hi,hu]at h
   simp only[AC,decide_eq_true_eq,Bool.or_eq_true,Bool.not_eq_true']at h;obtain⟨⟨⟨⟨⟨⟨h1,h2⟩,h2a⟩,h2b⟩,h3⟩,h4⟩,h5⟩:=h;refine⟨info,d,hi,hu,h1,h2,h2a,h2b,?_,h4,fun hf=> ?_⟩
   ·cases hz:info.zero with
    |none=>rw[hz]at h3;cases h3
    |some z=>rw[hz]at h3;exact⟨z,rfl,h3⟩
   ·rcases h5 with h5|h5
    ·rw[hf]at h5;cases h5
    ·exact h5
def AM(P:Program)(T:Au):Prop:= ∀t i,T t=some i→GY P t i=true
section
variable {P:Program} {t:TypeId} {i:TI} {info:TypeInfo} {d:TypeDesc}
theorem TyOk.isAgg(h:TyOk P t i info d)(w:World):(isAgg t).run P w= .ok i.agg w:=by
 have hd:=h.desc;cases d<;>simp only[CT,AC,Bool.not_eq_true',Bool.false_eq_true]at hd<;>simp[Go.isAgg,run_underlying h.und,hd]
theorem TyOk.sizeOf(h:TyOk P t i info d)(w:World):(sizeOf t).run P w= .ok i.size w:=by
 simp[Go.sizeOf,typeInfo,h.inf,h.size]
theorem TyOk.slice(h:TyOk P t i info d){e:TypeId}(he:i.sl=some e):P.underlying t=some (.slice e):=by
 have hd:=h.desc;cases d<;>simp[CT,he]at hd;rw[h.und,hd.1.1.1.2]
theorem TyOk.array(h:TyOk P t i info d){n e:Nat}(he:i.arr=some (n,e)):P.underlying t=some (.array n e):=by
 have hd:=h.desc;cases d<;>simp[CT,he]at hd;obtain⟨⟨_,h1,h2⟩,_⟩:=hd;rw[h.und,h1,h2]
theorem TyOk.field(h:TyOk P t i info d){f:Nat}{p:Nat×Nat}(he:i.flds[f]? =some p): ∃fs fd,P.underlying t=some (.struct fs)∧fs[f]? =some fd∧fd.offset=p.1∧fd.type=p.2:=by
 have hd:=h.desc;cases d<;>simp[CT]at hd
 case struct fs=>
  obtain⟨_,h2⟩:=hd
  rw[h2]at he
  simp only[Bi,jze]at he;obtain⟨fd,hfd,rfl⟩:=he;exact⟨fs,fd,h.und,by simpa using hfd,rfl,rfl⟩
 all_goals (first|(obtain⟨⟨_,h2⟩,_⟩:=hd;rw[h2]at he;cases he)|(obtain⟨_,h2⟩:=hd;rw[h2]at he;cases he))
theorem TyOk.intKind(h:TyOk P t i info d){k:IntKind}{n:Int}(ha:i.agg=false)(hz:i.zero=[.d (.int k n)]):P.underlying t=some (.int k):=by
 have hd:=h.desc;cases d<;>simp[CT,hz,ha]at hd
 case int k'=>
  rw[h.und]
  have:=hd.2
  split at this<;>simp_all
theorem TyOk.bool(h:TyOk P t i info d){b:Bool}(ha:i.agg=false)(hz:i.zero=[.d (.bool b)]):P.underlying t=some .bool:=by
 have hd:=h.desc;cases d<;>simp[CT,hz,ha]at hd;exact h.und
theorem TyOk.func(h:TyOk P t i info d)(ha:i.agg=false)(hz:i.zero=[.d .nilFn]): ∃p r v,P.underlying t=some (.func p r v):=by
 have hd:=h.desc;cases d<;>simp[CT,hz,ha]at hd;exact⟨_,_,_,h.und⟩
theorem TyOk.list(h:TyOk P t i info d)(ha:i.agg=false)(hz:i.zero=[.nl]): ∃e,P.underlying t=some (.slice e):=by
 have hd:=h.desc;cases d<;>simp[CT,hz,ha]at hd;exact⟨_,h.und⟩
theorem TyOk.str(h:TyOk P t i info d)(h1:i.sl=none)(h2:i.arr=none)(ha:i.agg=false){s:ByteArray}(hz:i.zero=[.d (.str s)]):P.underlying t=some .string:=by
 have hd:=h.desc;cases d<;>simp[CT,hz,ha,h1,h2]at hd;exact h.und
end
theorem Yo{ρ:As}{w:World}{Z:Addr→Prop}{c:C}{v:Value}(h:G2 c v=true):RepC ρ w Z c v:=by
 unfold G2 at h;split at h<;>simp at h
 ·obtain⟨rfl,rfl⟩:=h;exact .int _ _
 ·subst h;exact .bool _
 ·rename_i s s'
  have:s=s':=h.1.trans h.2.symm
  subst this;exact .str _
 ·rfl
 ·exact .nilPtr
 ·exact .nilFn
 ·exact .lit _ rfl
theorem EP{ρ:As}{w:World}{Z:Addr→Prop}: ∀{cs:List C} {vs:List Value},EK cs vs=true→RepL (RepC ρ w Z) cs vs
 |[],[],_=>⟨rfl,fun j x v hx _=>by simp at hx⟩
 |[],_::_,h=>by simp[EK]at h
 |_::_,[],h=>by simp[EK]at h
 |c::r,v::s,h=>by
  simp only[EK,AC]at h;obtain⟨h1,h2⟩:=EP (ρ:=ρ) (w:=w) (Z:=Z) h.2;refine⟨by simp[h1],fun j x u hx hu=> ?_⟩
  cases j with
  |zero=>simp at hx hu;subst hx;subst hu;exact Yo h.1
  |succ j=>exact h2 j x u (by simpa using hx) (by simpa using hu)
theorem Qk{ρ:As}{w:World}{Z:Addr→Prop}{v:Value}{c:C}(h:cCell v=some c):RepC ρ w Z c v:=by
 unfold cCell at h;split at h<;>cases h
 ·exact .int _ _
 ·exact .bool _
 ·exact .str _
 ·rfl
 ·exact .nilPtr
 ·exact .nilFn
theorem jfs{ρ:As}{w:World}{Z:Addr→Prop}{v:Value}{x:V}(h:cVal v=some x):RepV ρ w Z x v:=by
 unfold cVal at h;split at h
 ·rename_i cs
  rw[jze]at h
  obtain⟨l,hl,rfl⟩:=h
  obtain⟨h1,h2⟩:=Dn hl
  refine⟨cs.toList,by simp,h1,fun j c v hc hv=> ?_⟩
  obtain⟨y,hy,hf⟩:=h2 j v hv
  rw[hc]at hy
  cases hy;exact Qk hf
 ·rw[jze]at h
  obtain⟨c,hc,rfl⟩:=h
  exact Qk hc
section
variable {P:Program} {M Z:Addr→Prop} {w0 w:World} {ρ:As} {st:St} {a:Act}
theorem Rel.ev(h:Rel M Z w0 ρ st a w){x:Operand}{v:V}(hv:st.ev x=some v):RepV ρ w Z v (a.eval x):=by
 cases x with
 |tmp t=>exact h.tmps t v hv
 |const c=>exact jfs hv
 |func f=>cases hv;exact .fn f [] [] rfl (fun j x v hx=>by simp at hx)
 |global g=>cases hv
theorem Rel.evU(h:Rel M Z w0 ρ st a w){x:Operand}{u:U}(hv:st.evU x=some u):RepU ρ w Z u (a.eval x):=by
 unfold St.evU at hv;split at hv<;>cases hv;exact h.ev ‹_›
theorem Rel.evC(h:Rel M Z w0 ρ st a w){x:Operand}{c:C}(hv:st.evC x=some c):RepC ρ w Z c (a.eval x):=by
 unfold St.evC at hv;split at hv<;>cases hv;exact h.ev ‹_›
theorem Rel.evI(h:Rel M Z w0 ρ st a w){x:Operand}{p:IntKind×Int}(hv:st.evI x=some p):a.eval x= .int p.1 p.2:=by
 unfold St.evI at hv;split at hv<;>cases hv;have:=h.ev ‹_›;generalize a.eval x=y at this;cases this;rfl
theorem Rel.evB(h:Rel M Z w0 ρ st a w){x:Operand}{b:Bool}(hv:st.evB x=some b):a.eval x= .bool b:=by
 unfold St.evB at hv;split at hv<;>cases hv;have:=h.ev ‹_›;generalize a.eval x=y at this;cases this;rfl
theorem RepU.cells{u:U}{v:Value}(h:RepU ρ w Z u v):RepL (RepC ρ w Z) u.cells v.cells.toList:=by
 cases u with
 |c x=>
  have h1:=RepC.one h;have:v.cells= #[v]:=by cases v<;>first|rfl|cases h1
  rw[this]
  refine⟨rfl,fun j c u hc hu=> ?_⟩
  cases j with
  |zero=>simp[U.cells]at hc hu;subst hc;subst hu;exact h
  |succ j=>simp[U.cells]at hc
 |agg cs=>obtain⟨vs,rfl,hl⟩:=h;simpa [Value.cells,U.cells]using hl
 |clo f cs=>
  obtain⟨vs,rfl,_⟩:=h
  refine⟨rfl,fun j c u hc hu=> ?_⟩
  cases j with
  |zero=>simp[U.cells,Value.cells]at hc hu;subst hc;subst hu;exact rfl
  |succ j=>simp[U.cells]at hc
def StepOk(P:Program)(M Z:Addr→Prop)(w0:World)(o:Oper)(st':St)(a:Act)(w:World):Prop:=
 ∃nx v w' ρ',(execOp a.eval o).run P w= .ok nx w'∧(nx= .value v∨(nx= .skip∧v=undef))∧Rel M Z w0 ρ' st' (a.put o.dst v) w'
theorem StepOk.val(h:Rel M Z w0 ρ st a w){o:Oper}{v:V}{x:Value}(hd: ∀d,o.dst=some d→d<a.tmps.size)
  (hr:(execOp a.eval o).run P w= .ok (.value x) w) (hv:RepV ρ w Z v x):StepOk P M Z w0 o (st.put o.dst v) a w:=
 ⟨_,x,w,ρ,hr,.inl rfl,h.put hd hv⟩
theorem StepOk.new{o:Oper}{v:V}{x:Value}{w':World}{ρ':As}{s:St}(hd: ∀d,o.dst=some d→d<a.tmps.size)
  (hr:(execOp a.eval o).run P w= .ok (.value x) w') (h:Rel M Z w0 ρ' s a w') (hv:RepV ρ' w' Z v x):StepOk P M Z w0 o (s.put o.dst v) a w:=
 ⟨_,x,w',ρ',hr,.inl rfl,h.put hd hv⟩
theorem NY(w:World)(cs:Array Value)(e:TypeId)(j:Nat):(w.alloc (.cells cs e)).frozen? ⟨w.heap.size,j,none⟩=false:=
 World.frozen?_alloc_at cs e w.heap.size j rfl
def BI(w:World)(sz room:Nat)(app:Bool):Own:={ g:=w.heap.size,o:=0,sz,room,app,nil:=false,gone:=false }
theorem Td(w:World)(sz room:Nat)(app:Bool): ∀ad,(BI w sz room app).has ad→w.heap.size≤ad.block:=fun ad h=>by
 obtain⟨_,h,_⟩:=h
 simp[BI]at h
 omega
theorem Rel.newBox(h:Rel M Z w0 ρ st a w)(i:Nat){cs:List C}{vs:List Value}(e:TypeId)(hl:RepL (RepC ρ w Z) cs vs)(hlim:cs.length≤maxLen):
  Rel M Z w0 (BW ρ i (BI w 1 cs.length false)) (st.new i (.box cs)) a (w.alloc (.cells vs.toArray e)):=by
 refine h.new (Ext.alloc w _) i (Td w _ _ _) (fun _ j hj=>⟨?_,?_⟩) hlim ?_
 ·have hj':j<vs.length:=by rw[←hl.1];simpa [BI]using hj
  exact⟨vs[j],by simp[BI,Own.at,hj']⟩
 ·simp only[BI,Own.at,Nat.zero_add];exact NY w vs.toArray e j
 ·refine⟨rfl,rfl,⟨rfl,rfl⟩,fun j c hc=> ?_⟩
  have hj:j<cs.length:=(jzg.1 hc).1;have hj':j<vs.length:=by rw[←hl.1];exact hj
  have hv:vs[j]? =some vs[j]:=Am hj'
  exact⟨vs[j],by simp[BI,Own.at,hj'],RepC.one (hl.2 j c _ hc hv),hl.2 j c _ hc hv⟩
theorem Rel.newRow(h:Rel M Z w0 ρ st a w){w1:World}(hx:Ext w w1)(hs:w1.heap.size=w.heap.size)(i:Nat){sz room:Nat}{ds:List D}{vs:List Value}(more:List Value)(e:TypeId)(app:Bool)
  (hl:RepL (RepD w (Aj ρ Z)) ds vs) (hroom:(vs++more).length=room*sz) (hlim:room≤maxLen):
  Rel M Z w0 (BW ρ i (BI w sz room app)) (st.new i (.row sz ds app)) a (w1.alloc (.cells (vs++more).toArray e)):=by
 have hcell: ∀j,j<(vs++more).length→(w1.alloc (.cells (vs++more).toArray e)).cell? ⟨w.heap.size,j,none⟩=(vs++more)[j]? :=fun j hj=>by
  rw[←hs]
  simp
 refine h.new (Ext.trans hx (Ext.alloc w1 _)) i (Td w _ _ _) (fun _ j hj=>⟨?_,?_⟩) hlim ?_
 ·have hj':j<(vs++more).length:=by rw[hroom];simpa [BI]using hj
  refine⟨(vs++more)[j],?_⟩
  simp only[BI,Own.at,Nat.zero_add];rw[hcell j hj',Am hj']
 ·simpa [BI,Own.at,hs]using NY w1 (vs++more).toArray e j
 ·refine⟨rfl,rfl,?_,⟨fun hn=>by simp[BI]at hn,rfl⟩,fun j x hx'=> ?_⟩
  ·have:=hl.1
   simp[BI]at hroom ⊢
   omega
  ·have hj:j<ds.length:=(jzg.1 hx').1;have hj':j<vs.length:=by rw[←hl.1];exact hj
   have hv:vs[j]? =some vs[j]:=Am hj'
   refine⟨vs[j],?_,hl.2 j x _ hx' hv⟩
   simp only[BI,Own.at,Nat.zero_add];rw[hcell j (by simp;omega),List.getElem?_append_left hj',hv]
end
end Go.Va
