/- a part of the proof -/
import Derived.Test.YtlgoebgnbkhmmaaGreatDoorZaa
import Derived.Laws.Cells
import Derived.Laws.Entries
import Derived.Laws.NewBlocks
set_option linter.all false
namespace Go.Va
open Go.RowKit
variable [Gv]
section lists
variable {α β:Type}
theorem Ha(k:Nat): ∀l:List (Nat×α),lk k (rm k l)=none
 |[]=>rfl
 |(j,v)::r=>by
  unfold rm;by_cases h:j=k
  ·rw[if_pos h];exact Ha k r
  ·rw[if_neg h];unfold lk;rw[if_neg h];exact Ha k r
theorem BR{k j:Nat}(h:j≠k): ∀l:List (Nat×α),lk j (rm k l)=lk j l
 |[]=>rfl
 |(i,v)::r=>by
  unfold rm;by_cases hi:i=k
  ·rw[if_pos hi,BR h r];simp only[lk];grind
  ·rw[if_neg hi];unfold lk;by_cases hj:i=j
   ·grind
   ·rw[if_neg hj,if_neg hj];exact BR h r
theorem Hk{k j:Nat}{l:List (Nat×α)}{v:α}(h:lk j (rm k l)=some v):j≠k∧lk j l=some v:=by
 grind[Ha,BR]
theorem BN(f:α→β)(k:Nat): ∀l:List (Nat×α),lk k (l.map fun e=>(e.1,f e.2))=(lk k l).map f
 |[]=>rfl
 |(j,v)::r=>by
  simp only[List.map_cons,lk];by_cases h:j=k
  ·grind
  ·rw[if_neg h,if_neg h];exact BN f k r
theorem Bt(k:Nat)(v:α)(l:List (Nat×α)):lk k ((k,v)::l)=some v:=by unfold lk;rw[if_pos rfl]
theorem BD{k j:Nat}(h:j≠k)(v:α)(l:List (Nat×α)):lk j ((k,v)::l)=lk j l:=by simp only[lk];grind
end lists
theorem E2(g o n:Nat):(⟨g,o,none⟩:Addr).add n=⟨g,o+n,none⟩:=by grind[Addr.add]
theorem Il(a:Addr)(n:Nat)(h:a.spot=none):a.add n=⟨a.block,a.off+n,none⟩:=by
 obtain⟨b,o,s⟩:=a
 grind[E2]
def Keep(w w':World)(Z Z':Addr→Prop):Prop:= ∀(a:Addr) (x:Value),¬Z a→w.cell? a=some x→w'.cell? a=some x∧ ¬Z' a
theorem RepD.keep{w w':World}{Z Z':Addr→Prop}(hk:Keep w w' Z Z'){d:D}{v:Value}(h:RepD w Z d v):RepD w' Z' d v:=by
 induction h with
 |int k n=>exact .int k n
 |bool b=>exact .bool b
 |str s=>exact .str s
 |slice n cs a c vs hs hn hc h1 h2 h3 ih=>
  exact .slice n cs a c vs hs hn hc (fun j x hx=>(hk _ _ (h2 j x hx) (h1 j x hx)).1) (fun j x hx=>(hk _ _ (h2 j x hx) (h1 j x hx)).2) ih
 |snil=>exact .snil
 |ref cs a vs hs h1 h2 h3 ih=>
  exact .ref cs a vs hs (fun j x hx=>(hk _ _ (h2 j x hx) (h1 j x hx)).1) (fun j x hx=>(hk _ _ (h2 j x hx) (h1 j x hx)).2) ih
 |fn f caps vs hl h3 ih=>exact .fn f caps vs hl ih
 |nilFn=>exact .nilFn
 |nilPtr=>exact .nilPtr
 |iface t cs vs hl h3 ih=>exact .iface t cs vs hl ih
 |lit x h=>exact .lit x h
 |any x h=>exact .any x h
 |nn t x=>exact .nn t x
theorem Keep.refl(w:World)(Z:Addr→Prop):Keep w w Z Z:=fun _ _ h1 h2=>⟨h2,h1⟩
theorem Keep.mono{w:World}{Z Z':Addr→Prop}(h: ∀a,Z' a→Z a):Keep w w Z Z':=fun _ _ h1 h2=>(by grind)
theorem RepD.one{w:World}{Z:Addr→Prop}{d:D}{v:Value}(h:RepD w Z d v):one v:=by cases h<;>first|rfl|assumption
theorem RepC.one{ρ:AE}{w:World}{Z:Addr→Prop}{c:C}{v:Value}(h:RepC ρ w Z c v):one v:=by
 cases c with
 |d x=>exact RepD.one h
 |nl=>cases (show v=_ from h);rfl
 |sl i off n=>
  obtain⟨o,_,_,⟨_,rfl,_⟩|⟨_,a,c,rfl,_⟩⟩:=h<;>rfl
 |ptr i off=>obtain⟨o,_,_,rfl⟩:=h;rfl
 |bad=>exact h
 |mp q i=>obtain⟨o,_,rfl⟩:=h;cases q<;>rfl
theorem RepC.keep{ρ ρ':AE}{w w':World}{Z:Addr→Prop}(hk:Keep w w' (Ar ρ Z) (Ar ρ' Z)){c:C}{v:Value}(hid: ∀i,c.id? =some i→ρ' i=ρ i)(h:RepC ρ w Z c v):RepC ρ' w' Z c v:=by
 cases c with
 |d x=>exact RepD.keep hk h
 |nl=>exact h
 |sl i off n=>obtain⟨o,ho,r⟩:=h;exact⟨o,(hid i rfl).trans ho,r⟩
 |ptr i off=>obtain⟨o,ho,r⟩:=h;exact⟨o,(hid i rfl).trans ho,r⟩
 |bad=>exact h
 |mp q i=>obtain⟨o,ho,r⟩:=h;exact⟨o,(hid i rfl).trans ho,r⟩
def Ij:Nat→C→C:=fun _ c=>c
def Cf(ρ ρ':AE)(w w':World)(Z:Addr→Prop)(g:Nat→C→C):Prop:= ∀(c:C) (v:Value),RepC ρ w Z c v→RepC ρ' w' Z (c.on g) v
theorem RepL.imp{α β:Type}{r:α→Value→Prop}{s:β→Value→Prop}{xs:List α}{vs:List Value}(f:α→β)(h:RepL r xs vs)(hi: ∀x v,x∈xs→r x v→s (f x) v):RepL s (xs.map f) vs:=by
 refine⟨by simpa using h.1,fun j x v hx hv=> ?_⟩
 rw[Bf]at hx
 cases hy:xs[j]? with
 |none=>grind
 |some y=>
  rw[hy]at hx
  cases hx;exact hi y v (by grind) (h.2 j y v hy hv)
theorem RepU.turn{ρ ρ':AE}{w w':World}{Z:Addr→Prop}{g:Nat→C→C}(hg:Cf ρ ρ' w w' Z g){u:U}{v:Value}(h:RepU ρ w Z u v):RepU ρ' w' Z (u.on g) v:=by
 cases u with
 |c x=>exact hg _ _ h
 |agg cs=>obtain⟨vs,rfl,hl⟩:=h;exact⟨vs,rfl,hl.imp _ fun x v _=>hg x v⟩
 |clo f cs=>obtain⟨vs,rfl,hl⟩:=h;exact⟨vs,rfl,hl.imp _ fun x v _=>hg x v⟩
theorem RepV.turn{ρ ρ':AE}{w w':World}{Z:Addr→Prop}{g:Nat→C→C}(hg:Cf ρ ρ' w w' Z g){u:V}{v:Value}(h:RepV ρ w Z u v):RepV ρ' w' Z (u.on g) v:=by
 cases u with
 |u x=>exact RepU.turn hg h
 |tup xs=>obtain⟨vs,rfl,hl⟩:=h;exact⟨vs,rfl,hl.imp _ fun x v _=>RepU.turn hg⟩
 |tr x ys=>trivial
theorem Ib{x:Ob}{y:Obj}(h:IQ x y):Fc y:=fun c e f he=>by subst he;cases x<;>exact h
theorem RepB.turn{ρ ρ':AE}{w w':World}{Z:Addr→Prop}{g:Nat→C→C}(hg:Cf ρ ρ' w w' Z g)(hk:Keep w w' (Ar ρ Z) (Ar ρ' Z)){o:Own}{b:Blk}(h:RepB ρ w Z o b)
  (hc:o.gone=false→ ∀j,j<o.room*o.sz→w'.cell? (o.at j)=w.cell? (o.at j)) (hm:o.mp→ ∀y,Fc y→w.heap[o.g]? =some y→w'.heap[o.g]? =some y):RepB ρ' w' Z o (b.on g):=by
 cases b with
 |row sz cs app=>
  obtain⟨h1,h2,h3,h4,h5⟩:=h
  refine⟨h1,h2,h3,h4,fun j x hx=> ?_⟩
  obtain⟨v,hv,hd⟩:=h5 j x hx
  have hj:j<cs.length:=(by grind)
  have hn:o.nil=false:=by
   grind
  exact⟨v,(by grind),hd.keep hk⟩
 |box cs=>
  obtain⟨h1,h2,h3,h4⟩:=h
  refine⟨h1,by rw[h2];simp,h3,fun j c hc'=> ?_⟩
  rw[Bf]at hc'
  cases hy:cs[j]? with
  |none=>grind
  |some y=>
   rw[hy]at hc'
   cases hc'
   obtain⟨v,hv,h1v,hr⟩:=h4 j y hy
   have hj:j<cs.length:=(by grind)
   exact⟨v,(by grind),h1v,hg _ _ hr⟩
 |fbox f cs=>
  obtain⟨h1,h2,h3,v,hv,hr⟩:=h
  exact⟨h1,h2,h3,v,(by simp_all),RepU.turn (u:= .clo f cs) hg hr⟩
 |mp x=>
  obtain⟨h1,h2,y,h3,h4⟩:=h
  exact⟨h1,h2,y,hm h2 y (Ib h4) h3,h4⟩
 |gh cs=>
  obtain⟨h1,h2,h3⟩:=h
  refine⟨h1,h2,fun j c hc' u hu=> ?_⟩
  rw[Bf,jze]at hc'
  obtain⟨y,hy,rfl⟩:=hc'
  exact hg _ _ (h3 j y hy u hu)
theorem RepB.thaw{ρ:AE}{w:World}{Z:Addr→Prop}{o:Own}{b:Blk}(hb:RepB ρ w Z o b)(hn:o.nil=false):o.gone=false:=by
 cases b with
 |row sz cs app=>exact hb.2.2.2.1.2.trans hn
 |box cs=>exact hb.2.2.1.2
 |fbox f cs=>exact hb.2.2.1.2
 |mp x=>exact hb.2.1.2
 |gh cs=>rw[hb.2.1.1]at hn;cases hn
def upd(ρ:AE)(i:Nat)(o:Option Own):AE:=fun j=>if j=i then o else ρ j
theorem BZ(ρ:AE)(i:Nat)(o:Option Own):upd ρ i o i=o:=by simp[upd]
theorem BG(ρ:AE){i j:Nat}(o:Option Own)(h:j≠i):upd ρ i o j=ρ j:=by simp[upd,h]
theorem Gt{ρ:AE}{i j:Nat}{o:Own}(h:upd ρ i none j=some o):j≠i∧ρ j=some o:=by
 grind[BZ,BG]
theorem Q3{ρ:AE}{Z:Addr→Prop}{i:Nat}{a:Addr}(h:Ar (upd ρ i none) Z a):Ar ρ Z a:=by
 rcases h with h|⟨j,o,hj,ho⟩
 ·exact .inl h
 ·exact .inr (by grind[Gt])
theorem Owns.erase{ρ:AE}{w:World}(h:Owns ρ w)(i:Nat):Owns (upd ρ i none) w:=
 ⟨fun j o hj=>h.cells j o (Gt hj).2,fun j j' o o' hj hj'=>h.apart j j' o o' (Gt hj).2 (Gt hj').2,fun j o hj=>h.lim j o (Gt hj).2⟩
theorem Tj(ρ:AE)(w:World)(Z:Addr→Prop)(i:Nat):Cf ρ (upd ρ i none) w w Z (Bm i):=by
 intro c v h;have hk:Keep w w (Ar ρ Z) (Ar (upd ρ i none) Z):=Keep.mono fun _=>Q3
 cases c with
 |d x=>exact RepC.keep hk (fun _ h=>by cases h) h
 |nl=>exact h
 |bad=>exact h
 |sl j off n=>
  simp only[C.on,Bm];split
  ·exact RepC.one h
  ·rename_i hj
   exact RepC.keep hk (fun k hk'=>by cases hk';grind[BG]) h
 |ptr j off=>
  simp only[C.on,Bm];split
  ·exact RepC.one h
  ·rename_i hj
   exact RepC.keep hk (fun k hk'=>by cases hk';grind[BG]) h
 |mp q j=>
  simp only[C.on,Bm];split
  ·exact RepC.one h
  ·rename_i hj
   exact RepC.keep hk (fun k hk'=>by cases hk';grind[BG]) h
theorem Wx{w:World}{g:Nat}{y:Obj}(hl:w.heap[g]? =some y)(hy:Fc y){ad:Addr}{v:Value}(hb:ad.block=g)(h:w.cell? ad=some v):False:=by
 unfold World.cell? at h;rw[hb,hl]at h;cases y<;>first|exact hy _ _ _ rfl|cases h
theorem Mps.sub{w:World}{ρ ρ':AE}(h:Mps ρ w)(f: ∀i o,ρ' i=some o→o.mp→ρ i=some o):Mps ρ' w:=fun i o hi hm=>h i o (f i o hi hm) hm
theorem Mps.to{w w':World}{ρ:AE}(h:Mps ρ w)(f: ∀i o,ρ i=some o→o.mp→ ∀y,Fc y→w.heap[o.g]? =some y→w'.heap[o.g]? =some y):Mps ρ w':=fun i o hi hm=>by
 obtain⟨y,hl,hy⟩:=h i o hi hm
 grind
theorem ER{o:Own}(hm:o.mp){ad:Addr}(h:ad.block=o.g):o.has ad:=⟨hm.2,h,.inl hm.1,.inl hm.1⟩
theorem Own.has_cases{o:Own}{ad:Addr}(h:o.has ad):(o.gone=false∧ad.block=o.g∧o.o≤ad.off∧ad.off<o.o+o.room*o.sz)∨(o.mp∧ad.block=o.g):=by
 obtain⟨h1,h2,h3,h4⟩:=h
 cases hn:o.nil with
 |true=>exact .inr ⟨⟨hn,h1⟩,h2⟩
 |false=>grind
theorem RepB.nomp{ρ:AE}{w:World}{Z:Addr→Prop}{o:Own}{b:Blk}(hb:RepB ρ w Z o b)(hn: ∀x,b≠ .mp x): ¬o.mp:=fun hm=>by
 obtain⟨h1,h2⟩:=hm
 cases b with
 |row sz cs app=>rw[hb.2.2.2.1.2,h1]at h2;cases h2
 |box cs=>rw[hb.2.2.1.1]at h1;cases h1
 |fbox f cs=>rw[hb.2.2.1.1]at h1;cases h1
 |mp x=>exact hn x rfl
 |gh cs=>rw[hb.2.1.2]at h2;cases h2
theorem JG(i:Nat)(st:St):st.purge i={ st.on (Bm i)with h:=rm i (st.on (Bm i)).h }:=rfl
variable {M Z:Addr→Prop} {w0 w:World} {ρ:AE} {st:St} {a:Act}
theorem Rel.purge(h:Rel M Z w0 ρ st a w)(i:Nat):Rel M Z w0 (upd ρ i none) (st.purge i) a w where
 fr:=h.fr
 heap:=⟨h.heap.owns.erase i,fun j b hb=>by
  rw[JG]at hb
  obtain⟨hne,hb⟩:=Hk hb
  simp only[St.on]at hb;rw[BN]at hb;cases hl:lk j st.h with
  |none=>grind
  |some b0=>
   rw[hl]at hb
   cases hb;obtain⟨o,ho,hr⟩:=h.heap.rep j b0 hl
   exact⟨o,(by grind[BG]),hr.turn (Tj ρ w Z i) (Keep.mono fun _=>Q3) (fun _ _ _=>rfl) (fun _ _ _ h=>h)⟩⟩
 mine:=fun j o ad hj=>h.mine j o ad (Gt hj).2
 out:=h.out
 mz:=h.mz
 tmps:=fun t v hv=>by
  rw[JG]at hv
  simp only[St.on]at hv;rw[BN]at hv;cases hl:lk t st.t with
  |none=>grind
  |some v0=>
   rw[hl]at hv
   cases hv;exact(h.tmps t v0 hl).turn (Tj ρ w Z i)
 defers:=h.defers
 mps:=h.mps.sub (by grind[Gt])
def Own.dead(o:Own):Own:={ o with gone:=true }
theorem Own.dead_has(o:Own)(ad:Addr): ¬o.dead.has ad:=fun h=>by cases h.1
def Cb(ρ:AE)(i:Nat):AE:=upd ρ i ((ρ i).map Own.dead)
theorem IH{ρ:AE}{i j:Nat}{o:Own}(h:Cb ρ i j=some o): ∃o',ρ j=some o'∧((j=i∧o=o'.dead)∨(j≠i∧o=o')):=by
 unfold Cb at h;by_cases e:j=i
 ·subst e;rw[BZ,jze]at h
  grind
 ·rw[BG ρ _ e]at h
  grind
theorem Jm{ρ:AE}{i j:Nat}{o:Own}(h:Cb ρ i j=some o){ad:Addr}(hh:o.has ad):j≠i∧ρ j=some o:=by
 obtain⟨o',h1,⟨_,rfl⟩|⟨h2,rfl⟩⟩:=IH h
 ·exact absurd hh (o'.dead_has ad)
 grind
theorem Jj{ρ:AE}{Z:Addr→Prop}{i:Nat}{a:Addr}(h:Ar (Cb ρ i) Z a):Ar ρ Z a:=by
 rcases h with h|⟨j,o,hj,ho⟩
 ·exact .inl h
 ·exact .inr (by grind[Jm])
theorem OZ(ρ:AE)(w:World)(Z:Addr→Prop)(i:Nat):Cf ρ (Cb ρ i) w w Z Ij:=by
 intro c v h;have hk:Keep w w (Ar ρ Z) (Ar (Cb ρ i) Z):=Keep.mono fun _=>Jj
 have hc:c.on Ij=c:=by cases c<;>rfl
 rw[hc]
 cases c with
 |d x=>exact RepD.keep hk h
 |nl=>exact h
 |bad=>exact h
 |sl j off n=>
  obtain⟨o,ho,r⟩:=h
  by_cases e:j=i
  ·subst e;exact⟨o.dead,by simp[Cb,BZ,ho],r⟩
  ·exact⟨o,(BG ρ _ e).trans ho,r⟩
 |ptr j off=>
  obtain⟨o,ho,r⟩:=h
  by_cases e:j=i
  ·subst e;exact⟨o.dead,by simp[Cb,BZ,ho],r⟩
  ·exact⟨o,(BG ρ _ e).trans ho,r⟩
 |mp q j=>
  obtain⟨o,ho,r⟩:=h
  by_cases e:j=i
  ·subst e;exact⟨o.dead,by simp[Cb,BZ,ho],r⟩
  ·exact⟨o,(BG ρ _ e).trans ho,r⟩
def C7(ρ:AE)(i j:Nat):AE:=fun k=>if k=i then ρ j else if k=j then none else ρ k
theorem EY{ρ:AE}{i j k:Nat}{o:Own}(h:C7 ρ i j k=some o):(k=i∧ρ j=some o)∨(k≠i∧k≠j∧ρ k=some o):=by
 grind[C7]
theorem jic(ρ:AE)(w:World)(Z:Addr→Prop){i j:Nat}:Cf ρ (C7 ρ i j) w w Z (C0 i j):=by
 have hk:Keep w w (Ar ρ Z) (Ar (C7 ρ i j) Z):=Keep.mono fun ad h=>by
  rcases h with h|⟨k,o,hk,ho⟩
  ·exact .inl h
  ·rcases EY hk with⟨_,h1⟩|⟨_,_,h1⟩
   ·exact .inr ⟨j,o,h1,ho⟩
   ·exact .inr ⟨k,o,h1,ho⟩
 have look: ∀k o,k≠j→k≠i→ρ k=some o→C7 ρ i j k=some o:=(by grind[C7])
 intro c v h;cases c with
 |d x=>exact RepD.keep hk h
 |nl=>exact h
 |bad=>exact h
 |sl k off n=>
  simp only[C.on,C0];by_cases e1:k=j
  ·simp only[e1,if_true,C.to];obtain⟨o,ho,r⟩:=h;exact⟨o,by grind[C7],r⟩
  ·simp only[e1,if_false];by_cases e2:k=i
   ·simp only[e2,if_true];exact RepC.one h
   ·simp only[e2,if_false];obtain⟨o,ho,r⟩:=h;exact⟨o,look k o e1 e2 ho,r⟩
 |ptr k off=>
  simp only[C.on,C0];by_cases e1:k=j
  ·simp only[e1,if_true,C.to];obtain⟨o,ho,r⟩:=h;exact⟨o,by grind[C7],r⟩
  ·simp only[e1,if_false];by_cases e2:k=i
   ·simp only[e2,if_true];exact RepC.one h
   ·simp only[e2,if_false];obtain⟨o,ho,r⟩:=h;exact⟨o,look k o e1 e2 ho,r⟩
 |mp q k=>
  simp only[C.on,C0];by_cases e1:k=j
  ·simp only[e1,if_true,C.to];obtain⟨o,ho,r⟩:=h;exact⟨o,by grind[C7],r⟩
  ·simp only[e1,if_false];by_cases e2:k=i
   ·simp only[e2,if_true];exact RepC.one h
   ·simp only[e2,if_false];obtain⟨o,ho,r⟩:=h;exact⟨o,look k o e1 e2 ho,r⟩
theorem Rel.rn(h:Rel M Z w0 ρ st a w)(i j:Nat): ∃ρ',Rel M Z w0 ρ' (st.rn i j) a w:=by
 unfold St.rn;by_cases hij:i=j
 ·grind
 rw[if_neg hij]
 cases hb:lk j st.h with
 |none=>exact⟨ρ,h⟩
 |some b=>
  have ht:=jic ρ w Z (i:=i) (j:=j);have hk:Keep w w (Ar ρ Z) (Ar (C7 ρ i j) Z):=Keep.mono fun ad h=>by
   rcases h with h|⟨k,o,hk,ho⟩
   ·exact .inl h
   ·rcases EY hk with⟨_,h1⟩|⟨_,_,h1⟩
    ·exact .inr ⟨j,o,h1,ho⟩
    ·exact .inr ⟨k,o,h1,ho⟩
  refine⟨C7 ρ i j,?_⟩
  exact {
   fr:=h.fr
   heap:=⟨⟨fun k o hk'=>by
     rcases EY hk' with⟨_,h1⟩|⟨_,_,h1⟩
     ·exact h.heap.owns.cells j o h1
     ·exact h.heap.owns.cells k o h1,
    fun k k' o o' hk1 hk2 hne=>by
     rcases EY hk1 with⟨e1,h1⟩|⟨_,n1,h1⟩
     ·rcases EY hk2 with⟨e2,h2⟩|⟨_,n2,h2⟩
      ·omega
      ·exact h.heap.owns.apart j k' o o' h1 h2 (by omega)
     ·rcases EY hk2 with⟨e2,h2⟩|⟨_,n2,h2⟩
      ·exact h.heap.owns.apart k j o o' h1 h2 n1
      ·exact h.heap.owns.apart k k' o o' h1 h2 hne,
    fun k o hk'=>by
     rcases EY hk' with⟨_,h1⟩|⟨_,_,h1⟩
     ·exact h.heap.owns.lim j o h1
     ·exact h.heap.owns.lim k o h1⟩,fun k b' hb'=>by
    by_cases e:k=i
    ·subst e;rw[Bt]at hb';cases hb';obtain⟨o,ho,hr⟩:=h.heap.rep j b hb;exact⟨o,by simp[C7,ho],hr.turn ht hk (fun _ _ _=>rfl) (fun _ _ _ h=>h)⟩
    ·rw[BD e,BR e]at hb'
     obtain⟨hne,hb'⟩:=Hk hb'
     simp only[St.on]at hb';rw[BN,jze]at hb';obtain⟨b0,hb0,rfl⟩:=hb';obtain⟨o,ho,hr⟩:=h.heap.rep k b0 hb0;exact⟨o,by grind[C7],hr.turn ht hk (fun _ _ _=>rfl) (fun _ _ _ h=>h)⟩⟩
   mine:=fun k o ad hk'=>by
    rcases EY hk' with⟨_,h1⟩|⟨_,_,h1⟩
    ·exact h.mine j o ad h1
    ·exact h.mine k o ad h1
   out:=h.out
   mz:=h.mz
   tmps:=fun t v hv=>by
    simp only[St.on]at hv;rw[BN,jze]at hv;obtain⟨v0,hv0,rfl⟩:=hv;exact(h.tmps t v0 hv0).turn ht
   defers:=h.defers
   mps:=fun k o hk' hm=>by
    rcases EY hk' with⟨_,h1⟩|⟨_,_,h1⟩
    ·exact h.mps j o h1 hm
    ·exact h.mps k o h1 hm }
theorem Rel.rns: ∀(rs:List (Nat×Nat)) {ρ:AE} {st:St},Rel M Z w0 ρ st a w→ ∃ρ',Rel M Z w0 ρ' (rns rs st) a w
 |[],ρ,st,h=>⟨ρ,h⟩
 |(i,j)::r,ρ,st,h=>by
  obtain⟨ρ1,h1⟩:=h.rn i j
  exact Rel.rns r h1
theorem Ext.cell{w w':World}(h:Ext w w'){a:Addr}{v:Value}(hv:w.cell? a=some v):w'.cell? a=some v:=
 (Below.cell h.toBelow (World.block_lt_of_cell? w a hv)).trans hv
theorem Ext.frozen{w w':World}(h:Ext w w'){p:Addr}(hp:p.block<w.heap.size):w'.frozen? p=w.frozen? p:=Below.frozen h.toBelow hp
theorem Ext.obj{w w':World}(h:Ext w w'){k:Nat}{y:Obj}(hy:w.heap[k]? =some y):w'.heap[k]? =some y:=(h.block k (by grind)).trans hy
theorem Ext.refl(w:World):Ext w w:=⟨Below.refl _ _,DR.refl _⟩
theorem Ext.trans{a b c:World}(h:Ext a b)(k:Ext b c):Ext a c:=⟨Below.trans h.toBelow (k.toBelow.mono h.size),h.drawn.trans k.drawn⟩
theorem Ext.alloc(w:World)(o:Obj):Ext w (w.alloc o):=⟨(Below.refl _ _).alloc (AO _) o,DR.refl _⟩
theorem Ext.drew(w:World):Ext w w.drew:=⟨(Below.refl _ _).drew,DR.le (Nat.le_succ _)⟩
theorem Fr.ext(h:Fr M w0 w){w':World}(hx:Ext w w'):Fr M w0 w' where
 os:=hx.os.trans h.os
 drawn:=h.drawn.trans hx.drawn
 tape:=hx.tape.trans h.tape
 output:=hx.output.trans h.output
 size:=Nat.le_trans h.size hx.size
 cell:=fun a v hm hv=>hx.cell (h.cell a v hm hv)
 frz:=fun a hm ha=>(hx.frozen (Nat.lt_of_lt_of_le ha h.size)).trans (h.frz a hm ha)
 blk:=fun k hk hm=>(hx.block k (Nat.lt_of_lt_of_le hk h.size)).trans (h.blk k hk hm)
theorem Keep.ext{w w':World}(hx:Ext w w')(Z:Addr→Prop):Keep w w' Z Z:=fun _ _ h1 h2=>⟨hx.cell h2,h1⟩
theorem Owns.ext(h:Owns ρ w){w':World}(hx:Ext w w'):Owns ρ w':=
 ⟨fun i o hi hn j hj=>by
  obtain⟨⟨v,hv⟩,hf⟩:=h.cells i o hi hn j hj
  exact⟨⟨v,hx.cell hv⟩,(hx.frozen (World.block_lt_of_cell? w _ hv)).trans hf⟩,h.apart,h.lim⟩
theorem TQ{w w':World}(hx:Ext w w')(ρ:AE)(Z:Addr→Prop)(c:C)(v:Value)(h:RepC ρ w Z c v):RepC ρ w' Z c v:=h.keep (Keep.ext hx _) (fun _ _=>rfl)
abbrev Dt:Nat→C→C:=Ij
theorem C.on_id(c:C):c.on Dt=c:=by cases c<;>rfl
theorem H4(l:List C):l.map (C.on Dt)=l:=by
 induction l with
 |nil=>rfl
 |cons c r ih=>rw[List.map_cons,C.on_id,ih]
theorem U.on_id(u:U):u.on Dt=u:=by
 cases u with
 |c x=>simp[U.on,C.on_id]
 |agg cs=>simp[U.on,H4]
 |clo f cs=>simp[U.on,H4]
theorem V.on_id(u:V):u.on Dt=u:=by
 cases u with
 |u x=>simp[V.on,U.on_id]
 |tup xs=>
  have:xs.map (U.on Dt)=xs:=by
   induction xs with
   |nil=>rfl
   |cons c r ih=>rw[List.map_cons,U.on_id,ih]
  simp[V.on,this]
 |tr x ys=>rfl
theorem Blk.on_id(b:Blk):b.on Dt=b:=by
 cases b with
 |row=>rfl
 |box cs=>simp[Blk.on,H4]
 |fbox f cs=>simp[Blk.on,H4]
 |mp x=>rfl
 |gh cs=>simp[Blk.on,H4]
theorem Rel.ext(h:Rel M Z w0 ρ st a w){w':World}(hx:Ext w w'):Rel M Z w0 ρ st a w' where
 fr:=h.fr.ext hx
 heap:=⟨h.heap.owns.ext hx,fun i b hb=>by
  obtain⟨o,ho,hr⟩:=h.heap.rep i b hb
  refine⟨o,ho,?_⟩
  have ht:Cf ρ ρ w w' Z Dt:=fun c v hc=>by grind[C.on_id,TQ]
  have:=hr.turn ht (Keep.ext hx _) (fun hn j hj=>by
   obtain⟨⟨v,hv⟩,_⟩:=h.heap.owns.cells i o ho hn j hj
   rw[hv,hx.cell hv]) (fun _ _ _ h=>hx.obj h)
  rwa [Blk.on_id]at this⟩
 mine:=h.mine
 out:=h.out
 mz:=h.mz
 tmps:=fun t v hv=>by
  have ht:Cf ρ ρ w w' Z Dt:=fun c v hc=>by grind[C.on_id,TQ]
  have:=(h.tmps t v hv).turn ht
  rwa [V.on_id]at this
 defers:=h.defers
 mps:=h.mps.to fun _ _ _ _ _ _ h=>hx.obj h
theorem Rel.drop(h:Rel M Z w0 ρ st a w)(i:Nat):Rel M Z w0 (Cb ρ i) (st.drop i) a w where
 fr:=h.fr
 heap:=⟨⟨fun j o hj hn=>by
   obtain⟨o',h1,⟨_,rfl⟩|⟨_,rfl⟩⟩:=IH hj
   ·cases hn
   ·exact h.heap.owns.cells j o h1 hn,
  fun j j' o o' hj hj' hne ad h1 h2=>h.heap.owns.apart j j' o o' (Jm hj h1).2 (Jm hj' h2).2 hne ad h1 h2,
  fun j o hj=>by
   obtain⟨o',h1,⟨_,rfl⟩|⟨_,rfl⟩⟩:=IH hj
   ·exact h.heap.owns.lim j o' h1
   ·exact h.heap.owns.lim j o h1⟩,fun j b hb=>by
  obtain⟨hne,hb⟩:=Hk hb
  obtain⟨o,ho,hr⟩:=h.heap.rep j b hb
  have:=hr.turn (OZ ρ w Z i) (Keep.mono fun _=>Jj) (fun _ _ _=>rfl) (fun _ _ _ h=>h)
  have e:b.on Ij=b:=Blk.on_id b
  rw[e]at this
  exact⟨o,(BG ρ _ hne).trans ho,this⟩⟩
 mine:=fun j o ad hj hh=>h.mine j o ad (Jm hj hh).2 hh
 out:=h.out
 mz:=h.mz
 tmps:=fun t v hv=>by
  have:=(h.tmps t v hv).turn (OZ ρ w Z i)
  grind[Ij,V.on_id]
 defers:=h.defers
 mps:=h.mps.sub fun j o hj hm=>by
  obtain⟨o',h1,⟨_,rfl⟩|⟨_,rfl⟩⟩:=IH hj
  ·cases hm.2
  ·exact h1
theorem Rel.put(h:Rel M Z w0 ρ st a w){dst:Option Nat}{v:V}{x:Value}(hd: ∀d,dst=some d→d<a.tmps.size)(hv:RepV ρ w Z v x):Rel M Z w0 ρ (st.put dst v) (a.put dst x) w where
 fr:=h.fr
 heap:=by cases dst<;>exact h.heap
 mine:=h.mine
 out:=h.out
 mz:=h.mz
 tmps:=fun t u hu=>by
  cases dst with
  |none=>exact h.tmps t u hu
  |some d=>
   simp only[St.put]at hu;by_cases e:t=d
   ·subst e;rw[Bt]at hu;cases hu;have:=hd t rfl
    simp_all[Act.put,Array.getD]
   ·rw[BD e,BR e]at hu
    have:=h.tmps t u hu
    simp only[Act.put,Cn];rw[Array.getElem?_setIfInBounds_ne (fun h=>e h.symm),←Cn]
    exact this
 defers:=by cases dst<;>exact h.defers
 mps:=h.mps
theorem Rel.add(h:Rel M Z w0 ρ st a w){i:Nat}{o:Own}{b:Blk}(hi:ρ i=none)
  (hnew: ∀ad,o.has ad→w0.heap.size≤ad.block) (hold: ∀ad,o.has ad→ad.block<w.heap.size→False) {w':World} (hx:Ext w w')
  (hcells:o.gone=false→ ∀j,j<o.room*o.sz→(∃v,w'.cell? (o.at j)=some v)∧w'.frozen? (o.at j)=false) (hlim:o.room≤maxLen)
  (hb:RepB (upd ρ i (some o)) w' Z o b) (hmp:o.mp→w.heap.size≤o.g∧ ∃y,w'.heap[o.g]? =some y∧Fc y):Rel M Z w0 (upd ρ i (some o)) (st.blk i b) a w':=by
 have hfar: ∀ad v,o.has ad→w.cell? ad=some v→False:=fun ad v ho hv=>hold ad ho (World.block_lt_of_cell? w ad hv)
 have hk:Keep w w' (Ar ρ Z) (Ar (upd ρ i (some o)) Z):=fun ad x hn hv=>⟨hx.cell hv,fun ho=>by
  rcases ho with ho|⟨j,o',hj,ho⟩
  ·exact hn (.inl ho)
  ·by_cases e:j=i
   ·grind[BZ]
   ·rw[BG ρ _ e]at hj
    exact hn (.inr ⟨j,o',hj,ho⟩)⟩
 have ht:Cf ρ (upd ρ i (some o)) w w' Z Dt:=fun c v hc=>by
  rw[C.on_id]
  refine hc.keep hk fun j hj=> ?_
  by_cases e:j=i
  ·subst e;cases c with
   |sl k off n=>cases hj;obtain⟨o',ho',_⟩:=hc;grind
   |ptr k off=>cases hj;obtain⟨o',ho',_⟩:=hc;grind
   |mp q k=>cases hj;obtain⟨o',ho',_⟩:=hc;grind
   |_=>cases hj
  grind[BG]
 exact {
  fr:=h.fr.ext hx
  heap:=⟨⟨fun j o' hj hn k hk'=>by
    by_cases e:j=i
    ·grind[BZ]
    ·rw[BG ρ _ e]at hj;exact(h.heap.owns.ext hx).cells j o' hj hn k hk',
   fun j j' o1 o2 hj hj' hne ad h1 h2=>by
    by_cases e:j=i
    ·subst e;rw[BZ]at hj;cases hj;rw[BG ρ _ (by omega)]at hj'
     rcases Own.has_cases h2 with⟨hn,hbk,hlo,hhi⟩|⟨hm,hbk⟩
     case inr=>
      obtain⟨y,hl,_⟩:=h.mps j' o2 hj' hm
      grind
     obtain⟨⟨v,hv⟩,_⟩:=h.heap.owns.cells j' o2 hj' hn (ad.off - o2.o) (by omega)
     have h1':=h1;obtain⟨hn1,hb1,hl1,hh1⟩:=h1;have he:(o2.at (ad.off - o2.o))=⟨ad.block,ad.off,none⟩:=by grind
     rw[he]at hv
     exact hfar ⟨ad.block,ad.off,none⟩ v ⟨hn1,hb1,hl1,hh1⟩ hv
    ·by_cases e':j'=i
     ·subst e';rw[BZ]at hj';cases hj';rw[BG ρ _ e]at hj;rcases Own.has_cases h1 with⟨hn,hbk,hlo,hhi⟩|⟨hm,hbk⟩
      case inr=>
       obtain⟨y,hl,_⟩:=h.mps j o1 hj hm
       grind
      obtain⟨⟨v,hv⟩,_⟩:=h.heap.owns.cells j o1 hj hn (ad.off - o1.o) (by omega)
      obtain⟨hn1,hb1,hl1,hh1⟩:=h2
      have he:(o1.at (ad.off - o1.o))=⟨ad.block,ad.off,none⟩:=by grind
      rw[he]at hv
      exact hfar ⟨ad.block,ad.off,none⟩ v ⟨hn1,hb1,hl1,hh1⟩ hv
     ·rw[BG ρ _ e]at hj
      rw[BG ρ _ e']at hj'
      exact h.heap.owns.apart j j' o1 o2 hj hj' hne ad h1 h2,
   fun j o' hj=>by
    by_cases e:j=i
    ·grind[BZ]
    ·rw[BG ρ _ e]at hj;exact h.heap.owns.lim j o' hj⟩,
   fun j b' hb'=>by
    by_cases e:j=i
    ·grind[St.blk,Bt,BZ]
    ·simp only[St.blk]at hb';rw[BD e,BR e]at hb';obtain⟨o',ho',hr⟩:=h.heap.rep j b' hb';refine⟨o',(BG ρ _ e).trans ho',?_⟩;have:=hr.turn ht hk (fun hn k hk'=>by
      obtain⟨⟨v,hv⟩,_⟩:=h.heap.owns.cells j o' ho' hn k hk'
      rw[hv,hx.cell hv]) (fun _ _ _ h=>hx.obj h)
     rwa [Blk.on_id]at this⟩
  mine:=fun j o' ad hj ho=>by
   by_cases e:j=i
   ·grind[BZ]
   ·rw[BG ρ _ e]at hj;exact h.mine j o' ad hj ho
  out:=h.out
  mz:=h.mz
  tmps:=fun t v hv=>by
   have:=(h.tmps t v hv).turn ht
   rwa [V.on_id]at this
  defers:=h.defers
  mps:=fun j o' hj hm=>by
   by_cases e:j=i
   ·grind[BZ]
   ·rw[BG ρ _ e]at hj
    obtain⟨y,hl,hy⟩:=h.mps j o' hj hm
    exact⟨y,hx.obj hl,hy⟩ }
def RepAt(ρ:AE)(w:World)(Z:Addr→Prop)(w':World)(o:Own):Blk→Prop
 | .row sz cs app=>o.sz=sz∧o.app=app∧cs.length≤o.room*sz∧((o.nil=true→o.room=0)∧o.gone=o.nil)∧
   ∀(j:Nat) (x:D),cs[j]? =some x→ ∃v,w'.cell? (o.at j)=some v∧RepD w (Ar ρ Z) x v
 | .box cs=>o.sz=1∧o.room=cs.length∧(o.nil=false∧o.gone=false)∧
   ∀(j:Nat) (c:C),cs[j]? =some c→ ∃v,w'.cell? (o.at j)=some v∧one v∧RepC ρ w Z c v
 | .fbox f cs=>o.sz=1∧o.room=1∧(o.nil=false∧o.gone=false)∧ ∃v,w'.cell? (o.at 0)=some v∧RepU ρ w Z (.clo f cs) v
 | .mp x=>o.room=0∧o.mp∧ ∃y,w'.heap[o.g]? =some y∧IQ x y
 | .gh cs=>o.room=0∧(o.nil=true∧o.gone=true)∧ ∀(j:Nat) (c:C),cs[j]? =some c→ ∀v,Gv.gv j v→RepC ρ w Z c v
def BW(ρ:AE)(i:Nat)(o:Own):AE:=upd (upd ρ i none) i (some o)
theorem Cd(ρ:AE)(i:Nat)(o:Own):BW ρ i o i=some o:=BZ _ _ _
theorem Gn(ρ:AE){i j:Nat}(o:Own)(h:j≠i):BW ρ i o j=ρ j:=by simp_all[BW,BG]
theorem Kf{w':World}(hx:Ext w w'){i:Nat}{o:Own}(hfar: ∀ad,o.has ad→w.heap.size≤ad.block):Keep w w' (Ar ρ Z) (Ar (BW ρ i o) Z):=fun ad x hn hv=>⟨hx.cell hv,fun ho=>by
 rcases ho with ho|⟨j,o',hj,ho⟩
 ·exact hn (.inl ho)
 ·by_cases e:j=i
  ·subst e;rw[Cd]at hj;cases hj;have:=hfar ad ho;have:=World.block_lt_of_cell? w ad hv;omega
  ·rw[Gn ρ _ e]at hj
   exact hn (.inr ⟨j,o',hj,ho⟩)⟩
theorem NB{w':World}(hx:Ext w w'){i:Nat}{o:Own}(hfar: ∀ad,o.has ad→w.heap.size≤ad.block):Cf ρ (BW ρ i o) w w' Z (Bm i):=by
 intro c v h;have hk:=Kf (ρ:=ρ) (Z:=Z) (i:=i) hx hfar;cases c with
 |d x=>exact RepC.keep hk (fun _ h=>by cases h) h
 |nl=>exact h
 |bad=>exact h
 |sl j off n=>
  simp only[C.on,Bm];split
  ·exact RepC.one h
  ·rename_i hj
   exact RepC.keep hk (fun k hk'=>by cases hk';exact Gn ρ o hj) h
 |ptr j off=>
  simp only[C.on,Bm];split
  ·exact RepC.one h
  ·rename_i hj
   exact RepC.keep hk (fun k hk'=>by cases hk';exact Gn ρ o hj) h
 |mp q j=>
  simp only[C.on,Bm];split
  ·exact RepC.one h
  ·rename_i hj
   exact RepC.keep hk (fun k hk'=>by cases hk';exact Gn ρ o hj) h
theorem RepAt.new{w':World}(hx:Ext w w'){i:Nat}{o:Own}(hfar: ∀ad,o.has ad→w.heap.size≤ad.block){b:Blk}(h:RepAt ρ w Z w' o b):RepB (BW ρ i o) w' Z o (b.on (Bm i)):=by
 have hk:=Kf (ρ:=ρ) (Z:=Z) (i:=i) hx hfar;cases b with
 |row sz cs app=>
  obtain⟨h1,h2,h3,h4,h5⟩:=h
  refine⟨h1,h2,h3,h4,fun j x hx=> ?_⟩
  obtain⟨v,hv,hd⟩:=h5 j x hx
  exact⟨v,hv,hd.keep hk⟩
 |box cs=>
  obtain⟨h1,h2,h3,h4⟩:=h
  refine⟨h1,by rw[h2];simp,h3,fun j c hc'=> ?_⟩
  rw[Bf]at hc'
  cases hy:cs[j]? with
  |none=>grind
  |some y=>
   rw[hy]at hc'
   cases hc'
   obtain⟨v,hv,h1v,hr⟩:=h4 j y hy
   exact⟨v,hv,h1v,NB hx hfar _ _ hr⟩
 |fbox f cs=>
  obtain⟨h1,h2,h3,v,hv,hr⟩:=h
  exact⟨h1,h2,h3,v,hv,RepU.turn (u:= .clo f cs) (NB hx hfar) hr⟩
 |mp x=>exact h
 |gh cs=>
  obtain⟨h1,h2,h3⟩:=h
  refine⟨h1,h2,fun j c hc' u hu=> ?_⟩
  rw[Bf,jze]at hc'
  obtain⟨y,hy,rfl⟩:=hc'
  exact NB hx hfar _ _ (h3 j y hy u hu)
theorem Rel.new(h:Rel M Z w0 ρ st a w){w':World}(hx:Ext w w')(i:Nat){o:Own}{b:Blk}(hfar: ∀ad,o.has ad→w.heap.size≤ad.block)
  (hcells:o.gone=false→ ∀j,j<o.room*o.sz→(∃v,w'.cell? (o.at j)=some v)∧w'.frozen? (o.at j)=false) (hlim:o.room≤maxLen) (hb:RepAt ρ w Z w' o b) (hmp:o.mp→w.heap.size≤o.g∧ ∃y,w'.heap[o.g]? =some y∧Fc y:=by first|exact fun h=>Bool.noConfusion (show false=true from h.1)|exact fun h=>Bool.noConfusion (show true=false from h.2)):
  Rel M Z w0 (BW ρ i o) (st.new i b) a w':=by
 refine(h.purge i).add (BZ _ _ _) (fun ad hh=> ?_) (fun ad hh hv=> ?_) hx hcells hlim (hb.new hx hfar) hmp
 ·exact Nat.le_trans h.fr.size (hfar ad hh)
 ·have:=hfar ad hh
  omega
end Go.Va
namespace Go.Va
open Go.RowKit
variable [Gv]
theorem Dl{α β:Type}{f:α→Option β}: ∀{l:List α} {r:List β},l.mapM f=some r→r.length=l.length∧ ∀(j:Nat) (x:α),l[j]? =some x→ ∃y,r[j]? =some y∧f x=some y
 |[],r,h=>by grind
 |a::l,r,h=>by
  simp only[List.mapM_cons,Option.pure_def,Option.bind_eq_bind,jzd,Option.some.injEq]at h;obtain⟨y,hy,ys,hys,rfl⟩:=h;obtain⟨h1,h2⟩:=Dl hys
  grind
theorem getElem?_cut{α:Type}(off n j:Nat)(l:List α):(AP off n l)[j]? =if j<n then l[off+j]? else none:=by
 grind[AP]
def ersd(ok:Nat→Bool)(ρ:AE):AE:=fun j=>if ok j then none else ρ j
theorem Eu{ok:Nat→Bool}{ρ:AE}{j:Nat}{o:Own}(h:ersd ok ρ j=some o):ok j=false∧ρ j=some o:=by
 unfold ersd at h
 grind
theorem CD{ok:Nat→Bool}{ρ:AE}{Z:Addr→Prop}{a:Addr}(h:Ar (ersd ok ρ) Z a):Ar ρ Z a:=by
 rcases h with h|⟨j,o,hj,ho⟩
 ·exact .inl h
 ·exact .inr (by grind[Eu])
section
variable {M Z:Addr→Prop} {w0 w:World} {ρ:AE} {st:St} {a:Act}
theorem Rel.thawed(h:Rel M Z w0 ρ st a w){ok:Nat→Bool}{i:Nat}{o:Own}(hi:ρ i=some o)(hok:ok i=true){ad:Addr}(had:o.has ad): ¬Ar (ersd ok ρ) Z ad:=by
 rintro (hz|⟨j,o',hj,ho'⟩)
 ·rcases h.mine i o ad hi had with hm|hs
  ·exact h.mz ad hm hz
  ·have:=h.out ad hz;omega
 ·obtain⟨hf,hj⟩:=Eu hj
  have hne:i≠j:=(by grind)
  exact h.heap.owns.apart i j o o' hi hj hne ad had ho'
theorem Own.has_at{o:Own}(hn:o.gone=false){j:Nat}(hj:j<o.room*o.sz):o.has (o.at j):=⟨hn,rfl,.inr (by simp),(by grind)⟩
theorem toD_sl(h:Rel M Z w0 ρ st a w)(ok:Nat→Bool)(k i off n:Nat)(v:Value)(x:D)(hc:RepC ρ w Z (.sl i off n) v)(hx:toD ok st.h k (.sl i off n)=some x):RepD w (Ar (ersd ok ρ) Z) x v:=by
 have hx:(if ok i then (match lk i st.h with
  |some (.row sz cs _)=>if (off+n)*sz≤cs.length then some (.slice n (AP (off*sz) (n*sz) cs)) else none
  |_=>none) else none)=some x:=by cases k<;>exact hx
 split at hx
 case isFalse=>cases hx
 case isTrue hok=>
  split at hx
  case h_2=>cases hx
  case h_1 sz cs app hlk=>
   split at hx
   case isFalse=>cases hx
   case isTrue hlen=>
    cases hx;obtain⟨o,ho,_,hcase⟩:=hc
    obtain⟨o',ho',hb⟩:=h.heap.rep i _ hlk
    obtain rfl:o'=o:=Bi (ho'.symm.trans ho);obtain⟨hb1,hb2,hb3,hb4,hb5⟩:=hb;rcases hcase with⟨hn,rfl,rfl,rfl⟩|⟨hn,ad,c,rfl,hnc,hcm,had,_⟩
    ·have:AP (0*sz) (0*sz) cs=[]:=by simp[AP]
     rw[this];exact .snil
    ·have key: ∀(j:Nat) (y:D),(AP (off*sz) (n*sz) cs)[j]? =some y→j<n*sz∧cs[off*sz+j]? =some y:=by
      intro j y hy;rw[getElem?_cut]at hy;split at hy
      ·exact⟨‹_›,hy⟩
      ·cases hy
     have hadr: ∀(j:Nat) (y:D),(AP (off*sz) (n*sz) cs)[j]? =some y→ad=o'.at (off*o'.sz):=by
      intro j y hy;obtain⟨hj,_⟩:=key j y hy;rcases had with h0|h1
      ·have:n=0:=by omega
       subst this;simp at hj
      ·exact h1
     refine .slice n _ ad c (fun j=>(w.cell? (o'.at (off*sz+j))).getD undef) (fun hne=> ?_) hnc hcm ?_ ?_ ?_
     ·obtain⟨y,r,hyr⟩:=List.exists_cons_of_ne_nil hne
      rw[hadr 0 y (by rw[hyr];rfl)]
     all_goals
      intro j y hy;obtain⟨hj,hcs⟩:=key j y hy;obtain⟨v,hv,hd⟩:=hb5 _ y hcs;have hlt:off*sz+j<cs.length:=(jzg.1 hcs).1;have ha:=hadr j y hy;have he:(⟨ad.block,ad.off+j,none⟩:Addr)=o'.at (off*sz+j):=by rw[ha,hb1];simp[Own.at];omega
     ·rw[he,hv];rfl
     ·rw[he];exact h.thawed ho hok (Own.has_at (hb4.2.trans hn) (by rw[hb1];omega))
     ·rw[hv];exact hd.keep (Keep.mono fun _=>CD)
theorem EP(h:Rel M Z w0 ρ st a w)(ok:Nat→Bool): ∀(k:Nat) (c:C) (v:Value) (x:D),RepC ρ w Z c v→toD ok st.h k c=some x→RepD w (Ar (ersd ok ρ) Z) x v:=by
 intro k
 induction k with
 |zero=>
  intro c v x hc hx;cases c with
  |d y=>simp[toD]at hx;subst hx;exact RepD.keep (Keep.mono fun _=>CD) hc
  |nl=>simp[toD]at hx;subst hx;cases (show v=_ from hc);exact .snil
  |bad=>simp[toD]at hx
  |ptr i off=>
   simp[toD]at hx
   rw[←hx.2]
   exact .any v (RepC.one hc)
  |sl i off n=>grind[toD_sl]
  |mp q i=>simp[toD]at hx
 |succ k ih=>
  intro c v x hc hx;cases c with
  |d y=>grind[toD,RepD.keep,Keep.mono,CD]
  |nl=>grind[toD]
  |bad=>simp[toD]at hx
  |sl i off n=>grind[toD_sl]
  |mp q i=>simp[toD]at hx
  |ptr i off=>
   simp only[toD]at hx;split at hx
   case isFalse=>cases hx
   case isTrue hok=>
    obtain⟨o,ho,hn,rfl⟩:=hc
    split at hx
    case h_4=>cases hx
    case h_5=>cases hx
    case h_6=>cases hx
    case h_3 f cs hlk=>
     split at hx
     case isFalse=>cases hx
     case isTrue hoff=>
      subst hoff;rw[jze]at hx;obtain⟨ds,hds,rfl⟩:=hx;obtain⟨hl,hm⟩:=Dl hds;obtain⟨o',ho',hb⟩:=h.heap.rep i _ hlk;obtain rfl:o'=o:=Bi (ho'.symm.trans ho);obtain⟨hb1,hb2,hb3,v,hv,vs,rfl,hvs⟩:=hb;have hfn:RepD w (Ar (ersd ok ρ) Z) (.fn f ds) (.func (.func f) #[] vs.toArray):=by
       refine .fn f ds vs (by rw[hl];exact hvs.1) fun j y v hy hv=> ?_
       have hj:j<cs.length:=by rw[←hl];exact(jzg.1 hy).1
       obtain⟨y',hy',hf⟩:=hm j _ (AD hj)
       rw[hy]at hy'
       cases hy'
       exact ih _ v y (hvs.2 j _ v (AD hj) hv) hf
      refine .ref _ _ (fun _=> .func (.func f) #[] vs.toArray) (fun _=>rfl) ?_ ?_ ?_
      all_goals
       intro j y hy;obtain rfl:j=0:=by
        have:=(jzg.1 hy).1
        simpa using this
      ·simpa [Own.at]using hv
      ·exact h.thawed ho hok (Own.has_at hb3.2 (by rw[hb1,hb2];omega))
      ·simp at hy;subst hy;exact hfn
    case h_1 sz cs app hlk=>
     cases hx;obtain⟨o',ho',hb⟩:=h.heap.rep i _ hlk
     obtain rfl:o'=o:=Bi (ho'.symm.trans ho);obtain⟨hb1,hb2,hb3,hb4,hb5⟩:=hb;refine .ref _ _ (fun j=>(w.cell? (o'.at (off+j))).getD undef) (fun _=>rfl) ?_ ?_ ?_
     all_goals
      intro j y hy;rw[List.getElem?_drop]at hy;obtain⟨v,hv,hd⟩:=hb5 _ y hy;have hlt:off+j<cs.length:=(jzg.1 hy).1;have he:(⟨(o'.at off).block,(o'.at off).off+j,none⟩:Addr)=o'.at (off+j):=by simp[Own.at];omega
     ·rw[he,hv];rfl
     ·rw[he];exact h.thawed ho hok (Own.has_at (hb4.2.trans hn) (by rw[hb1];omega))
     ·rw[hv];exact hd.keep (Keep.mono fun _=>CD)
    case h_2 cs hlk=>
     rw[jze]at hx
     obtain⟨ds,hds,rfl⟩:=hx
     obtain⟨hl,hm⟩:=Dl hds
     obtain⟨o',ho',hb⟩:=h.heap.rep i _ hlk
     obtain rfl:o'=o:=Bi (ho'.symm.trans ho);obtain⟨hb1,hb2,hb3,hb4⟩:=hb;have key: ∀(j:Nat) (y:D),ds[j]? =some y→ ∃c,cs[off+j]? =some c∧toD ok st.h k c=some y:=by
      intro j y hy;have hj:j<(cs.drop off).length:=by rw[←hl];exact(jzg.1 hy).1
      obtain⟨y',hy',hf⟩:=hm j _ (AD hj)
      rw[hy]at hy'
      cases hy'
      refine⟨_,?_,hf⟩
      rw[←List.getElem?_drop,AD hj]
     refine .ref _ _ (fun j=>(w.cell? (o'.at (off+j))).getD undef) (fun _=>rfl) ?_ ?_ ?_
     all_goals
      intro j y hy;obtain⟨c,hc,hf⟩:=key j y hy;obtain⟨v,hv,_,hr⟩:=hb4 _ c hc;have hlt:off+j<cs.length:=(jzg.1 hc).1;have he:(⟨(o'.at off).block,(o'.at off).off+j,none⟩:Addr)=o'.at (off+j):=by simp[Own.at];omega
     ·rw[he,hv];rfl
     ·rw[he];exact h.thawed ho hok (Own.has_at hb3.2 (by rw[hb1,hb2];omega))
     ·rw[hv];exact ih c v y hr hf
theorem FZ{α:Type}(ok:Nat→Bool)(k:Nat): ∀l:List (Nat×α),lk k (Ds ok l)=if ok k then none else lk k l
 |[]=>by simp[Ds,lk]
 |(j,v)::r=>by
  have ih:=FZ ok k r;unfold Ds at ih ⊢;rw[List.filter_cons];cases hj:ok j with
  |true=>
   simp only[hj,Bool.not_true,Bool.false_eq_true,if_false,ih,lk]
   grind
  |false=>
   simp only[hj,Bool.not_false,if_true,lk,ih]
   grind
theorem SY(h:Rel M Z w0 ρ st a w)(ok:Nat→Bool):Cf ρ (ersd ok ρ) w w Z (Du st.h ok):=by
 intro c v hc;have hk:Keep w w (Ar ρ Z) (Ar (ersd ok ρ) Z):=Keep.mono fun _=>CD
 cases c with
 |d x=>exact RepC.keep hk (fun _ h=>by cases h) hc
 |nl=>exact hc
 |bad=>exact hc
 |sl j off n=>
  simp only[C.on,Du];split
  ·split
   ·exact EP h ok 4 _ v _ hc ‹_›
   ·exact RepC.one hc
  ·rename_i hj
   exact RepC.keep hk (fun k hk'=>by cases hk';simp[ersd,hj]) hc
 |ptr j off=>
  simp only[C.on,Du];split
  ·split
   ·exact EP h ok 4 _ v _ hc ‹_›
   ·exact RepC.one hc
  ·rename_i hj
   exact RepC.keep hk (fun k hk'=>by cases hk';simp[ersd,hj]) hc
 |mp q j=>
  simp only[C.on,Du];split
  ·split
   ·exact EP h ok 4 _ v _ hc ‹_›
   ·exact RepC.one hc
  ·rename_i hj
   exact RepC.keep hk (fun k hk'=>by cases hk';simp[ersd,hj]) hc
theorem Owns.ersd(h:Owns ρ w)(ok:Nat→Bool):Owns (ersd ok ρ) w:=
 ⟨fun j o hj=>h.cells j o (Eu hj).2,fun j j' o o' hj hj'=>h.apart j j' o o' (Eu hj).2 (Eu hj').2,fun j o hj=>h.lim j o (Eu hj).2⟩
theorem Rel.freezeK(h:Rel M Z w0 ρ st a w)(ok:Nat→Bool):Rel M Z w0 (ersd ok ρ) (st.freezeK ok) a w where
 fr:=h.fr
 heap:=⟨h.heap.owns.ersd ok,fun j b hb=>by
  simp only[St.freezeK]at hb;rw[FZ]at hb;cases hok:ok j with
  |true=>grind
  |false=>
   rw[hok]at hb
   simp only[Bool.false_eq_true,if_false,St.on]at hb;rw[BN]at hb;cases hl:lk j st.h with
   |none=>grind
   |some b0=>
    rw[hl]at hb
    cases hb;obtain⟨o,ho,hr⟩:=h.heap.rep j b0 hl
    exact⟨o,by grind[ersd],hr.turn (SY h ok) (Keep.mono fun _=>CD) (fun _ _ _=>rfl) (fun _ _ _ h=>h)⟩⟩
 mine:=fun j o ad hj=>h.mine j o ad (Eu hj).2
 out:=h.out
 mz:=h.mz
 tmps:=fun t v hv=>by
  simp only[St.freezeK,St.on]at hv;rw[BN]at hv;cases hl:lk t st.t with
  |none=>grind
  |some v0=>
   rw[hl]at hv
   cases hv;exact(h.tmps t v0 hl).turn (SY h ok)
 defers:=h.defers
 mps:=h.mps.sub (by grind[Eu])
def AJ(ids:List Nat)(ρ:AE):AE:=ersd (ids.contains ·) ρ
theorem Rel.freeze(h:Rel M Z w0 ρ st a w)(ids:List Nat):Rel M Z w0 (AJ ids ρ) (st.freeze ids) a w:=by
 cases ids with
 |nil=>
  have:AJ [] ρ=ρ:=by rfl
  rw[this]
  exact h
 |cons i r=>exact h.freezeK _
theorem Rel.shut(h:Rel M Z w0 ρ st a w){ids:List Nat}{cs:List C}{ds:List D}{s:St}(hs:st.sealW ids cs=some (ds,s)){vs:List Value}(hr:RepL (RepC ρ w Z) cs vs):
  Rel M Z w0 (AJ ids ρ) s a w∧RepL (RepD w (Ar (AJ ids ρ) Z)) ds vs:=by
 simp only[St.sealW,jze,Prod.mk.injEq]at hs;obtain⟨ds',hm,rfl,rfl⟩:=hs;refine⟨h.freeze ids,?_⟩;obtain⟨hl,hf⟩:=Dl hm;refine⟨hl.trans hr.1,fun j x v hx hv=> ?_⟩
 have hj:j<cs.length:=by grind
 obtain⟨y,hy,hd⟩:=hf j _ (AD hj)
 rw[hx]at hy
 cases hy;exact EP h _ 4 _ v _ (hr.2 j _ v (AD hj) hv) hd
theorem My(b:Nat): ∀(vs:List Value) (o:Nat) (w:World) (k:Nat),k≠b→(w.setCells b o vs).heap[k]? =w.heap[k]?
 |[],_,_,_,_=>rfl
 |v::r,o,w,k,h=>by rw[World.setCells,My b r (o+1) _ k h];grind[Below.heap_setCell]
theorem Pr(b:Nat): ∀(vs:List Value) (o:Nat) (w:World),(w.setCells b o vs).heap.size=w.heap.size∧(w.setCells b o vs).os=w.os∧(w.setCells b o vs).tape=w.tape∧(w.setCells b o vs).output=w.output∧(w.setCells b o vs).drawn=w.drawn
 |[],_,_=>⟨rfl,rfl,rfl,rfl,rfl⟩
 |v::r,o,w=>by
  obtain⟨h1,h2,h3,h4⟩:=Pr b r (o+1) (w.setCell ⟨b,o,none⟩ v)
  exact⟨h1.trans (by simp),h2,h3,h4⟩
theorem Rel.write(h:Rel M Z w0 ρ st a w){i:Nat}{o:Own}(hi:ρ i=some o)(hn:o.gone=false){off:Nat}{vs:List Value}(hfit:off+vs.length≤o.room*o.sz){b:Blk}
  (hb:Keep w (w.setCells o.g (o.o+off) vs) (Ar ρ Z) (Ar ρ Z)→RepB ρ (w.setCells o.g (o.o+off) vs) Z o b):Rel M Z w0 ρ (st.blk i b) a (w.setCells o.g (o.o+off) vs):=by
 have hin: ∀ad:Addr,ad.block=o.g→o.o+off≤ad.off→ad.off<o.o+off+vs.length→o.has ad:=fun ad h1 h2 h3=>⟨hn,h1,.inr (by omega),.inr (by omega)⟩
 have hout: ∀ad:Addr,¬o.has ad→(w.setCells o.g (o.o+off) vs).cell? ad=w.cell? ad:=(by grind[World.cell?_setCells_out,absurd])
 have hk:Keep w (w.setCells o.g (o.o+off) vs) (Ar ρ Z) (Ar ρ Z):=fun ad x hx hv=>⟨by rw[hout ad (fun hh=>hx (.inr ⟨i,o,hi,hh⟩))];exact hv,hx⟩
 have ht:Cf ρ ρ w (w.setCells o.g (o.o+off) vs) Z Dt:=fun c v hc=>by rw[C.on_id];exact hc.keep hk fun _ _=>rfl
 obtain⟨ks,kos,kt,ko,kdr⟩:=Pr o.g vs (o.o+off) w
 have hmap: ∀(k:Nat) (y:Obj),Fc y→w.heap[k]? =some y→(w.setCells o.g (o.o+off) vs).heap[k]? =some y:=fun k y hy hl=>by
  by_cases hvs:vs=[]
  ·subst hvs;exact hl
  ·rw[My _ _ _ _ _ ?_]
   ·exact hl
   ·rintro rfl
    obtain⟨⟨u,hu⟩,_⟩:=h.heap.owns.cells i o hi hn off (by have:=List.length_pos_iff.2 hvs;omega)
    exact Wx hl hy rfl hu
 exact {
  fr:=⟨kos.trans h.fr.os,by rw[kdr];exact h.fr.drawn,kt.trans h.fr.tape,ko.trans h.fr.output,by rw[ks];exact h.fr.size,
   fun ad v hm hv=>by
    rw[hout ad fun hh=> ?_]
    ·exact h.fr.cell ad v hm hv
    ·rcases h.mine i o ad hi hh with h1|h1
     ·exact hm h1
     ·have:=World.block_lt_of_cell? w0 ad hv;omega,
   fun ad hm ha=>(World.frozen?_setCells _ _ _ _ _).trans (h.fr.frz ad hm ha),
   fun k hk' hm=>by
    by_cases hvs:vs=[]
    ·subst hvs;exact h.fr.blk k hk' hm
    ·have hpos:0<vs.length:=(by grind)
     by_cases e:k=o.g
     ·subst e;have:=h.mine i o ⟨o.g,o.o+off,none⟩ hi (by grind)
      grind
     ·rw[My _ _ _ _ _ e];exact h.fr.blk k hk' hm⟩
  heap:=⟨⟨fun j o' hj hn' k hk'=>by
    obtain⟨⟨v,hv⟩,hf⟩:=h.heap.owns.cells j o' hj hn' k hk'
    refine⟨?_,(by grind[World.frozen?_setCells])⟩
    by_cases hh:o.has (o'.at k)
    ·by_cases e:j=i
     ·subst e;obtain rfl:=Bi (hi.symm.trans hj);by_cases hr:off≤k∧k<off+vs.length
      ·have:=World.cell?_setCells_in o.g vs (o.o+off) w (fun q hq=>by
        obtain⟨⟨u,hu⟩,_⟩:=h.heap.owns.cells j o hj hn (off+q) (by omega)
        grind) (k - off) (by omega)
       grind
      grind[World.cell?_setCells_out]
     ·exact absurd hh (h.heap.owns.apart j i o' o hj hi e _ (Own.has_at hn' hk'))
    grind,h.heap.owns.apart,h.heap.owns.lim⟩,
   fun j b' hb'=>by
    by_cases e:j=i
    ·grind[St.blk,Bt]
    ·simp only[St.blk]at hb';rw[BD e,BR e]at hb';obtain⟨o',ho',hr⟩:=h.heap.rep j b' hb';refine⟨o',ho',?_⟩;have:=hr.turn ht hk (fun hn' k hk'=>hout _ fun hh=>h.heap.owns.apart j i o' o ho' hi e _ (Own.has_at hn' hk') hh) (fun _=>hmap _)
     rwa [Blk.on_id]at this⟩
  mine:=h.mine
  out:=h.out
  mz:=h.mz
  tmps:=fun t v hv=>by
   have:=(h.tmps t v hv).turn ht
   rwa [V.on_id]at this
  defers:=h.defers
  mps:=h.mps.to (by grind) }
end
end Go.Va
namespace Go.Va
open Go.RowKit
variable [Gv]
def HC:C→Value→Bool
 | .d (.int k n),.int k' n'=>k=k'&&n=n'
 | .d (.bool b),.bool b'=>b=b'
 | .d (.str s),.string s'=>s.size=0&&s'.size=0
 | .nl,.slice none 0 0=>true
 | .d .nilPtr,.pointer none=>true
 | .d .nilFn,.nilFunc=>true
 | .d (.lit .nilIface),.nilIface=>true
 | .d (.lit (.map none)),.map none=>true
 |_,_=>false
def E5:List C→List Value→Bool
 |[],[]=>true
 |c::r,v::s=>HC c v&&E5 r s
 |_,_=>false
def Ej(P:Program)(t:TypeId)(z:Option C):Bool:=
 match P.underlying t,z with
 |some (.int _),some (.d (.int _ _))=>true
 |some .bool,some (.d (.bool _))=>true
 |_,_=>false
def Mv(P:Program)(t:TypeId)(d:TypeDesc)(zs:List C):Bool:=
 !P.eqGuardType P.depth t&&
 (match d with
 | .array n e=>n=zs.length&&P.cellsOf e=1&&zs.all fun z=>Ej P e (some z)
 | .struct fs => !P.stoodInHeld t && fs.size = zs.length && fs.toList.zipIdx.all fun (f, k) => f.name ≠ "_" && f.offset = k && Ej P f.type zs[k]?
 |_=>false)
def Ct(d:TypeDesc)(i:TI):Bool:=
 match d with
 | .struct fs=>i.agg&&i.sl=none&&i.arr=none&&i.flds=fs.toList.map fun f=>(f.offset,f.type)
 | .array n e=>i.agg&&i.sl=none&&i.arr=some (n,e)&&i.flds=[]
 | .slice e=> !i.agg&&i.sl=some e&&i.arr=none&&i.flds=[]&&(match i.zero with|[.nl]=>true|_=>false)
 | .int k=> !i.agg&&i.sl=none&&i.arr=none&&i.flds=[]&&(match i.zero with|[.d (.int k' 0)]=>k'=k|_=>false)
 | .bool=> !i.agg&&i.sl=none&&i.arr=none&&i.flds=[]&&(match i.zero with|[.d (.bool _)]=>true|_=>false)
 | .string=> !i.agg&&i.sl=none&&i.arr=none&&i.flds=[]&&(match i.zero with|[.d (.str _)]=>true|_=>false)
 | .func .. => !i.agg&&i.sl=none&&i.arr=none&&i.flds=[]&&(match i.zero with|[.d .nilFn]=>true|_=>false)
 | .pointer _=> !i.agg&&i.sl=none&&i.arr=none&&i.flds=[]&&(match i.zero with|[.d .nilPtr]=>true|_=>false)
 | .map _ _=> !i.agg&&i.sl=none&&i.arr=none&&i.flds=[]&&(match i.zero with|[.d (.lit (.map none))]=>true|_=>false)
 | .interface _=> !i.agg&&i.sl=none&&i.arr=none&&i.flds=[]&&(match i.zero with|[.d (.lit .nilIface)]=>true|_=>false)
 |_=>false
def LT(P:Program)(t:TypeId)(b:Bool):Bool:=
 match P.underlying t with
 |some (.map kt et)=>(match P.underlying kt with|some .string=> !b|some (.int .i64)=>b|_=>false)&&(match P.info? et with|some info=>(match info.zero with|some (.int .i64 n)=>n=0|_=>false)|none=>false)
 |_=>false
def HB(P:Program)(t:TypeId)(i:TI):Bool:=
 match P.info? t,P.underlying t with
 |some info,some d=>
  info.size=i.size&&info.bytes=i.bytes&&i.size≤10000&&i.zero.length=i.size&&(match info.zero with|some z=>E5 i.zero z.cells.toList|none=>false)&&Ct d i&&(!i.flat||Mv P t d i.zero)&&(!i.mp||LT P t i.mpi)
 |_,_=>false
structure TyOk (P:Program) (t:TypeId) (i:TI) (info:TypeInfo) (d:TypeDesc):Prop where
 inf:P.info? t=some info
 und:P.underlying t=some d
 size:info.size=i.size
 bytes:info.bytes=i.bytes
 small:i.size≤10000
 zlen:i.zero.length=i.size
 zero: ∃z,info.zero=some z∧E5 i.zero z.cells.toList=true
 desc:Ct d i=true
 flat:i.flat=true→Mv P t d i.zero=true
 mp:i.mp=true→LT P t i.mpi=true
theorem Be{P:Program}{t:TypeId}{i:TI}(h:HB P t i=true): ∃info d,TyOk P t i info d:=by
 unfold HB at h;cases hi:P.info? t with
 |none=>grind
 |some info=>
  cases hu:P.underlying t with
  |none=>grind
  |some d=>
   rw[hi,hu]at h
   simp only[AR,decide_eq_true_eq,Bool.or_eq_true,Bool.not_eq_true']at h;obtain⟨⟨⟨⟨⟨⟨⟨h1,h2⟩,h2a⟩,h2b⟩,h3⟩,h4⟩,h5⟩,h6⟩:=h;refine⟨info,d,hi,hu,h1,h2,h2a,h2b,?_,h4,fun hf=> ?_,fun hf=> ?_⟩
   ·grind
   ·grind
   grind
def A5(P:Program)(T:AH):Prop:= ∀t i,T t=some i→HB P t i=true
section
variable {P:Program} {t:TypeId} {i:TI} {info:TypeInfo} {d:TypeDesc}
theorem TyOk.isAgg(h:TyOk P t i info d)(w:World):(isAgg t).run P w= .ok i.agg w:=by
 have hd:=h.desc;cases d<;>simp only[Ct,AR,Bool.not_eq_true',Bool.false_eq_true]at hd<;>simp[Go.isAgg,run_underlying h.und,hd]
theorem TyOk.sizeOf(h:TyOk P t i info d)(w:World):(sizeOf t).run P w= .ok i.size w:=by
 simp[Go.sizeOf,typeInfo,h.inf,h.size]
theorem TyOk.slice(h:TyOk P t i info d){e:TypeId}(he:i.sl=some e):P.underlying t=some (.slice e):=by
 have hd:=h.desc;cases d<;>simp[Ct,he]at hd;rw[h.und,hd.1.1.1.2]
theorem TyOk.array(h:TyOk P t i info d){n e:Nat}(he:i.arr=some (n,e)):P.underlying t=some (.array n e):=by
 have hd:=h.desc;cases d<;>simp[Ct,he]at hd;obtain⟨⟨_,h1,h2⟩,_⟩:=hd;rw[h.und,h1,h2]
theorem TyOk.field(h:TyOk P t i info d){f:Nat}{p:Nat×Nat}(he:i.flds[f]? =some p): ∃fs fd,P.underlying t=some (.struct fs)∧fs[f]? =some fd∧fd.offset=p.1∧fd.type=p.2:=by
 have hd:=h.desc;cases d<;>simp[Ct]at hd
 case struct fs=>
  obtain⟨_,h2⟩:=hd
  rw[h2]at he
  simp only[Bf,jze]at he;obtain⟨fd,hfd,rfl⟩:=he;exact⟨fs,fd,h.und,by simpa using hfd,rfl,rfl⟩
 all_goals grind
theorem TyOk.intKind(h:TyOk P t i info d){k:IntKind}{n:Int}(ha:i.agg=false)(hz:i.zero=[.d (.int k n)]):P.underlying t=some (.int k):=by
 have hd:=h.desc;cases d<;>simp[Ct,hz,ha]at hd
 case int k'=>
  rw[h.und]
  grind
theorem TyOk.bool(h:TyOk P t i info d){b:Bool}(ha:i.agg=false)(hz:i.zero=[.d (.bool b)]):P.underlying t=some .bool:=by
 have hd:=h.desc;cases d<;>simp[Ct,hz,ha]at hd;exact h.und
theorem TyOk.func(h:TyOk P t i info d)(ha:i.agg=false)(hz:i.zero=[.d .nilFn]): ∃p r v,P.underlying t=some (.func p r v):=by
 have hd:=h.desc;cases d<;>simp[Ct,hz,ha]at hd;exact⟨_,_,_,h.und⟩
theorem TyOk.iface(h:TyOk P t i info d)(ha:i.agg=false)(hz:i.zero=[.d (.lit .nilIface)]): ∃ms,P.underlying t=some (.interface ms):=by
 have hd:=h.desc;cases d<;>simp[Ct,hz,ha]at hd;exact⟨_,h.und⟩
theorem TyOk.list(h:TyOk P t i info d)(ha:i.agg=false)(hz:i.zero=[.nl]): ∃e,P.underlying t=some (.slice e):=by
 have hd:=h.desc;cases d<;>simp[Ct,hz,ha]at hd;exact⟨_,h.und⟩
theorem TyOk.str(h:TyOk P t i info d)(h1:i.sl=none)(h2:i.arr=none)(ha:i.agg=false){s:ByteArray}(hz:i.zero=[.d (.str s)]):P.underlying t=some .string:=by
 have hd:=h.desc;cases d<;>simp[Ct,hz,ha,h1,h2]at hd;exact h.und
end
theorem jew{ρ:AE}{w:World}{Z:Addr→Prop}{c:C}{v:Value}(h:HC c v=true):RepC ρ w Z c v:=by
 unfold HC at h;split at h<;>simp at h
 ·obtain⟨rfl,rfl⟩:=h;exact .int _ _
 ·subst h;exact .bool _
 ·rename_i s s'
  have:s=s':=h.1.trans h.2.symm
  subst this;exact .str _
 ·rfl
 ·exact .nilPtr
 ·exact .nilFn
 ·exact .lit _ rfl
 ·exact .lit _ rfl
theorem Ep{ρ:AE}{w:World}{Z:Addr→Prop}: ∀{cs:List C} {vs:List Value},E5 cs vs=true→RepL (RepC ρ w Z) cs vs
 |[],[],_=>⟨rfl,(by simp)⟩
 |[],_::_,h=>by simp[E5]at h
 |_::_,[],h=>by simp[E5]at h
 |c::r,v::s,h=>by
  simp only[E5,AR]at h;obtain⟨h1,h2⟩:=Ep (ρ:=ρ) (w:=w) (Z:=Z) h.2;refine⟨by simp[h1],fun j x u hx hu=> ?_⟩
  grind[jew]
theorem Q9{ρ:AE}{w:World}{Z:Addr→Prop}{v:Value}{c:C}(h:cCell v=some c):RepC ρ w Z c v:=by
 unfold cCell at h;split at h<;>cases h
 ·exact .int _ _
 ·exact .bool _
 ·exact .str _
 ·rfl
 ·exact .nilPtr
 ·exact .nilFn
theorem jgP{ρ:AE}{w:World}{Z:Addr→Prop}{v:Value}{x:V}(h:cVal v=some x):RepV ρ w Z x v:=by
 unfold cVal at h;split at h
 ·rename_i cs
  rw[jze]at h
  obtain⟨l,hl,rfl⟩:=h
  obtain⟨h1,h2⟩:=Dl hl
  refine⟨cs.toList,by simp,h1,fun j c v hc hv=> ?_⟩
  grind[Q9]
 ·rw[jze]at h
  obtain⟨c,hc,rfl⟩:=h
  exact Q9 hc
section
variable {P:Program} {M Z:Addr→Prop} {w0 w:World} {ρ:AE} {st:St} {a:Act}
theorem Rel.ev(h:Rel M Z w0 ρ st a w){x:Operand}{v:V}(hv:st.ev x=some v):RepV ρ w Z v (a.eval x):=by
 cases x with
 |tmp t=>exact h.tmps t v hv
 |const c=>exact jgP hv
 |func f=>cases hv;exact .fn f [] [] rfl (by simp)
 |global g=>cases hv
theorem Rel.evU(h:Rel M Z w0 ρ st a w){x:Operand}{u:U}(hv:st.evU x=some u):RepU ρ w Z u (a.eval x):=by
 unfold St.evU at hv;split at hv<;>cases hv;exact h.ev ‹_›
theorem Rel.evC(h:Rel M Z w0 ρ st a w){x:Operand}{c:C}(hv:st.evC x=some c):RepC ρ w Z c (a.eval x):=by
 unfold St.evC at hv;split at hv<;>cases hv;exact h.ev ‹_›
theorem Rel.evI(h:Rel M Z w0 ρ st a w){x:Operand}{p:IntKind×Int}(hv:st.evI x=some p):a.eval x= .int p.1 p.2:=by
 unfold St.evI at hv;split at hv<;>cases hv;have:=h.ev ‹_›;generalize a.eval x=y at this;cases this;rfl
theorem Rel.evB(h:Rel M Z w0 ρ st a w){x:Operand}{b:Bool}(hv:st.evB x=some b):a.eval x= .bool b:=by
 unfold St.evB at hv;split at hv<;>cases hv;have:=h.ev ‹_›;generalize a.eval x=y at this;cases this;rfl
theorem RepU.cells{u:U}{v:Value}(h:RepU ρ w Z u v):RepL (RepC ρ w Z) u.cells v.cells.toList:=by
 cases u with
 |c x=>
  have h1:=RepC.one h;have:v.cells= #[v]:=by cases v<;>first|rfl|cases h1
  rw[this]
  refine⟨rfl,fun j c u hc hu=> ?_⟩
  cases j with
  |zero=>simp[U.cells]at hc hu;subst hc;subst hu;exact h
  |succ j=>grind
 |agg cs=>obtain⟨vs,rfl,hl⟩:=h;grind[Value.cells,U.cells]
 |clo f cs=>
  obtain⟨vs,rfl,_⟩:=h
  refine⟨rfl,fun j c u hc hu=> ?_⟩
  cases j with
  |zero=>simp[U.cells,Value.cells]at hc hu;subst hc;subst hu;exact rfl
  |succ j=>simp[U.cells]at hc
def StepOk(P:Program)(M Z:Addr→Prop)(w0:World)(o:Oper)(st':St)(a:Act)(w:World):Prop:=
 ∃nx v w' ρ',(execOp a.eval o).run P w= .ok nx w'∧(nx= .value v∨(nx= .skip∧v=undef))∧Rel M Z w0 ρ' st' (a.put o.dst v) w'
theorem StepOk.val(h:Rel M Z w0 ρ st a w){o:Oper}{v:V}{x:Value}(hd: ∀d,o.dst=some d→d<a.tmps.size)
  (hr:(execOp a.eval o).run P w= .ok (.value x) w) (hv:RepV ρ w Z v x):StepOk P M Z w0 o (st.put o.dst v) a w:=
 ⟨_,x,w,ρ,hr,.inl rfl,h.put hd hv⟩
theorem StepOk.new{o:Oper}{v:V}{x:Value}{w':World}{ρ':AE}{s:St}(hd: ∀d,o.dst=some d→d<a.tmps.size)
  (hr:(execOp a.eval o).run P w= .ok (.value x) w') (h:Rel M Z w0 ρ' s a w') (hv:RepV ρ' w' Z v x):StepOk P M Z w0 o (s.put o.dst v) a w:=
 ⟨_,x,w',ρ',hr,.inl rfl,h.put hd hv⟩
theorem NG(w:World)(cs:Array Value)(e:TypeId)(j:Nat):(w.alloc (.cells cs e)).frozen? ⟨w.heap.size,j,none⟩=false:=
 (by simp)
def BB(w:World)(sz room:Nat)(app:Bool):Own:={ g:=w.heap.size,o:=0,sz,room,app,nil:=false,gone:=false }
theorem Ln(w:World)(sz room:Nat)(app:Bool): ∀ad,(BB w sz room app).has ad→w.heap.size≤ad.block:=fun ad h=>by
 obtain⟨_,h,_⟩:=h
 grind[BB]
theorem Rel.newBox(h:Rel M Z w0 ρ st a w)(i:Nat){cs:List C}{vs:List Value}(e:TypeId)(hl:RepL (RepC ρ w Z) cs vs)(hlim:cs.length≤maxLen):
  Rel M Z w0 (BW ρ i (BB w 1 cs.length false)) (st.new i (.box cs)) a (w.alloc (.cells vs.toArray e)):=by
 refine h.new (Ext.alloc w _) i (Ln w _ _ _) (fun _ j hj=>⟨?_,?_⟩) hlim ?_
 ·have hj':j<vs.length:=by rw[←hl.1];grind[BB]
  simp_all[BB,Own.at]
 ·simp_all[BB,Own.at,Nat.zero_add,NG]
 ·refine⟨rfl,rfl,⟨rfl,rfl⟩,fun j c hc=> ?_⟩
  have hj:j<cs.length:=(by grind)
  have hj':j<vs.length:=by rw[←hl.1];exact hj
  have hv:vs[j]? =some vs[j]:=(by simp)
  exact⟨vs[j],by simp[BB,Own.at,hj'],RepC.one (hl.2 j c _ hc hv),hl.2 j c _ hc hv⟩
theorem Rel.newRow(h:Rel M Z w0 ρ st a w){w1:World}(hx:Ext w w1)(hs:w1.heap.size=w.heap.size)(i:Nat){sz room:Nat}{ds:List D}{vs:List Value}(more:List Value)(e:TypeId)(app:Bool)
  (hl:RepL (RepD w (Ar ρ Z)) ds vs) (hroom:(vs++more).length=room*sz) (hlim:room≤maxLen):
  Rel M Z w0 (BW ρ i (BB w sz room app)) (st.new i (.row sz ds app)) a (w1.alloc (.cells (vs++more).toArray e)):=by
 have hcell: ∀j,j<(vs++more).length→(w1.alloc (.cells (vs++more).toArray e)).cell? ⟨w.heap.size,j,none⟩=(vs++more)[j]? :=fun j hj=>by
  rw[←hs]
  simp
 refine h.new (Ext.trans hx (Ext.alloc w1 _)) i (Ln w _ _ _) (fun _ j hj=>⟨?_,?_⟩) hlim ?_
 ·simp_all[BB,Own.at,Nat.zero_add,AD]
 ·simpa [BB,Own.at,hs]using NG w1 (vs++more).toArray e j
 ·refine⟨rfl,rfl,?_,⟨(by grind[BB]),rfl⟩,fun j x hx'=> ?_⟩
  ·have:=hl.1
   grind[BB]
  ·have hj:j<ds.length:=(by grind)
   have hj':j<vs.length:=by rw[←hl.1];exact hj
   have hv:vs[j]? =some vs[j]:=(by simp)
   refine⟨vs[j],?_,hl.2 j x _ hx' hv⟩
   simp only[BB,Own.at,Nat.zero_add]
   grind
end
end Go.Va
