/- a part of the proof -/
import Derived.Test.YtplacedebenpaaaGreatDoorEaa
import Derived.Laws.Cells
import Derived.Laws.Entries
import Derived.Laws.NewBlocks
set_option linter.all false
namespace Go.Va
open World renaming block_lt_of_cell? → aD
open Go.RowKit
variable [DrC]
variable [Gv]
variable{k j i:Nat}{w':World}{g:Nat->C->C}{y:Obj}{o:Own}
section lists
variable {α β:Type}
theorem Ha(k:Nat): ∀l:List (Nat×α),lk k (rm k l)=none
 |[]=>rfl
 |(j,v)::r=>by
  unfold rm;by_cases h:j=k
  ·rw[if_pos h];exact Ha k r
  ·rw[if_neg h];unfold lk;rw[if_neg h];exact Ha k r
theorem BR{k j:Nat}(h:j≠k): ∀l:List (Nat×α),lk j (rm k l)=lk j l
 |[]=>rfl
 |(i,v)::r=>by
  unfold rm;by_cases hi:i=k
  ·rw[if_pos hi,BR h r];simp only[lk];grind
  ·rw[if_neg hi];unfold lk;by_cases a:i=j
   ·grind
   ·rw[if_neg a,if_neg a];exact BR h r
theorem Hk{l:List (Nat×α)}{v:α}(h:lk j (rm k l)=some v):j≠k/\lk j l=some v:=by
 grind[Ha,BR]
theorem BN(f:α->β)(k:Nat): ∀l:List (Nat×α),lk k (l.map λe=>(e.1,f e.2))=(lk k l).map f
 |[]=>rfl
 |(j,v)::r=>by
  simp only[List.map_cons,lk];by_cases h:j=k
  ·grind
  ·rw[if_neg h,if_neg h];exact BN f k r
theorem Bt(k:Nat)(v:α)(l:List (Nat×α)):lk k ((k,v)::l)=some v:=by unfold lk;rw[if_pos rfl]
theorem BD(h:j≠k)(v:α)(l:List (Nat×α)):lk j ((k,v)::l)=lk j l:=by simp only[lk];grind
end lists
theorem X1(g o n:Nat):(⟨g,o,none⟩:Addr).add n=⟨g,o+n,none⟩:=by grind[Addr.add]
theorem Il(a:Addr)(n:Nat)(h:a.spot=none):a.add n=⟨a.block,a.off+n,none⟩:=by
 obtain⟨b,o,s⟩:=a;grind[X1]
def Keep(w w':World)(Z Z':Addr->Prop):Prop:= ∀(a:Addr) (x:Value),¬Z a->w.cell? a=some x->w'.cell? a=some x/\ ¬Z' a
theorem RepD.keep{w:World}{Z Z':Addr->Prop}(p:Keep w w' Z Z'){d:D}{v:Value}(h:RepD w Z d v):RepD w' Z' d v:=by
 induction h with
 |int k n=>exact .int k n
 |bool b=>exact .bool b
 |str s=>exact .str s
 |slice n l a c i y E z m o q g=>
  exact .slice n l a c i y E z (λj x e=>(p _ _ (o j x e) (m j x e)).1) (λj x e=>(p _ _ (o j x e) (m j x e)).2) g
 |snil=>exact .snil
 |ref l a i y m o q g=>
  exact .ref l a i y (λj x e=>(p _ _ (o j x e) (m j x e)).1) (λj x e=>(p _ _ (o j x e) (m j x e)).2) g
 |fn f caps i r q g=>exact .fn f caps i r g
 |nilFn=>exact .nilFn
 |nilPtr=>exact .nilPtr
 |iface t l i r q g=>exact .iface t l i r g
 |lit x h=>exact .lit x h
 |any x h=>exact .any x h
 |nn t x=>exact .nn t x
theorem Keep.refl(w:World)(Z:Addr->Prop):Keep w w Z Z:=λ_ _ a b=>⟨b,a⟩
theorem Keep.mono{w:World}{Z Z':Addr->Prop}(h: ∀a,Z' a->Z a):Keep w w Z Z':=λ_ _ b e=>O3
theorem RepD.one{w:World}{Z:Addr->Prop}{d:D}{v:Value}(h:RepD w Z d v):one v:=by cases h<;>first|rfl|assumption
theorem RepC.one{ρ:AE}{w:World}{Z:Addr->Prop}{c:C}{v:Value}(h:RepC ρ w Z c v):one v:=by
 cases c with
 |d x=>exact RepD.one h
 |nl=>cases (show v=_ from h);rfl
 |sl i b n=>
  obtain⟨o,_,_,⟨_,rfl,_⟩|⟨_,a,c,rfl,_⟩⟩:=h<;>rfl
 |ptr i b=>obtain⟨o,_,_,rfl⟩:=h;rfl
 |bad=>exact h
 |mp q i=>obtain⟨o,_,rfl⟩:=h;cases q<;>rfl
theorem RepC.keep{ρ b:AE}{w:World}{Z:Addr->Prop}(g:Keep w w' (Ar ρ Z) (Ar b Z)){c:C}{v:Value}(a: ∀i,c.id? =some i->b i=ρ i)(h:RepC ρ w Z c v):RepC b w' Z c v:=by
 cases c with
 |d x=>exact RepD.keep g h
 |nl=>exact h
 |sl i f n=>obtain⟨o,e,r⟩:=h;exact⟨o,(a i rfl).trans e,r⟩
 |ptr i f=>obtain⟨o,e,r⟩:=h;exact⟨o,(a i rfl).trans e,r⟩
 |bad=>exact h
 |mp q i=>obtain⟨o,e,r⟩:=h;exact⟨o,(a i rfl).trans e,r⟩
def Ij:Nat->C->C:=λ_ c=>c
def Cf(ρ a:AE)(w w':World)(Z:Addr->Prop)(g:Nat->C->C):Prop:= ∀(c:C) (v:Value),RepC ρ w Z c v->RepC a w' Z (c.on g) v
theorem RepL.imp{α β:Type}{r:α->Value->Prop}{s:β->Value->Prop}{a:List α}{vs:List Value}(f:α->β)(h:RepL r a vs)(hi: ∀x v,x∈a->r x v->s (f x) v):RepL s (a.map f) vs:=by
 refine⟨by simpa using h.1,λj x v b g=> ?_⟩;rw[Bf]at b;cases e:a[j]? with
 |none=>grind
 |some y=>
  rw[e]at b;cases b;exact hi y v O3 (h.2 j y v e g)
theorem RepU.turn{ρ a:AE}{w:World}{Z:Addr->Prop}(b:Cf ρ a w w' Z g){u:U}{v:Value}(h:RepU ρ w Z u v):RepU a w' Z (u.on g) v:=by
 cases u with
 |c x=>exact b _ _ h
 |agg j=>obtain⟨i,rfl,e⟩:=h;exact⟨i,rfl,e.imp _ λx v _=>b x v⟩
 |clo f j=>obtain⟨i,rfl,e⟩:=h;exact⟨i,rfl,e.imp _ λx v _=>b x v⟩
theorem RepV.turn{ρ a:AE}{w:World}{Z:Addr->Prop}(b:Cf ρ a w w' Z g){u:V}{v:Value}(h:RepV ρ w Z u v):RepV a w' Z (u.on g) v:=by
 cases u with
 |u x=>exact RepU.turn b h
 |tup i=>obtain⟨f,rfl,e⟩:=h;exact⟨f,rfl,e.imp _ λx v _=>RepU.turn b⟩
 |tr x j=>trivial
theorem Ib{x:Ob}(h:IQ x y):Fc y:=λc e f a=>by subst a;cases x<;>exact h
theorem RepB.turn{ρ m:AE}{w:World}{Z:Addr->Prop}(t:Cf ρ m w w' Z g)(I:Keep w w' (Ar ρ Z) (Ar m Z)){b:Blk}(h:RepB ρ w Z o b)
  (M:o.gone=false-> ∀j,j<o.room*o.sz->w'.cell? (o.at j)=w.cell? (o.at j)) (J:o.mp-> ∀y,Fc y->w.heap[o.g]? =some y->w'.heap[o.g]? =some y):RepB m w' Z o (b.on g):=by
 cases b with
 |row P l app=>
  obtain⟨i,e,k,p,F⟩:=h;refine⟨i,e,k,p,λj x L=> ?_⟩;obtain⟨v,E,G⟩:=F j x L;have H:j<l.length:=O3;have N:o.nil=false:=by
   grind
  exact⟨v,O3,G.keep I⟩
 |box l=>
  obtain⟨i,e,k,p⟩:=h;refine⟨i,by rw[e];simp,k,λj c a=> ?_⟩;rw[Bf]at a;cases q:l[j]? with
  |none=>grind
  |some y=>
   rw[q]at a;cases a;obtain⟨v,E,r,z⟩:=p j y q;have H:j<l.length:=O3;exact⟨v,O3,r,t _ _ z⟩
 |fbox f l=>
  obtain⟨i,e,k,v,E,z⟩:=h;exact⟨i,e,k,v,(by simp_all),RepU.turn (u:= .clo f l) t z⟩
 |mp x=>
  obtain⟨i,e,y,k,p⟩:=h;exact⟨i,e,y,J e y (Ib p) k,p⟩
 |gh l=>
  obtain⟨i,e,k⟩:=h;refine⟨i,e,λj c a u K=> ?_⟩;rw[Bf,jze]at a;obtain⟨y,q,rfl⟩:=a;exact t _ _ (k j y q u K)
theorem RepB.thaw{ρ:AE}{w:World}{Z:Addr->Prop}{b:Blk}(a:RepB ρ w Z o b)(g:o.nil=false):o.gone=false:=by
 cases b with
 |row h e app=>exact a.2.2.2.1.2.trans g
 |box e=>exact a.2.2.1.2
 |fbox f e=>exact a.2.2.1.2
 |mp x=>exact a.2.1.2
 |gh e=>rw[a.2.1.1]at g;cases g
def upd(ρ:AE)(i:Nat)(o:Option Own):AE:=λj=>if j=i then o else ρ j
theorem BZ(ρ:AE)(i:Nat)(o:Option Own):upd ρ i o i=o:=by simp[upd]
theorem BG(ρ:AE)(o:Option Own)(h:j≠i):upd ρ i o j=ρ j:=by simp[upd,h]
theorem Gt{ρ:AE}(h:upd ρ i none j=some o):j≠i/\ρ j=some o:=by
 grind[BZ,BG]
theorem Q3{ρ:AE}{Z:Addr->Prop}{a:Addr}(h:Ar (upd ρ i none) Z a):Ar ρ Z a:=by
 rcases h with h|⟨j,o,b,e⟩
 ·exact .inl h
 ·exact .inr (by grind[Gt])
theorem Owns.erase{ρ:AE}{w:World}(h:Owns ρ w)(i:Nat):Owns (upd ρ i none) w:=
 ⟨λj o a=>h.cells j o (Gt a).2,λj e o f a b=>h.apart j e o f (Gt a).2 (Gt b).2,λj o a=>h.lim j o (Gt a).2⟩
theorem Tj(ρ:AE)(w:World)(Z:Addr->Prop)(i:Nat):Cf ρ (upd ρ i none) w w Z (Bm i):=by
 intro c v h;have b:Keep w w (Ar ρ Z) (Ar (upd ρ i none) Z):=Keep.mono λ_=>Q3;cases c with
 |d x=>exact RepC.keep b (λ_ h=>by cases h) h
 |nl=>exact h
 |bad=>exact h
 |sl j e n=>
  simp only[C.on,Bm];split
  ·exact RepC.one h
  ·rename_i f;exact RepC.keep b (λk a=>by cases a;grind[BG]) h
 |ptr j e=>
  simp only[C.on,Bm];split
  ·exact RepC.one h
  ·rename_i f;exact RepC.keep b (λk a=>by cases a;grind[BG]) h
 |mp q j=>
  simp only[C.on,Bm];split
  ·exact RepC.one h
  ·rename_i f;exact RepC.keep b (λk a=>by cases a;grind[BG]) h
theorem Wx{w:World}{g:Nat}(e:w.heap[g]? =some y)(f:Fc y){a:Addr}{v:Value}(b:a.block=g)(h:w.cell? a=some v):False:=by
 unfold World.cell? at h;rw[b,e]at h;cases y<;>first|exact f _ _ _ rfl|cases h
theorem Mps.sub{w:World}{ρ a:AE}(h:Mps ρ w)(f: ∀i o,a i=some o->o.mp->ρ i=some o):Mps a w:=λi o hi b=>h i o (f i o hi b) b
theorem Mps.to{w:World}{ρ:AE}(h:Mps ρ w)(f: ∀i o,ρ i=some o->o.mp-> ∀y,Fc y->w.heap[o.g]? =some y->w'.heap[o.g]? =some y):Mps ρ w':=λi o hi a=>by
 obtain⟨y,b,e⟩:=h i o hi a;grind
theorem ER(a:o.mp){b:Addr}(h:b.block=o.g):o.has b:=⟨a.2,h,.inl a.1,.inl a.1⟩
theorem Own.has_cases{a:Addr}(h:o.has a):(o.gone=false/\a.block=o.g/\o.o<=a.off/\a.off<o.o+o.room*o.sz)\/(o.mp/\a.block=o.g):=by
 obtain⟨b,e,i,j⟩:=h;cases f:o.nil with
 |true=>exact .inr ⟨⟨f,b⟩,e⟩
 |false=>grind
theorem RepB.nomp{ρ:AE}{w:World}{Z:Addr->Prop}{b:Blk}(g:RepB ρ w Z o b)(j: ∀x,b≠ .mp x): ¬o.mp:=λi=>by
 obtain⟨a,e⟩:=i;cases b with
 |row k h app=>rw[g.2.2.2.1.2,a]at e;cases e
 |box h=>rw[g.2.2.1.1]at a;cases a
 |fbox f h=>rw[g.2.2.1.1]at a;cases a
 |mp x=>exact j x rfl
 |gh h=>rw[g.2.1.2]at e;cases e
theorem JG(i:Nat)(st:St):st.purge i={ st.on (Bm i)with h:=rm i (st.on (Bm i)).h }:=rfl
variable {M Z:Addr->Prop} {w0 w:World} {ρ:AE} {st:St} {a:Act}
theorem Rel.purge(h:Rel M Z w0 ρ st a w)(i:Nat):Rel M Z w0 (upd ρ i none) (st.purge i) a w where
 fr:=h.fr
 heap:=⟨h.heap.owns.erase i,λj b e=>by
  rw[JG]at e;obtain⟨p,e⟩:=Hk e;simp only[St.on]at e;rw[BN]at e;cases f:lk j st.h with
  |none=>grind
  |some l=>
   rw[f]at e;cases e;obtain⟨o,x,q⟩:=h.heap.rep j l f;exact⟨o,(by grind[BG]),q.turn (Tj ρ w Z i) (Keep.mono λ_=>Q3) (λ_ _ _=>rfl) (λ_ _ _ h=>h)⟩⟩
 mine:=λj o k m=>h.mine j o k (Gt m).2
 out:=h.out
 mz:=h.mz
 tmps:=λt v g=>by
  rw[JG]at g;simp only[St.on]at g;rw[BN]at g;cases f:lk t st.t with
  |none=>grind
  |some r=>
   rw[f]at g;cases g;exact(h.tmps t r f).turn (Tj ρ w Z i)
 defers:=h.defers
 mps:=h.mps.sub (by grind[Gt])
def Own.dead(o:Own):Own:={ o with gone:=true }
theorem Own.dead_has(o:Own)(a:Addr): ¬o.dead.has a:=λh=>by cases h.1
def Cb(ρ:AE)(i:Nat):AE:=upd ρ i ((ρ i).map Own.dead)
theorem jdb{ρ:AE}(h:Cb ρ i j=some o): ∃a,ρ j=some a/\((j=i/\o=a.dead)\/(j≠i/\o=a)):=by
 unfold Cb at h;by_cases e:j=i
 ·subst e;rw[BZ,jze]at h;grind
 ·rw[BG ρ _ e]at h;grind
theorem Jm{ρ:AE}(h:Cb ρ i j=some o){a:Addr}(b:o.has a):j≠i/\ρ j=some o:=by
 obtain⟨e,f,⟨_,rfl⟩|⟨g,rfl⟩⟩:=jdb h
 ·exact absurd b (e.dead_has a)
 grind
theorem Jj{ρ:AE}{Z:Addr->Prop}{a:Addr}(h:Ar (Cb ρ i) Z a):Ar ρ Z a:=by
 rcases h with h|⟨j,o,b,e⟩
 ·exact .inl h
 ·exact .inr (by grind[Jm])
theorem OZ(ρ:AE)(w:World)(Z:Addr->Prop)(i:Nat):Cf ρ (Cb ρ i) w w Z Ij:=by
 intro c v h;have g:Keep w w (Ar ρ Z) (Ar (Cb ρ i) Z):=Keep.mono λ_=>Jj;have f:c.on Ij=c:=by cases c<;>rfl
 rw[f];cases c with
 |d x=>exact RepD.keep g h
 |nl=>exact h
 |bad=>exact h
 |sl j b n=>
  obtain⟨o,a,r⟩:=h;by_cases e:j=i
  ·subst e;exact⟨o.dead,by simp[Cb,BZ,a],r⟩
  ·exact⟨o,(BG ρ _ e).trans a,r⟩
 |ptr j b=>
  obtain⟨o,a,r⟩:=h;by_cases e:j=i
  ·subst e;exact⟨o.dead,by simp[Cb,BZ,a],r⟩
  ·exact⟨o,(BG ρ _ e).trans a,r⟩
 |mp q j=>
  obtain⟨o,a,r⟩:=h;by_cases e:j=i
  ·subst e;exact⟨o.dead,by simp[Cb,BZ,a],r⟩
  ·exact⟨o,(BG ρ _ e).trans a,r⟩
def C7(ρ:AE)(i j:Nat):AE:=λk=>if k=i then ρ j else if k=j then none else ρ k
theorem EY{ρ:AE}(h:C7 ρ i j k=some o):(k=i/\ρ j=some o)\/(k≠i/\k≠j/\ρ k=some o):=by
 grind[C7]
theorem jic(ρ:AE)(w:World)(Z:Addr->Prop):Cf ρ (C7 ρ i j) w w Z (C0 i j):=by
 have l:Keep w w (Ar ρ Z) (Ar (C7 ρ i j) Z):=Keep.mono λp h=>by
  rcases h with h|⟨k,o,l,e⟩
  ·exact .inl h
  ·rcases EY l with⟨_,g⟩|⟨_,_,g⟩
   ·exact .inr ⟨j,o,g,e⟩
   ·exact .inr ⟨k,o,g,e⟩
 have f: ∀k o,k≠j->k≠i->ρ k=some o->C7 ρ i j k=some o:=(by grind[C7])
 intro c v h;cases c with
 |d x=>exact RepD.keep l h
 |nl=>exact h
 |bad=>exact h
 |sl k m n=>
  simp only[C.on,C0];by_cases a:k=j
  ·simp only[a,if_true,C.to];obtain⟨o,e,r⟩:=h;exact⟨o,by grind[C7],r⟩
  ·simp only[a,if_false];by_cases b:k=i
   ·simp only[b,if_true];exact RepC.one h
   ·simp only[b,if_false];obtain⟨o,e,r⟩:=h;exact⟨o,f k o a b e,r⟩
 |ptr k m=>
  simp only[C.on,C0];by_cases a:k=j
  ·simp only[a,if_true,C.to];obtain⟨o,e,r⟩:=h;exact⟨o,by grind[C7],r⟩
  ·simp only[a,if_false];by_cases b:k=i
   ·simp only[b,if_true];exact RepC.one h
   ·simp only[b,if_false];obtain⟨o,e,r⟩:=h;exact⟨o,f k o a b e,r⟩
 |mp q k=>
  simp only[C.on,C0];by_cases a:k=j
  ·simp only[a,if_true,C.to];obtain⟨o,e,r⟩:=h;exact⟨o,by grind[C7],r⟩
  ·simp only[a,if_false];by_cases b:k=i
   ·simp only[b,if_true];exact RepC.one h
   ·simp only[b,if_false];obtain⟨o,e,r⟩:=h;exact⟨o,f k o a b e,r⟩
theorem Rel.rn(h:Rel M Z w0 ρ st a w)(i j:Nat): ∃L,Rel M Z w0 L (st.rn i j) a w:=by
 unfold St.rn;by_cases E:i=j
 ·grind
 rw[if_neg E];cases T:lk j st.h with
 |none=>exact⟨ρ,h⟩
 |some b=>
  have H:=jic ρ w Z (i:=i) (j:=j);have x:Keep w w (Ar ρ Z) (Ar (C7 ρ i j) Z):=Keep.mono λy h=>by
   rcases h with h|⟨k,o,x,r⟩
   ·exact .inl h
   ·rcases EY x with⟨_,f⟩|⟨_,_,f⟩
    ·exact .inr ⟨j,o,f,r⟩
    ·exact .inr ⟨k,o,f,r⟩
  refine⟨C7 ρ i j,?_⟩;exact {
   fr:=h.fr
   heap:=⟨⟨λk o l=>by
     rcases EY l with⟨_,f⟩|⟨_,_,f⟩
     ·exact h.heap.owns.cells j o f
     ·exact h.heap.owns.cells k o f,
    λk P o K F p q=>by
     rcases EY F with⟨e1,f⟩|⟨_,W,f⟩
     ·rcases EY p with⟨S,m⟩|⟨_,X,m⟩
      ·omega
      ·exact h.heap.owns.apart j P o K f m O
     ·rcases EY p with⟨S,m⟩|⟨_,X,m⟩
      ·exact h.heap.owns.apart k j o K f m W
      ·exact h.heap.owns.apart k P o K f m q,
    λk o l=>by
     rcases EY l with⟨_,f⟩|⟨_,_,f⟩
     ·exact h.heap.owns.lim j o f
     ·exact h.heap.owns.lim k o f⟩,λk b' g=>by
    by_cases e:k=i
    ·subst e;rw[Bt]at g;cases g;obtain⟨o,r,G⟩:=h.heap.rep j b T;exact⟨o,by simp[C7,r],G.turn H x (λ_ _ _=>rfl) (λ_ _ _ h=>h)⟩
    ·rw[BD e,BR e]at g;obtain⟨q,g⟩:=Hk g;simp only[St.on]at g;rw[BN,jze]at g;obtain⟨Q,z,rfl⟩:=g;obtain⟨o,r,G⟩:=h.heap.rep k Q z;exact⟨o,by grind[C7],G.turn H x (λ_ _ _=>rfl) (λ_ _ _ h=>h)⟩⟩
   mine:=λk o y l=>by
    rcases EY l with⟨_,f⟩|⟨_,_,f⟩
    ·exact h.mine j o y f
    ·exact h.mine k o y f
   out:=h.out
   mz:=h.mz
   tmps:=λt v I=>by
    simp only[St.on]at I;rw[BN,jze]at I;obtain⟨Y,J,rfl⟩:=I;exact(h.tmps t Y J).turn H
   defers:=h.defers
   mps:=λk o l N=>by
    rcases EY l with⟨_,f⟩|⟨_,_,f⟩
    ·exact h.mps j o f N
    ·exact h.mps k o f N }
theorem Rel.rns: ∀(f:List (Nat×Nat)) {ρ:AE} {st:St},Rel M Z w0 ρ st a w-> ∃b,Rel M Z w0 b (rns f st) a w
 |[],ρ,st,h=>⟨ρ,h⟩
 |(i,j)::r,ρ,st,h=>by
  obtain⟨g,e⟩:=h.rn i j;exact Rel.rns r e
theorem Ext.cell{w:World}(h:Ext w w'){a:Addr}{v:Value}(b:w.cell? a=some v):w'.cell? a=some v:=
 (Below.cell h.toBelow (aD w a b)).trans b
theorem Ext.frozen{w:World}(h:Ext w w'){p:Addr}(a:p.block<w.heap.size):w'.frozen? p=w.frozen? p:=Below.frozen h.toBelow a
theorem Ext.obj{w:World}(h:Ext w w')(a:w.heap[k]? =some y):w'.heap[k]? =some y:=(h.block k O3).trans a
theorem Ext.refl(w:World):Ext w w:=⟨Below.refl _ _,DR.refl _⟩
theorem Ext.trans{a b c:World}(h:Ext a b)(k:Ext b c):Ext a c:=⟨Below.trans h.toBelow (k.toBelow.mono h.size),h.drawn.trans k.drawn⟩
theorem Ext.alloc(w:World)(o:Obj):Ext w (w.alloc o):=⟨(Below.refl _ _).alloc (AO _) o,DR.refl _⟩
theorem Ext.drew(w:World):Ext w w.drew:=⟨(Below.refl _ _).drew,DR.le (Nat.le_succ _)⟩
theorem Fr.ext(h:Fr M w0 w)(b:Ext w w'):Fr M w0 w' where
 os:=b.os.trans h.os
 drawn:=h.drawn.trans b.drawn
 tape:=b.tape.trans h.tape
 output:=b.output.trans h.output
 size:=Nat.le_trans h.size b.size
 cell:=λa v e i=>b.cell (h.cell a v e i)
 frz:=λa e f=>(b.frozen (Nat.lt_of_lt_of_le f h.size)).trans (h.frz a e f)
 blk:=λk g e=>(b.block k (Nat.lt_of_lt_of_le g h.size)).trans (h.blk k g e)
theorem Keep.ext{w:World}(e:Ext w w')(Z:Addr->Prop):Keep w w' Z Z:=λ_ _ a b=>⟨e.cell b,a⟩
theorem Owns.ext(h:Owns ρ w)(b:Ext w w'):Owns ρ w':=
 ⟨λi o hi g j f=>by
  obtain⟨⟨v,a⟩,e⟩:=h.cells i o hi g j f;exact⟨⟨v,b.cell a⟩,(b.frozen (aD w _ a)).trans e⟩,h.apart,h.lim⟩
theorem TQ{w:World}(a:Ext w w')(ρ:AE)(Z:Addr->Prop)(c:C)(v:Value)(h:RepC ρ w Z c v):RepC ρ w' Z c v:=h.keep (Keep.ext a _) (λ_ _=>rfl)
abbrev Dt:Nat->C->C:=Ij
theorem C.on_id(c:C):c.on Dt=c:=by cases c<;>rfl
theorem H4(l:List C):l.map (C.on Dt)=l:=by
 induction l with
 |nil=>rfl
 |cons c r a=>rw[List.map_cons,C.on_id,a]
theorem U.on_id(u:U):u.on Dt=u:=by
 cases u with
 |c x=>simp[U.on,C.on_id]
 |agg a=>simp[U.on,H4]
 |clo f a=>simp[U.on,H4]
theorem V.on_id(u:V):u.on Dt=u:=by
 cases u with
 |u x=>simp[V.on,U.on_id]
 |tup a=>
  have:a.map (U.on Dt)=a:=by
   induction a with
   |nil=>rfl
   |cons c r b=>rw[List.map_cons,U.on_id,b]
  simp[V.on,this]
 |tr x e=>rfl
theorem Blk.on_id(b:Blk):b.on Dt=b:=by
 cases b with
 |row=>rfl
 |box a=>simp[Blk.on,H4]
 |fbox f a=>simp[Blk.on,H4]
 |mp x=>rfl
 |gh a=>simp[Blk.on,H4]
theorem Rel.ext(h:Rel M Z w0 ρ st a w)(e:Ext w w'):Rel M Z w0 ρ st a w' where
 fr:=h.fr.ext e
 heap:=⟨h.heap.owns.ext e,λi b l=>by
  obtain⟨o,k,r⟩:=h.heap.rep i b l;refine⟨o,k,?_⟩;have g:Cf ρ ρ w w' Z Dt:=λc v m=>by grind[C.on_id,TQ]
  have:=r.turn g (Keep.ext e _) (λq j p=>by
   obtain⟨⟨v,f⟩,_⟩:=h.heap.owns.cells i o k q j p;rw[f,e.cell f]) (λ_ _ _ h=>e.obj h)
  rwa [Blk.on_id]at this⟩
 mine:=h.mine
 out:=h.out
 mz:=h.mz
 tmps:=λt v f=>by
  have g:Cf ρ ρ w w' Z Dt:=λc v m=>by grind[C.on_id,TQ]
  have:=(h.tmps t v f).turn g;rwa [V.on_id]at this
 defers:=h.defers
 mps:=h.mps.to λ_ _ _ _ _ _ h=>e.obj h
theorem Rel.drop(h:Rel M Z w0 ρ st a w)(i:Nat):Rel M Z w0 (Cb ρ i) (st.drop i) a w where
 fr:=h.fr
 heap:=⟨⟨λj o g y=>by
   obtain⟨l,f,⟨_,rfl⟩|⟨_,rfl⟩⟩:=jdb g
   ·cases y
   ·exact h.heap.owns.cells j o f y,
  λj H o l g q k m f r=>h.heap.owns.apart j H o l (Jm g f).2 (Jm q r).2 k m f r,
  λj o g=>by
   obtain⟨l,f,⟨_,rfl⟩|⟨_,rfl⟩⟩:=jdb g
   ·exact h.heap.owns.lim j l f
   ·exact h.heap.owns.lim j o f⟩,λj b p=>by
  obtain⟨k,p⟩:=Hk p;obtain⟨o,E,F⟩:=h.heap.rep j b p;have:=F.turn (OZ ρ w Z i) (Keep.mono λ_=>Jj) (λ_ _ _=>rfl) (λ_ _ _ h=>h);have e:b.on Ij=b:=Blk.on_id b;rw[e]at this;exact⟨o,(BG ρ _ k).trans E,this⟩⟩
 mine:=λj o m g x=>h.mine j o m (Jm g x).2 x
 out:=h.out
 mz:=h.mz
 tmps:=λt v G=>by
  have:=(h.tmps t v G).turn (OZ ρ w Z i);grind[Ij,V.on_id]
 defers:=h.defers
 mps:=h.mps.sub λj o g z=>by
  obtain⟨l,f,⟨_,rfl⟩|⟨_,rfl⟩⟩:=jdb g
  ·cases z.2
  ·exact f
theorem Rel.put(h:Rel M Z w0 ρ st a w){dst:Option Nat}{v:V}{x:Value}(f: ∀d,dst=some d->d<a.tmps.size)(g:RepV ρ w Z v x):Rel M Z w0 ρ (st.put dst v) (a.put dst x) w where
 fr:=h.fr
 heap:=by cases dst<;>exact h.heap
 mine:=h.mine
 out:=h.out
 mz:=h.mz
 tmps:=λt u b=>by
  cases dst with
  |none=>exact h.tmps t u b
  |some d=>
   simp only[St.put]at b;by_cases e:t=d
   ·subst e;rw[Bt]at b;cases b;have:=f t rfl;simp_all[Act.put,Array.getD]
   ·rw[BD e,BR e]at b;have:=h.tmps t u b;simp only[Act.put,Cn];rw[Array.getElem?_setIfInBounds_ne (λh=>e h.symm),<-Cn];exact this
 defers:=by cases dst<;>exact h.defers
 mps:=h.mps
theorem Rel.add(h:Rel M Z w0 ρ st a w){b:Blk}(hi:ρ i=none)
  (hnew: ∀f,o.has f->w0.heap.size<=f.block) (X: ∀f,o.has f->f.block<w.heap.size->False)  (Q:Ext w w')
  (hcells:o.gone=false-> ∀j,j<o.room*o.sz->(∃v,w'.cell? (o.at j)=some v)/\w'.frozen? (o.at j)=false) (hlim:o.room<=maxLen)
  (hb:RepB (upd ρ i (some o)) w' Z o b) (hmp:o.mp->w.heap.size<=o.g/\ ∃y,w'.heap[o.g]? =some y/\Fc y):Rel M Z w0 (upd ρ i (some o)) (st.blk i b) a w':=by
 have G: ∀f v,o.has f->w.cell? f=some v->False:=λf v F r=>X f F (aD w f r);have hk:Keep w w' (Ar ρ Z) (Ar (upd ρ i (some o)) Z):=λf x E r=>⟨Q.cell r,λF=>by
  rcases F with F|⟨j,p,l,F⟩
  ·exact E (.inl F)
  ·by_cases e:j=i
   ·grind[BZ]
   ·rw[BG ρ _ e]at l;exact E (.inr ⟨j,p,l,F⟩)⟩
 have ht:Cf ρ (upd ρ i (some o)) w w' Z Dt:=λc v hc=>by
  rw[C.on_id];refine hc.keep hk λj l=> ?_;by_cases e:j=i
  ·subst e;cases c with
   |sl k off n=>cases l;obtain⟨p,z,_⟩:=hc;grind
   |ptr k off=>cases l;obtain⟨p,z,_⟩:=hc;grind
   |mp q k=>cases l;obtain⟨p,z,_⟩:=hc;grind
   |_=>cases l
  grind[BG]
 exact {
  fr:=h.fr.ext Q
  heap:=⟨⟨λj p l E k L=>by
    by_cases e:j=i
    ·grind[BZ]
    ·rw[BG ρ _ e]at l;exact(h.heap.owns.ext Q).cells j p l E k L,
   λj j' S T l m hne f Y h2=>by
    by_cases e:j=i
    ·subst e;rw[BZ]at l;cases l;rw[BG ρ _ O]at m;rcases Own.has_cases h2 with⟨E,J,hlo,hhi⟩|⟨W,J⟩
     case inr=>
      obtain⟨y,hl,_⟩:=h.mps j' T m W;grind
     obtain⟨⟨v,r⟩,_⟩:=h.heap.owns.cells j' T m E (f.off - T.o) O;have h1':=Y;obtain⟨P,I,N,K⟩:=Y;have he:(T.at (f.off - T.o))=⟨f.block,f.off,none⟩:=O3;rw[he]at r;exact G ⟨f.block,f.off,none⟩ v ⟨P,I,N,K⟩ r
    ·by_cases e':j'=i
     ·subst e';rw[BZ]at m;cases m;rw[BG ρ _ e]at l;rcases Own.has_cases Y with⟨E,J,hlo,hhi⟩|⟨W,J⟩
      case inr=>
       obtain⟨y,hl,_⟩:=h.mps j S l W;grind
      obtain⟨⟨v,r⟩,_⟩:=h.heap.owns.cells j S l E (f.off - S.o) O;obtain⟨P,I,N,K⟩:=h2;have he:(S.at (f.off - S.o))=⟨f.block,f.off,none⟩:=O3;rw[he]at r;exact G ⟨f.block,f.off,none⟩ v ⟨P,I,N,K⟩ r
     ·rw[BG ρ _ e]at l;rw[BG ρ _ e']at m;exact h.heap.owns.apart j j' S T l m hne f Y h2,
   λj p l=>by
    by_cases e:j=i
    ·grind[BZ]
    ·rw[BG ρ _ e]at l;exact h.heap.owns.lim j p l⟩,
   λj b' H=>by
    by_cases e:j=i
    ·grind[St.blk,Bt,BZ]
    ·simp only[St.blk]at H;rw[BD e,BR e]at H;obtain⟨p,z,hr⟩:=h.heap.rep j b' H;refine⟨p,(BG ρ _ e).trans z,?_⟩;have:=hr.turn ht hk (λE k L=>by
      obtain⟨⟨v,r⟩,_⟩:=h.heap.owns.cells j p z E k L;rw[r,Q.cell r]) (λ_ _ _ h=>Q.obj h)
     rwa [Blk.on_id]at this⟩
  mine:=λj p f l F=>by
   by_cases e:j=i
   ·grind[BZ]
   ·rw[BG ρ _ e]at l;exact h.mine j p f l F
  out:=h.out
  mz:=h.mz
  tmps:=λt v r=>by
   have:=(h.tmps t v r).turn ht;rwa [V.on_id]at this
  defers:=h.defers
  mps:=λj p l W=>by
   by_cases e:j=i
   ·grind[BZ]
   ·rw[BG ρ _ e]at l;obtain⟨y,hl,hy⟩:=h.mps j p l W;exact⟨y,Q.obj hl,hy⟩ }
def RepAt(ρ:AE)(w:World)(Z:Addr->Prop)(w':World)(o:Own):Blk->Prop
 | .row sz a app=>o.sz=sz/\o.app=app/\a.length<=o.room*sz/\((o.nil=true->o.room=0)/\o.gone=o.nil)/\
   ∀(j:Nat) (x:D),a[j]? =some x-> ∃v,w'.cell? (o.at j)=some v/\RepD w (Ar ρ Z) x v
 | .box a=>o.sz=1/\o.room=a.length/\(o.nil=false/\o.gone=false)/\
   ∀(j:Nat) (c:C),a[j]? =some c-> ∃v,w'.cell? (o.at j)=some v/\one v/\RepC ρ w Z c v
 | .fbox f a=>o.sz=1/\o.room=1/\(o.nil=false/\o.gone=false)/\ ∃v,w'.cell? (o.at 0)=some v/\RepU ρ w Z (.clo f a) v
 | .mp x=>o.room=0/\o.mp/\ ∃y,w'.heap[o.g]? =some y/\IQ x y
 | .gh a=>o.room=0/\(o.nil=true/\o.gone=true)/\ ∀(j:Nat) (c:C),a[j]? =some c-> ∀v,Gv.gv j v->RepC ρ w Z c v
def BW(ρ:AE)(i:Nat)(o:Own):AE:=upd (upd ρ i none) i (some o)
theorem Cd(ρ:AE)(i:Nat)(o:Own):BW ρ i o i=some o:=BZ _ _ _
theorem Gn(ρ:AE)(o:Own)(h:j≠i):BW ρ i o j=ρ j:=by simp_all[BW,BG]
theorem Kf(l:Ext w w')(f: ∀b,o.has b->w.heap.size<=b.block):Keep w w' (Ar ρ Z) (Ar (BW ρ i o) Z):=λb x h k=>⟨l.cell k,λa=>by
 rcases a with a|⟨j,m,g,a⟩
 ·exact h (.inl a)
 ·by_cases e:j=i
  ·subst e;rw[Cd]at g;cases g;have:=f b a;have:=aD w b k;omega
  ·rw[Gn ρ _ e]at g;exact h (.inr ⟨j,m,g,a⟩)⟩
theorem NB(m:Ext w w')(b: ∀l,o.has l->w.heap.size<=l.block):Cf ρ (BW ρ i o) w w' Z (Bm i):=by
 intro c v h;have f:=Kf (ρ:=ρ) (Z:=Z) (i:=i) m b;cases c with
 |d x=>exact RepC.keep f (λ_ h=>by cases h) h
 |nl=>exact h
 |bad=>exact h
 |sl j g n=>
  simp only[C.on,Bm];split
  ·exact RepC.one h
  ·rename_i e;exact RepC.keep f (λk a=>by cases a;exact Gn ρ o e) h
 |ptr j g=>
  simp only[C.on,Bm];split
  ·exact RepC.one h
  ·rename_i e;exact RepC.keep f (λk a=>by cases a;exact Gn ρ o e) h
 |mp q j=>
  simp only[C.on,Bm];split
  ·exact RepC.one h
  ·rename_i e;exact RepC.keep f (λk a=>by cases a;exact Gn ρ o e) h
theorem RepAt.new(m:Ext w w')(a: ∀F,o.has F->w.heap.size<=F.block){b:Blk}(h:RepAt ρ w Z w' o b):RepB (BW ρ i o) w' Z o (b.on (Bm i)):=by
 have I:=Kf (ρ:=ρ) (Z:=Z) (i:=i) m a;cases b with
 |row K p app=>
  obtain⟨g,k,l,z,G⟩:=h;refine⟨g,k,l,z,λj x m=> ?_⟩;obtain⟨v,q,H⟩:=G j x m;exact⟨v,q,H.keep I⟩
 |box p=>
  obtain⟨g,k,l,z⟩:=h;refine⟨g,by rw[k];simp,l,λj c e=> ?_⟩;rw[Bf]at e;cases r:p[j]? with
  |none=>grind
  |some y=>
   rw[r]at e;cases e;obtain⟨v,q,t,E⟩:=z j y r;exact⟨v,q,t,NB m a _ _ E⟩
 |fbox f p=>
  obtain⟨g,k,l,v,q,E⟩:=h;exact⟨g,k,l,v,q,RepU.turn (u:= .clo f p) (NB m a) E⟩
 |mp x=>exact h
 |gh p=>
  obtain⟨g,k,l⟩:=h;refine⟨g,k,λj c e u J=> ?_⟩;rw[Bf,jze]at e;obtain⟨y,r,rfl⟩:=e;exact NB m a _ _ (l j y r u J)
theorem Rel.new(h:Rel M Z w0 ρ st a w){w':World}(q:Ext w w')(i:Nat){o:Own}{b:Blk}(e: ∀k,o.has k->w.heap.size<=k.block)
  (f:o.gone=false-> ∀j,j<o.room*o.sz->(∃v,w'.cell? (o.at j)=some v)/\w'.frozen? (o.at j)=false) (l:o.room<=maxLen) (r:RepAt ρ w Z w' o b) (p:o.mp->w.heap.size<=o.g/\ ∃y,w'.heap[o.g]? =some y/\Fc y:=by first|exact λh=>Bool.noConfusion (show false=true from h.1)|exact λh=>Bool.noConfusion (show true=false from h.2)):
  Rel M Z w0 (BW ρ i o) (st.new i b) a w':=by
 refine(h.purge i).add (BZ _ _ _) (λk m=> ?_) (λk m t=> ?_) q f l (r.new q e) p
 ·exact Nat.le_trans h.fr.size (e k m)
 ·have:=e k m;omega
end Go.Va
namespace Go.Va
open Keep renaming mono → aD
open Go.RowKit
variable [DrC]
variable [Gv]
theorem Dl{α β:Type}{f:α->Option β}: ∀{l:List α} {r:List β},l.mapM f=some r->r.length=l.length/\ ∀(j:Nat) (x:α),l[j]? =some x-> ∃y,r[j]? =some y/\f x=some y
 |[],r,h=>O3
 |a::l,r,h=>by
  simp only[List.mapM_cons,Option.pure_def,Option.bind_eq_bind,jzd,Option.some.injEq]at h;obtain⟨y,i,k,b,rfl⟩:=h;obtain⟨e,g⟩:=Dl b;grind
variable{o:Own}{vs:List Value}
theorem getElem?_cut{α:Type}(off n j:Nat)(l:List α):(cut off n l)[j]? =if j<n then l[off+j]? else none:=by
 grind[cut]
def ersd(ok:Nat->Bool)(ρ:AE):AE:=λj=>if ok j then none else ρ j
theorem Eu{ok:Nat->Bool}{ρ:AE}{j:Nat}(h:ersd ok ρ j=some o):ok j=false/\ρ j=some o:=by
 unfold ersd at h;grind
theorem CD{ok:Nat->Bool}{ρ:AE}{Z:Addr->Prop}{a:Addr}(h:Ar (ersd ok ρ) Z a):Ar ρ Z a:=by
 rcases h with h|⟨j,o,b,e⟩
 ·exact .inl h
 ·exact .inr (by grind[Eu])
section
variable {M Z:Addr->Prop} {w0 w:World} {ρ:AE} {st:St} {a:Act}
theorem Rel.thawed(h:Rel M Z w0 ρ st a w){ok:Nat->Bool}{i:Nat}(hi:ρ i=some o)(p:ok i=true){b:Addr}(e:o.has b): ¬Ar (ersd ok ρ) Z b:=by
 rintro (l|⟨j,q,f,k⟩)
 ·rcases h.mine i o b hi e with m|hs
  ·exact h.mz b m l
  ·have:=h.out b l;omega
 ·obtain⟨r,f⟩:=Eu f;have g:i≠j:=O3;exact h.heap.owns.apart i j o q hi f g b e k
theorem Own.has_at(a:o.gone=false){j:Nat}(b:j<o.room*o.sz):o.has (o.at j):=⟨a,rfl,.inr O1,O3⟩
theorem toD_sl(h:Rel M Z w0 ρ st a w)(ok:Nat->Bool)(k i off n:Nat)(v:Value)(x:D)(hc:RepC ρ w Z (.sl i off n) v)(e:toD ok st.h k (.sl i off n)=some x):RepD w (Ar (ersd ok ρ) Z) x v:=by
 have e:(if ok i then (match lk i st.h with
  |some (.row b g _)=>if (off+n)*b<=g.length then some (.slice n (cut (off*b) (n*b) g)) else none
  |_=>none) else none)=some x:=by cases k<;>exact e
 split at e
 case isFalse=>cases e
 case isTrue L=>
  split at e
  case h_2=>cases e
  case h_1 b g app H=>
   split at e
   case isFalse=>cases e
   case isTrue S=>
    cases e;obtain⟨o,W,_,hcase⟩:=hc;obtain⟨q,K,hb⟩:=h.heap.rep i _ H;obtain rfl:q=o:=Bi (K.symm.trans W);obtain⟨l,hb2,hb3,E,F⟩:=hb;rcases hcase with⟨T,rfl,rfl,rfl⟩|⟨T,t,c,rfl,I,G,z,_⟩
    ·have:cut (0*b) (0*b) g=[]:=by simp[cut]
     rw[this];exact .snil
    ·have p: ∀(j:Nat) (y:D),(cut (off*b) (n*b) g)[j]? =some y->j<n*b/\g[off*b+j]? =some y:=by
      intro j y f;rw[getElem?_cut]at f;split at f
      ·exact⟨‹_›,f⟩
      ·cases f
     have hadr: ∀(j:Nat) (y:D),(cut (off*b) (n*b) g)[j]? =some y->t=q.at (off*q.sz):=by
      intro j y f;obtain⟨Q,_⟩:=p j y f;rcases z with h0|h1
      ·have:n=0:=O;subst this;simp at Q
      ·exact h1
     refine .slice n _ t c (λj=>(w.cell? (q.at (off*b+j))).getD undef) (λJ=> ?_) I G ?_ ?_ ?_
     ·obtain⟨y,r,N⟩:=List.exists_cons_of_ne_nil J;rw[hadr 0 y (by rw[N];rfl)]
     all_goals
      intro j y f;obtain⟨Q,m⟩:=p j y f;obtain⟨v,X,hd⟩:=F _ y m;have hlt:off*b+j<g.length:=(jzg.1 m).1;have Y:=hadr j y f;have P:(⟨t.block,t.off+j,none⟩:Addr)=q.at (off*b+j):=by rw[Y,l];simp[Own.at];omega
     ·rw[P,X];rfl
     ·rw[P];exact h.thawed W L (Own.has_at (E.2.trans T) (by rw[l];omega))
     ·rw[X];exact hd.keep (aD λ_=>CD)
theorem EP(h:Rel M Z w0 ρ st a w)(ok:Nat->Bool): ∀(k:Nat) (c:C) (v:Value) (x:D),RepC ρ w Z c v->toD ok st.h k c=some x->RepD w (Ar (ersd ok ρ) Z) x v:=by
 intro k
 induction k with
 |zero=>
  intro c v x G e;cases c with
  |d y=>simp[toD]at e;subst e;exact RepD.keep (aD λ_=>CD) G
  |nl=>simp[toD]at e;subst e;cases (show v=_ from G);exact .snil
  |bad=>simp[toD]at e
  |ptr i b=>
   simp[toD]at e;rw[<-e.2];exact .any v (RepC.one G)
  |sl i b n=>grind[toD_sl]
  |mp q i=>simp[toD]at e
 |succ k ih=>
  intro c v x G e;cases c with
  |d y=>grind[toD,RepD.keep,aD,CD]
  |nl=>grind[toD]
  |bad=>simp[toD]at e
  |sl i b n=>grind[toD_sl]
  |mp q i=>simp[toD]at e
  |ptr i b=>
   simp only[toD]at e;split at e
   case isFalse=>cases e
   case isTrue K=>
    obtain⟨o,L,hn,rfl⟩:=G;split at e
    case h_4=>cases e
    case h_5=>cases e
    case h_6=>cases e
    case h_3 f H p=>
     split at e
     case isFalse=>cases e
     case isTrue T=>
      subst T;rw[jze]at e;obtain⟨X,J,rfl⟩:=e;obtain⟨Y,hm⟩:=Dl J;obtain⟨l,r,N⟩:=h.heap.rep i _ p;obtain rfl:l=o:=Bi (r.symm.trans L);obtain⟨m,z,E,v,F,vs,rfl,W⟩:=N;have hfn:RepD w (Ar (ersd ok ρ) Z) (.fn f X) (.func (.func f) #[] vs.toArray):=by
       refine .fn f X vs (by rw[Y];exact W.1) λj y v g F=> ?_;have S:j<H.length:=by rw[<-Y];exact(jzg.1 g).1
       obtain⟨y',t,Q⟩:=hm j _ (AD S);rw[g]at t;cases t;exact ih _ v y (W.2 j _ v (AD S) F) Q
      refine .ref _ _ (λ_=> .func (.func f) #[] vs.toArray) (λ_=>rfl) ?_ ?_ ?_
      all_goals
       intro j y g;obtain rfl:j=0:=by
        have:=(jzg.1 g).1;simpa using this
      ·simpa [Own.at]using F
      ·exact h.thawed L K (Own.has_at E.2 (by rw[m,z];omega))
      ·simp at g;subst g;exact hfn
    case h_1 sz H app p=>
     cases e;obtain⟨l,r,N⟩:=h.heap.rep i _ p;obtain rfl:l=o:=Bi (r.symm.trans L);obtain⟨m,z,E,I,hb5⟩:=N;refine .ref _ _ (λj=>(w.cell? (l.at (b+j))).getD undef) (λ_=>rfl) ?_ ?_ ?_
     all_goals
      intro j y g;rw[List.getElem?_drop]at g;obtain⟨v,F,hd⟩:=hb5 _ y g;have hlt:b+j<H.length:=(jzg.1 g).1;have P:(⟨(l.at b).block,(l.at b).off+j,none⟩:Addr)=l.at (b+j):=by simp[Own.at];omega
     ·rw[P,F];rfl
     ·rw[P];exact h.thawed L K (Own.has_at (I.2.trans hn) (by rw[m];omega))
     ·rw[F];exact hd.keep (aD λ_=>CD)
    case h_2 H p=>
     rw[jze]at e;obtain⟨X,J,rfl⟩:=e;obtain⟨Y,hm⟩:=Dl J;obtain⟨l,r,N⟩:=h.heap.rep i _ p;obtain rfl:l=o:=Bi (r.symm.trans L);obtain⟨m,z,E,I⟩:=N;have key: ∀(j:Nat) (y:D),X[j]? =some y-> ∃c,H[b+j]? =some c/\toD ok st.h k c=some y:=by
      intro j y g;have S:j<(H.drop b).length:=by rw[<-Y];exact(jzg.1 g).1
      obtain⟨y',t,Q⟩:=hm j _ (AD S);rw[g]at t;cases t;refine⟨_,?_,Q⟩;rw[<-List.getElem?_drop,AD S]
     refine .ref _ _ (λj=>(w.cell? (l.at (b+j))).getD undef) (λ_=>rfl) ?_ ?_ ?_
     all_goals
      intro j y g;obtain⟨c,G,Q⟩:=key j y g;obtain⟨v,F,_,hr⟩:=I _ c G;have hlt:b+j<H.length:=(jzg.1 G).1;have P:(⟨(l.at b).block,(l.at b).off+j,none⟩:Addr)=l.at (b+j):=by simp[Own.at];omega
     ·rw[P,F];rfl
     ·rw[P];exact h.thawed L K (Own.has_at E.2 (by rw[m,z];omega))
     ·rw[F];exact ih c v y hr Q
theorem FZ{α:Type}(ok:Nat->Bool)(k:Nat): ∀l:List (Nat×α),lk k (Ds ok l)=if ok k then none else lk k l
 |[]=>by simp[Ds,lk]
 |(j,v)::r=>by
  have a:=FZ ok k r;unfold Ds at a ⊢;rw[List.filter_cons];cases b:ok j with
  |true=>
   simp only[b,Bool.not_true,Bool.false_eq_true,if_false,a,lk];grind
  |false=>
   simp only[b,Bool.not_false,if_true,lk,a];grind
theorem SY(h:Rel M Z w0 ρ st a w)(ok:Nat->Bool):Cf ρ (ersd ok ρ) w w Z (Du st.h ok):=by
 intro c v b;have g:Keep w w (Ar ρ Z) (Ar (ersd ok ρ) Z):=aD λ_=>CD;cases c with
 |d x=>exact RepC.keep g (λ_ h=>by cases h) b
 |nl=>exact b
 |bad=>exact b
 |sl j i n=>
  simp only[C.on,Du];split
  ·split
   ·exact EP h ok 4 _ v _ b ‹_›
   ·exact RepC.one b
  ·rename_i f;exact RepC.keep g (λk e=>by cases e;simp[ersd,f]) b
 |ptr j i=>
  simp only[C.on,Du];split
  ·split
   ·exact EP h ok 4 _ v _ b ‹_›
   ·exact RepC.one b
  ·rename_i f;exact RepC.keep g (λk e=>by cases e;simp[ersd,f]) b
 |mp q j=>
  simp only[C.on,Du];split
  ·split
   ·exact EP h ok 4 _ v _ b ‹_›
   ·exact RepC.one b
  ·rename_i f;exact RepC.keep g (λk e=>by cases e;simp[ersd,f]) b
theorem Owns.ersd(h:Owns ρ w)(ok:Nat->Bool):Owns (ersd ok ρ) w:=
 ⟨λj o a=>h.cells j o (Eu a).2,λj e o f a b=>h.apart j e o f (Eu a).2 (Eu b).2,λj o a=>h.lim j o (Eu a).2⟩
theorem Rel.freezeK(h:Rel M Z w0 ρ st a w)(ok:Nat->Bool):Rel M Z w0 (ersd ok ρ) (st.freezeK ok) a w where
 fr:=h.fr
 heap:=⟨h.heap.owns.ersd ok,λj b e=>by
  simp only[St.freezeK]at e;rw[FZ]at e;cases i:ok j with
  |true=>grind
  |false=>
   rw[i]at e;simp only[Bool.false_eq_true,if_false,St.on]at e;rw[BN]at e;cases f:lk j st.h with
   |none=>grind
   |some l=>
    rw[f]at e;cases e;obtain⟨o,r,p⟩:=h.heap.rep j l f;exact⟨o,by grind[ersd],p.turn (SY h ok) (aD λ_=>CD) (λ_ _ _=>rfl) (λ_ _ _ h=>h)⟩⟩
 mine:=λj o k m=>h.mine j o k (Eu m).2
 out:=h.out
 mz:=h.mz
 tmps:=λt v g=>by
  simp only[St.freezeK,St.on]at g;rw[BN]at g;cases f:lk t st.t with
  |none=>grind
  |some q=>
   rw[f]at g;cases g;exact(h.tmps t q f).turn (SY h ok)
 defers:=h.defers
 mps:=h.mps.sub (by grind[Eu])
def AJ(ids:List Nat)(ρ:AE):AE:=ersd (ids.contains ·) ρ
theorem Rel.freeze(h:Rel M Z w0 ρ st a w)(ids:List Nat):Rel M Z w0 (AJ ids ρ) (st.freeze ids) a w:=by
 cases ids with
 |nil=>
  have:AJ [] ρ=ρ:=O5;rw[this];exact h
 |cons i r=>exact h.freezeK _
theorem Rel.shut(h:Rel M Z w0 ρ st a w){ids:List Nat}{cs:List C}{ds:List D}{s:St}(f:st.sealW ids cs=some (ds,s))(e:RepL (RepC ρ w Z) cs vs):
  Rel M Z w0 (AJ ids ρ) s a w/\RepL (RepD w (Ar (AJ ids ρ) Z)) ds vs:=by
 simp only[St.sealW,jze,Prod.mk.injEq]at f;obtain⟨i,o,rfl,rfl⟩:=f;refine⟨h.freeze ids,?_⟩;obtain⟨m,l⟩:=Dl o;refine⟨m.trans e.1,λj x v q p=> ?_⟩;have b:j<cs.length:=O3;obtain⟨y,g,k⟩:=l j _ (AD b);rw[q]at g;cases g;exact EP h _ 4 _ v _ (e.2 j _ v (AD b) p) k
theorem My(b:Nat): ∀(vs:List Value) (o:Nat) (w:World) (k:Nat),k≠b->(w.setCells b o vs).heap[k]? =w.heap[k]?
 |[],_,_,_,_=>rfl
 |v::r,o,w,k,h=>by rw[World.setCells,My b r (o+1) _ k h];grind[Below.heap_setCell]
theorem Pr(b:Nat): ∀(vs:List Value) (o:Nat) (w:World),(w.setCells b o vs).heap.size=w.heap.size/\(w.setCells b o vs).os=w.os/\(w.setCells b o vs).tape=w.tape/\(w.setCells b o vs).output=w.output/\(w.setCells b o vs).drawn=w.drawn
 |[],_,_=>⟨rfl,rfl,rfl,rfl,rfl⟩
 |v::r,o,w=>by
  obtain⟨a,e,f,g⟩:=Pr b r (o+1) (w.setCell ⟨b,o,none⟩ v);exact⟨a.trans O1,e,f,g⟩
theorem Rel.write(h:Rel M Z w0 ρ st a w){i:Nat}(hi:ρ i=some o)(L:o.gone=false){off:Nat}(Q:off+vs.length<=o.room*o.sz){b:Blk}
  (hb:Keep w (w.setCells o.g (o.o+off) vs) (Ar ρ Z) (Ar ρ Z)->RepB ρ (w.setCells o.g (o.o+off) vs) Z o b):Rel M Z w0 ρ (st.blk i b) a (w.setCells o.g (o.o+off) vs):=by
 have hin: ∀f:Addr,f.block=o.g->o.o+off<=f.off->f.off<o.o+off+vs.length->o.has f:=λf h1 h2 h3=>⟨L,h1,.inr O,.inr O⟩
 have hout: ∀f:Addr,¬o.has f->(w.setCells o.g (o.o+off) vs).cell? f=w.cell? f:=(by grind[World.cell?_setCells_out,absurd])
 have S:Keep w (w.setCells o.g (o.o+off) vs) (Ar ρ Z) (Ar ρ Z):=λf x hx F=>⟨by rw[hout f (λz=>hx (.inr ⟨i,o,hi,z⟩))];exact F,hx⟩
 have X:Cf ρ ρ w (w.setCells o.g (o.o+off) vs) Z Dt:=λc v hc=>by rw[C.on_id];exact hc.keep S λ_ _=>rfl
 obtain⟨ks,P,kt,ko,N⟩:=Pr o.g vs (o.o+off) w;have H: ∀(k:Nat) (y:Obj),Fc y->w.heap[k]? =some y->(w.setCells o.g (o.o+off) vs).heap[k]? =some y:=λk y hy K=>by
  by_cases p:vs=[]
  ·subst p;exact K
  ·rw[My _ _ _ _ _ ?_]
   ·exact K
   ·rintro rfl;obtain⟨⟨u,Y⟩,_⟩:=h.heap.owns.cells i o hi L off (by have:=List.length_pos_iff.2 p;omega);exact Wx K hy rfl Y
 exact {
  fr:=⟨P.trans h.fr.os,by rw[N];exact h.fr.drawn,kt.trans h.fr.tape,ko.trans h.fr.output,by rw[ks];exact h.fr.size,
   λf v E F=>by
    rw[hout f λz=> ?_]
    ·exact h.fr.cell f v E F
    ·rcases h.mine i o f hi z with h1|h1
     ·exact E h1
     ·have:=World.block_lt_of_cell? w0 f F;omega,
   λf E ha=>(World.frozen?_setCells _ _ _ _ _).trans (h.fr.frz f E ha),
   λk l E=>by
    by_cases p:vs=[]
    ·subst p;exact h.fr.blk k l E
    ·have T:0<vs.length:=O3;by_cases e:k=o.g
     ·subst e;have:=h.mine i o ⟨o.g,o.o+off,none⟩ hi O3;grind
     ·rw[My _ _ _ _ _ e];exact h.fr.blk k l E⟩
  heap:=⟨⟨λj G J m k l=>by
    obtain⟨⟨v,F⟩,hf⟩:=h.heap.owns.cells j G J m k l;refine⟨?_,(by grind[World.frozen?_setCells])⟩;by_cases z:o.has (G.at k)
    ·by_cases e:j=i
     ·subst e;obtain rfl:=Bi (hi.symm.trans J);by_cases W:off<=k/\k<off+vs.length
      ·have:=World.cell?_setCells_in o.g vs (o.o+off) w (λq hq=>by
        obtain⟨⟨u,Y⟩,_⟩:=h.heap.owns.cells j o J L (off+q) O;grind) (k - off) O
       grind
      grind[World.cell?_setCells_out]
     ·exact absurd z (h.heap.owns.apart j i G o J hi e _ (Own.has_at m l))
    grind,h.heap.owns.apart,h.heap.owns.lim⟩,
   λj b' r=>by
    by_cases e:j=i
    ·grind[St.blk,Bt]
    ·simp only[St.blk]at r;rw[BD e,BR e]at r;obtain⟨G,I,W⟩:=h.heap.rep j b' r;refine⟨G,I,?_⟩;have:=W.turn X S (λm k l=>hout _ λz=>h.heap.owns.apart j i G o I hi e _ (Own.has_at m l) z) (λ_=>H _);rwa [Blk.on_id]at this⟩
  mine:=h.mine
  out:=h.out
  mz:=h.mz
  tmps:=λt v F=>by
   have:=(h.tmps t v F).turn X;rwa [V.on_id]at this
  defers:=h.defers
  mps:=h.mps.to O3 }
end
end Go.Va
namespace Go.Va
open Go.RowKit
variable [DrC]
variable [Gv]
def HC:C->Value->Bool
 | .d (.int k n),.int e f=>k=e&&n=f
 | .d (.bool b),.bool a=>b=a
 | .d (.str s),.string g=>s.size=0&&g.size=0
 | .nl,.slice none 0 0=>true
 | .d .nilPtr,.pointer none=>true
 | .d .nilFn,.nilFunc=>true
 | .d (.lit .nilIface),.nilIface=>true
 | .d (.lit (.map none)),.map none=>true
 |_,_=>false
def E5:List C->List Value->Bool
 |[],[]=>true
 |c::r,v::s=>HC c v&&E5 r s
 |_,_=>false
def Ej(P:Program)(t:TypeId)(z:Option C):Bool:=
 match P.underlying t,z with
 |some (.int _),some (.d (.int _ _))=>true
 |some .bool,some (.d (.bool _))=>true
 |_,_=>false
def Mv(P:Program)(t:TypeId)(d:TypeDesc)(zs:List C):Bool:=
 !P.eqGuardType P.depth t&&
 (match d with
 | .array n e=>n=zs.length&&P.cellsOf e=1&&zs.all λz=>Ej P e (some z)
 | .struct fs => !P.stoodInHeld t && fs.size = zs.length && fs.toList.zipIdx.all fun (f, k) => f.name ≠ "_" && f.offset = k && Ej P f.type zs[k]?
 |_=>false)
def Ct(d:TypeDesc)(i:TI):Bool:=
 match d with
 | .struct fs=>i.agg&&i.sl=none&&i.arr=none&&i.flds=fs.toList.map λf=>(f.offset,f.type)
 | .array n e=>i.agg&&i.sl=none&&i.arr=some (n,e)&&i.flds=[]
 | .slice e=> !i.agg&&i.sl=some e&&i.arr=none&&i.flds=[]&&(match i.zero with|[.nl]=>true|_=>false)
 | .int k=> !i.agg&&i.sl=none&&i.arr=none&&i.flds=[]&&(match i.zero with|[.d (.int k' 0)]=>k'=k|_=>false)
 | .bool=> !i.agg&&i.sl=none&&i.arr=none&&i.flds=[]&&(match i.zero with|[.d (.bool _)]=>true|_=>false)
 | .string=> !i.agg&&i.sl=none&&i.arr=none&&i.flds=[]&&(match i.zero with|[.d (.str _)]=>true|_=>false)
 | .func .. => !i.agg&&i.sl=none&&i.arr=none&&i.flds=[]&&(match i.zero with|[.d .nilFn]=>true|_=>false)
 | .pointer _=> !i.agg&&i.sl=none&&i.arr=none&&i.flds=[]&&(match i.zero with|[.d .nilPtr]=>true|_=>false)
 | .map _ _=> !i.agg&&i.sl=none&&i.arr=none&&i.flds=[]&&(match i.zero with|[.d (.lit (.map none))]=>true|_=>false)
 | .interface _=> !i.agg&&i.sl=none&&i.arr=none&&i.flds=[]&&(match i.zero with|[.d (.lit .nilIface)]=>true|_=>false)
 |_=>false
def LT(P:Program)(t:TypeId)(b:Bool):Bool:=
 match P.underlying t with
 |some (.map e a)=>(match P.underlying e with|some .string=> !b|some (.int .i64)=>b|_=>false)&&(match P.info? a with|some info=>(match info.zero with|some (.int .i64 n)=>n=0|_=>false)|none=>false)
 |_=>false
def HB(P:Program)(t:TypeId)(i:TI):Bool:=
 match P.info? t,P.underlying t with
 |some info,some d=>
  info.size=i.size&&info.bytes=i.bytes&&i.size<=10000&&i.zero.length=i.size&&(match info.zero with|some z=>E5 i.zero z.cells.toList|none=>false)&&Ct d i&&(!i.flat||Mv P t d i.zero)&&(!i.mp||LT P t i.mpi)
 |_,_=>false
structure TyOk (P:Program) (t:TypeId) (i:TI) (info:TypeInfo) (d:TypeDesc):Prop where
 inf:P.info? t=some info
 und:P.underlying t=some d
 size:info.size=i.size
 bytes:info.bytes=i.bytes
 small:i.size<=10000
 zlen:i.zero.length=i.size
 zero: ∃z,info.zero=some z/\E5 i.zero z.cells.toList=true
 desc:Ct d i=true
 flat:i.flat=true->Mv P t d i.zero=true
 mp:i.mp=true->LT P t i.mpi=true
variable{vs:List Value}
theorem Be{P:Program}{t:TypeId}{i:TI}(h:HB P t i=true): ∃info d,TyOk P t i info d:=by
 unfold HB at h;cases hi:P.info? t with
 |none=>grind
 |some info=>
  cases e:P.underlying t with
  |none=>grind
  |some d=>
   rw[hi,e]at h;simp only[AR,decide_eq_true_eq,Bool.or_eq_true,Bool.not_eq_true']at h;obtain⟨⟨⟨⟨⟨⟨⟨f,g⟩,a⟩,b⟩,l⟩,j⟩,m⟩,o⟩:=h;refine⟨info,d,hi,e,f,g,a,b,?_,j,λk=> ?_,λk=> ?_⟩
   ·grind
   ·grind
   grind
def Dk(P:Program)(T:AH):Prop:= ∀t i,T t=some i->HB P t i=true
section
variable {P:Program} {t:TypeId} {i:TI} {info:TypeInfo} {d:TypeDesc}
theorem TyOk.isAgg(h:TyOk P t i info d)(w:World):(isAgg t).run P w= .ok i.agg w:=by
 have a:=h.desc;cases d<;>simp only[Ct,AR,Bool.not_eq_true',Bool.false_eq_true]at a<;>simp[Go.isAgg,run_underlying h.und,a]
theorem TyOk.sizeOf(h:TyOk P t i info d)(w:World):(sizeOf t).run P w= .ok i.size w:=by
 simp[Go.sizeOf,typeInfo,h.inf,h.size]
theorem TyOk.slice(h:TyOk P t i info d){e:TypeId}(b:i.sl=some e):P.underlying t=some (.slice e):=by
 have a:=h.desc;cases d<;>simp[Ct,b]at a;rw[h.und,a.1.1.1.2]
theorem TyOk.array(h:TyOk P t i info d){n e:Nat}(g:i.arr=some (n,e)):P.underlying t=some (.array n e):=by
 have a:=h.desc;cases d<;>simp[Ct,g]at a;obtain⟨⟨_,b,f⟩,_⟩:=a;rw[h.und,b,f]
theorem TyOk.field(h:TyOk P t i info d){f:Nat}{p:Nat×Nat}(e:i.flds[f]? =some p): ∃b a,P.underlying t=some (.struct b)/\b[f]? =some a/\a.offset=p.1/\a.type=p.2:=by
 have j:=h.desc;cases d<;>simp[Ct]at j
 case struct b=>
  obtain⟨_,k⟩:=j;rw[k]at e;simp only[Bf,jze]at e;obtain⟨a,g,rfl⟩:=e;exact⟨b,a,h.und,by simpa using g,rfl,rfl⟩
 all_goals grind
theorem TyOk.intKind(h:TyOk P t i info d){k:IntKind}{n:Int}(a:i.agg=false)(e:i.zero=[.d (.int k n)]):P.underlying t=some (.int k):=by
 have b:=h.desc;cases d<;>simp[Ct,e,a]at b
 case int f=>
  rw[h.und];grind
theorem TyOk.bool(h:TyOk P t i info d){b:Bool}(a:i.agg=false)(f:i.zero=[.d (.bool b)]):P.underlying t=some .bool:=by
 have e:=h.desc;cases d<;>simp[Ct,f,a]at e;exact h.und
theorem TyOk.func(h:TyOk P t i info d)(a:i.agg=false)(e:i.zero=[.d .nilFn]): ∃p r v,P.underlying t=some (.func p r v):=by
 have b:=h.desc;cases d<;>simp[Ct,e,a]at b;exact⟨_,_,_,h.und⟩
theorem TyOk.iface(h:TyOk P t i info d)(a:i.agg=false)(e:i.zero=[.d (.lit .nilIface)]): ∃ms,P.underlying t=some (.interface ms):=by
 have b:=h.desc;cases d<;>simp[Ct,e,a]at b;exact⟨_,h.und⟩
theorem TyOk.list(h:TyOk P t i info d)(a:i.agg=false)(f:i.zero=[.nl]): ∃e,P.underlying t=some (.slice e):=by
 have b:=h.desc;cases d<;>simp[Ct,f,a]at b;exact⟨_,h.und⟩
theorem TyOk.str(h:TyOk P t i info d)(a:i.sl=none)(b:i.arr=none)(e:i.agg=false){s:ByteArray}(g:i.zero=[.d (.str s)]):P.underlying t=some .string:=by
 have f:=h.desc;cases d<;>simp[Ct,g,e,a,b]at f;exact h.und
end
theorem jew{ρ:AE}{w:World}{Z:Addr->Prop}{c:C}{v:Value}(h:HC c v=true):RepC ρ w Z c v:=by
 unfold HC at h;split at h<;>simp at h
 ·obtain⟨rfl,rfl⟩:=h;exact .int _ _
 ·subst h;exact .bool _
 ·rename_i s a;have:s=a:=h.1.trans h.2.symm;subst this;exact .str _
 ·rfl
 ·exact .nilPtr
 ·exact .nilFn
 ·exact .lit _ rfl
 ·exact .lit _ rfl
theorem Ep{ρ:AE}{w:World}{Z:Addr->Prop}: ∀{cs:List C} {vs:List Value},E5 cs vs=true->RepL (RepC ρ w Z) cs vs
 |[],[],_=>⟨rfl,O1⟩
 |[],_::_,h=>by simp[E5]at h
 |_::_,[],h=>by simp[E5]at h
 |c::r,v::s,h=>by
  simp only[E5,AR]at h;obtain⟨a,b⟩:=Ep (ρ:=ρ) (w:=w) (Z:=Z) h.2;refine⟨by simp[a],λj x u f e=> ?_⟩;grind[jew]
theorem Q9{ρ:AE}{w:World}{Z:Addr->Prop}{v:Value}{c:C}(h:cCell v=some c):RepC ρ w Z c v:=by
 unfold cCell at h;split at h<;>cases h
 ·exact .int _ _
 ·exact .bool _
 ·exact .str _
 ·rfl
 ·exact .nilPtr
 ·exact .nilFn
theorem jgP{ρ:AE}{w:World}{Z:Addr->Prop}{v:Value}{x:V}(h:cVal v=some x):RepV ρ w Z x v:=by
 unfold cVal at h;split at h
 ·rename_i b;rw[jze]at h;obtain⟨l,f,rfl⟩:=h;obtain⟨e,g⟩:=Dl f;refine⟨b.toList,O1,e,λj c v a i=> ?_⟩;grind[Q9]
 ·rw[jze]at h;obtain⟨c,a,rfl⟩:=h;exact Q9 a
section
variable {P:Program} {M Z:Addr->Prop} {w0 w:World} {ρ:AE} {st:St} {a:Act}
theorem Rel.ev(h:Rel M Z w0 ρ st a w){x:Operand}{v:V}(b:st.ev x=some v):RepV ρ w Z v (a.eval x):=by
 cases x with
 |tmp t=>exact h.tmps t v b
 |const c=>exact jgP b
 |func f=>cases b;exact .fn f [] [] rfl O1
 |global g=>cases b
theorem Rel.evU(h:Rel M Z w0 ρ st a w){x:Operand}{u:U}(b:st.evU x=some u):RepU ρ w Z u (a.eval x):=by
 unfold St.evU at b;split at b<;>cases b;exact h.ev ‹_›
theorem Rel.evC(h:Rel M Z w0 ρ st a w){x:Operand}{c:C}(b:st.evC x=some c):RepC ρ w Z c (a.eval x):=by
 unfold St.evC at b;split at b<;>cases b;exact h.ev ‹_›
theorem Rel.evI(h:Rel M Z w0 ρ st a w){x:Operand}{p:IntKind×Int}(b:st.evI x=some p):a.eval x= .int p.1 p.2:=by
 unfold St.evI at b;split at b<;>cases b;have:=h.ev ‹_›;generalize a.eval x=y at this;cases this;rfl
theorem Rel.evB(h:Rel M Z w0 ρ st a w){x:Operand}{b:Bool}(e:st.evB x=some b):a.eval x= .bool b:=by
 unfold St.evB at e;split at e<;>cases e;have:=h.ev ‹_›;generalize a.eval x=y at this;cases this;rfl
theorem RepU.cells{u:U}{v:Value}(h:RepU ρ w Z u v):RepL (RepC ρ w Z) u.cells v.cells.toList:=by
 cases u with
 |c x=>
  have g:=RepC.one h;have:v.cells= #[v]:=by cases v<;>first|rfl|cases g
  rw[this];refine⟨rfl,λj c u a b=> ?_⟩;cases j with
  |zero=>simp[U.cells]at a b;subst a;subst b;exact h
  |succ j=>grind
 |agg e=>obtain⟨i,rfl,k⟩:=h;grind[Value.cells,U.cells]
 |clo f e=>
  obtain⟨i,rfl,_⟩:=h;refine⟨rfl,λj c u a b=> ?_⟩;cases j with
  |zero=>simp[U.cells,Value.cells]at a b;subst a;subst b;exact rfl
  |succ j=>simp[U.cells]at a
def StepOk(P:Program)(M Z:Addr->Prop)(w0:World)(o:Oper)(e:St)(a:Act)(w:World):Prop:=
 ∃b v g f,(execOp a.eval o).run P w= .ok b g/\(b= .value v\/(b= .skip/\v=undef))/\Rel M Z w0 f e (a.put o.dst v) g
theorem StepOk.val(h:Rel M Z w0 ρ st a w){o:Oper}{v:V}{x:Value}(b: ∀d,o.dst=some d->d<a.tmps.size)
  (e:(execOp a.eval o).run P w= .ok (.value x) w) (f:RepV ρ w Z v x):StepOk P M Z w0 o (st.put o.dst v) a w:=
 ⟨_,x,w,ρ,e,.inl rfl,h.put b f⟩
theorem StepOk.new{o:Oper}{v:V}{x:Value}{w':World}{b:AE}{s:St}(e: ∀d,o.dst=some d->d<a.tmps.size)
  (f:(execOp a.eval o).run P w= .ok (.value x) w') (h:Rel M Z w0 b s a w') (g:RepV b w' Z v x):StepOk P M Z w0 o (s.put o.dst v) a w:=
 ⟨_,x,w',b,f,.inl rfl,h.put e g⟩
theorem NG(w:World)(cs:Array Value)(e:TypeId)(j:Nat):(w.alloc (.cells cs e)).frozen? ⟨w.heap.size,j,none⟩=false:=
 O1
def BB(w:World)(sz room:Nat)(app:Bool):Own:={ g:=w.heap.size,o:=0,sz,room,app,nil:=false,gone:=false }
theorem Ln(w:World)(sz room:Nat)(app:Bool): ∀a,(BB w sz room app).has a->w.heap.size<=a.block:=λa h=>by
 obtain⟨_,h,_⟩:=h;grind[BB]
theorem Rel.newBox(h:Rel M Z w0 ρ st a w)(i:Nat){cs:List C}(e:TypeId)(g:RepL (RepC ρ w Z) cs vs)(f:cs.length<=maxLen):
  Rel M Z w0 (BW ρ i (BB w 1 cs.length false)) (st.new i (.box cs)) a (w.alloc (.cells vs.toArray e)):=by
 refine h.new (Ext.alloc w _) i (Ln w _ _ _) (λ_ j l=>⟨?_,?_⟩) f ?_
 ·have b:j<vs.length:=by rw[<-g.1];grind[BB]
  simp_all[BB,Own.at]
 ·simp_all[BB,Own.at,Nat.zero_add,NG]
 ·refine⟨rfl,rfl,⟨rfl,rfl⟩,λj c k=> ?_⟩;have l:j<cs.length:=O3;have b:j<vs.length:=by rw[<-g.1];exact l
  have m:vs[j]? =some vs[j]:=O1;exact⟨vs[j],by simp[BB,Own.at,b],RepC.one (g.2 j c _ k m),g.2 j c _ k m⟩
theorem Rel.newRow(h:Rel M Z w0 ρ st a w){b:World}(r:Ext w b)(o:b.heap.size=w.heap.size)(i:Nat){sz room:Nat}{ds:List D}(more:List Value)(e:TypeId)(app:Bool)
  (l:RepL (RepD w (Ar ρ Z)) ds vs) (hroom:(vs++more).length=room*sz) (f:room<=maxLen):
  Rel M Z w0 (BW ρ i (BB w sz room app)) (st.new i (.row sz ds app)) a (b.alloc (.cells (vs++more).toArray e)):=by
 have g: ∀j,j<(vs++more).length->(b.alloc (.cells (vs++more).toArray e)).cell? ⟨w.heap.size,j,none⟩=(vs++more)[j]? :=λj k=>by
  rw[<-o];simp
 refine h.new (Ext.trans r (Ext.alloc b _)) i (Ln w _ _ _) (λ_ j k=>⟨?_,?_⟩) f ?_
 ·simp_all[BB,Own.at,Nat.zero_add,AD]
 ·simpa [BB,Own.at,o]using NG b (vs++more).toArray e j
 ·refine⟨rfl,rfl,?_,⟨(by grind[BB]),rfl⟩,λj x m=> ?_⟩
  ·have:=l.1;grind[BB]
  ·have k:j<ds.length:=O3;have p:j<vs.length:=by rw[<-l.1];exact k
   have q:vs[j]? =some vs[j]:=O1;refine⟨vs[j],?_,l.2 j x _ m q⟩;simp only[BB,Own.at,Nat.zero_add];grind
end
end Go.Va
