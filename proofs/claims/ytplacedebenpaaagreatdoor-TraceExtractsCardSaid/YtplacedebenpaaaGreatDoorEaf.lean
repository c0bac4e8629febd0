/- a part of the proof -/
import Derived.Test.YtplacedebenpaaaGreatDoorEae
set_option linter.all false
namespace Go.Va
open World renaming block_lt_of_cell? → aD
open _root_.Nat renaming lt_of_lt_of_le → aG, le_trans → aJ
open Keep renaming mono → aH
open Own renaming has_at → aI
open Go.RowKit
variable [DrC]
variable [Gv]
variable{w':World}{Z':Addr->Prop}{h:List (Nat×Blk)}
section
variable {P:Program} {T:AH} {X:Cx} {M Z:Addr->Prop} {w0 w:World} {ρ:AE} {st:St} {a:Act}
theorem RepC.keepZ(e:Keep w w' (Ar ρ Z) (Ar ρ Z')){c:C}{v:Value}(a:RepC ρ w Z c v):RepC ρ w' Z' c v:=by
 cases c with
 |d x=>exact RepD.keep e a
 |nl=>exact a
 |bad=>exact a
 |sl i b n=>exact a
 |ptr i b=>exact a
 |mp q i=>exact a
theorem RepU.keepZ(h:Keep w w' (Ar ρ Z) (Ar ρ Z')){u:U}{v:Value}(b:RepU ρ w Z u v):RepU ρ w' Z' u v:=by
 cases u with
 |c x=>exact RepC.keepZ h b
 |agg cs=>obtain⟨g,e,a,i⟩:=b;exact⟨g,e,a,(by grind[RepC.keepZ])⟩
 |clo f cs=>obtain⟨g,e,a,i⟩:=b;exact⟨g,e,a,(by grind[RepC.keepZ])⟩
theorem Heap.keepZ(r:Heap ρ w Z h)(F:Keep w w' (Ar ρ Z) (Ar ρ Z'))
  (H: ∀i o,ρ i=some o->o.gone=false-> ∀j,j<o.room*o.sz->w'.cell? (o.at j)=w.cell? (o.at j)/\w'.frozen? (o.at j)=w.frozen? (o.at j))
  (L: ∀i o,ρ i=some o->o.mp-> ∀y:Obj,w.heap[o.g]? =some y->w'.heap[o.g]? =some y):Heap ρ w' Z' h:=
 ⟨⟨λi o hi E j m=>by rw[(H i o hi E j m).1,(H i o hi E j m).2];exact r.owns.cells i o hi E j m,r.owns.apart,r.owns.lim⟩,λi b K=>by
  obtain⟨o,G,p⟩:=r.rep i b K;refine⟨o,G,?_⟩;have I:=H i o G;cases b with
  |row P cs app=>
   obtain⟨e,a,l,J,N⟩:=p;refine⟨e,a,l,J,λj x k=> ?_⟩;obtain⟨v,t,q⟩:=N j x k;have m:j<cs.length:=O3;have hnil:o.nil=false:=by
    grind
   exact⟨v,O3,q.keep F⟩
  |box cs=>
   obtain⟨e,a,l,J⟩:=p;refine⟨e,a,l,λj x k=> ?_⟩;obtain⟨v,t,z,q⟩:=J j x k;have m:j<cs.length:=O3;exact⟨v,O3,z,q.keepZ F⟩
  |fbox f cs=>
   obtain⟨e,a,l,v,t,q⟩:=p;exact⟨e,a,l,v,by simp_all,(by grind[RepU.keepZ])⟩
  |mp x=>
   obtain⟨e,a,y,M,k⟩:=p;exact⟨e,a,y,L i o G a y M,k⟩
  |gh cs=>
   obtain⟨e,a,l⟩:=p;exact⟨e,a,λj x k v t=>(l j x k v t).keepZ F⟩⟩
theorem Heap.mps(g:Heap ρ w Z h)(f: ∀i o,ρ i=some o->(lk i h).isSome=true):Mps ρ w:=λi o hi j=>by
 obtain⟨b,e⟩:=Option.isSome_iff_exists.1 (f i o hi);obtain⟨l,k,a⟩:=g.rep i b e;obtain rfl:l=o:=O3;cases b with
 |mp x=>obtain⟨_,_,y,p,m⟩:=a;grind[Ib]
 |_=>exact absurd j (a.nomp O1)
theorem Lw(e:Owns ρ w)(j:Mps ρ w){a:Addr}(h:Cells ρ a):a.block<w.heap.size:=by
 obtain⟨i,o,hi,l⟩:=h;rcases Own.has_cases l with⟨k,b,g,f⟩|⟨m,b⟩
 ·obtain⟨⟨v,p⟩,_⟩:=e.cells i o hi k (a.off - o.o) O;have:=aD w _ p;grind
 ·obtain⟨y,q,_⟩:=j i o hi m;grind
theorem A.rep.keep(b:Keep w w' Z Z'){a:A}{v:Value}(h:A.rep w Z a v):A.rep w' Z' a v:=by
 cases a with
 |c x=>exact RepD.keep b h
 |agg cs=>obtain⟨g,f,e,i⟩:=h;exact⟨g,f,e,(by grind[RepD.keep])⟩
theorem RepL.mono{α:Type}{r s:α->Value->Prop}{a:List α}{vs:List Value}(h:RepL r a vs)(hi: ∀x v,r x v->s x v):RepL s a vs:=⟨h.1,λj x v e b=>hi x v (h.2 j x v e b)⟩
def JX(P:Program)(Y:Yl)(f:FuncId)(j:List D)(b:List Value)(k:List A->List (List A))(h:List (List A))(l:Addr->Prop):Yl where
 g:=f
 caps:=b
 J:=λe R D w=>(∀y∈e,Gy P Y.x f (y++j.map .c) (k y))/\(∀a,D a->a.block<w.heap.size)/\(∃i:Addr->Prop,(∀a,l a->i a)/\(∀a,i a->D a)/\Y.J (e.flatMap k++h) R i w)/\RepL (RepD w λa=>R a\/ ¬D a) j b
theorem Ua{Y:Yl}(t:YlOk P Y)(f:FuncId)(S:List D)(q:List Value)(zs:List A->List (List A))(E:List (List A))(Db:Addr->Prop):YlOk P (JX P Y f S q zs E Db) where
 sub:=λz R D w ⟨_,h,⟨i,_,k,l⟩,_⟩=>⟨λa hr=>k a ((t.sub _ R i w l).1 a hr),h⟩
 stable:=λz R D w L M ⟨F,p,⟨i,T,r,k⟩,l⟩ hM b=>⟨F,λa h=>aG (p a h) b.size,⟨i,T,r,t.stable _ R i w L M k O3 b⟩,l.mono λx v g=>g.keep λa u X K=>
  ⟨b.cell a u O3 K,X⟩⟩
 step:=λy z R D D2 w vals ⟨F,p,⟨i,T,r,k⟩,l⟩ hD G hy=>by
  obtain⟨I,o⟩:=F y O1;refine⟨I,?_⟩;rw[List.flatMap_cons,List.append_assoc]at k;have Z:=t.sub _ R i w k;have m:RepL (A.rep w λa=>(R a\/ ¬D2 a)/\a.block<w.heap.size) (y++S.map .c) (vals++q):=by
   refine(hy.mono λx v g=>g.keep (aH λ_ h=>h.1)).append ⟨by simpa using l.1,λj x v g hv=> ?_⟩;simp only[Bf,jze]at g;obtain⟨d,W,rfl⟩:=g;exact RepD.keep (by grind[aH,id]) (l.2 j d v W hv)
  have:=o Y rfl t w _ _ _ R i k (G.sub (λa h=>h.2) λa h=>h.1) O3 m;refine this.mono λe L ⟨he,Q,N,hJ,b,H,hD',hDD⟩=>⟨he,Q,λa=>N a\/D a,⟨O3,λa h=> ?_,O3,l.mono λx v g=>g.keep λa u X K=> ?_⟩,b,H,λa W=> ?_,λa h=> .inr h⟩
  ·rcases h with h|h
   ·exact(t.sub _ Q N L hJ).2 a h
   ·exact aG (p a h) b.size
  ·have J: ¬R a:=O3;have hDa:D a:=O3;refine⟨b.cell a u J K,?_⟩;grind
  grind
def Ht(f:FuncId)(cs:List C)(ys:List (List A))(H:List (List A)->List (Nat×Blk))(cv:List Value):Yl where
 g:=f
 caps:=cv
 J:=λb R D w=>b<:+ys/\(∀a,D a->a.block<w.heap.size)/\ ∃ρ,R=Cells ρ/\(∀a,Cells ρ a->D a)/\Heap ρ w (λa=>a.block<w.heap.size/\ ¬D a) (H b)/\
  RepL (RepC ρ w λa=>a.block<w.heap.size/\ ¬D a) cs cv/\ ∀i o,ρ i=some o->(lk i (H b)).isSome=true
theorem N4{f:FuncId}{cs:List C}{ys:List (List A)}{H:List (List A)->List (Nat×Blk)}(cv:List Value)(hx: ∀y g,(y::g)<:+ys->Ld P f y cs (H (y::g)) (H g)):YlOk P (Ht f cs ys H cv) where
 sub:=λr R D w ⟨_,L,ρ,t,z,_⟩=>(by simp_all)
 stable:=λr R D w k M ⟨J,L,ρ,t,z,K,N,Q⟩ T b=>by
  have hk:Keep w k (Ar ρ λa=>a.block<w.heap.size/\ ¬D a) (Ar ρ λa=>a.block<k.heap.size/\ ¬D a):=λa u hn hu=>by
   have hlt:=aD w a hu;have S:D a:=Classical.not_not.1 λh=>hn (.inl ⟨hlt,h⟩);refine⟨b.cell a u O3 hu,?_⟩;rintro (h|h)
   ·exact h.2 S
   ·exact hn (.inr h)
  refine⟨J,λa h=>aG (L a h) b.size,ρ,t,z,K.keepZ hk (λi o hi Z j hj=> ?_) (λi o hi I y hy=>G0 b (λa e W=>T a W (z a ⟨i,o,hi,ER I e⟩)) hy),N.mono λc v E=>E.keepZ hk,Q⟩;obtain⟨⟨v,hv⟩,_⟩:=K.owns.cells i o hi Z j hj;refine⟨?_,b.frz _ (λI=>T _ I (z _ ⟨i,o,hi,aI Z hj⟩)) (aD w _ hv)⟩;rw[hv];exact b.cell _ v (λI=>T _ I (z _ ⟨i,o,hi,aI Z hj⟩)) hv
 step:=λy r R D p w vals ⟨J,L,ρ,t,z,K,N,Q⟩ hD F hy=>by
  obtain⟨Y,q⟩:=hx y r J;refine⟨Y,?_⟩;have G:Keep w w (Ar ρ λa=>a.block<w.heap.size/\ ¬D a) (Ar ρ λa=>a.block<w.heap.size/\ ¬p a):=aH λa h=>h.imp O3 id;have:=q w (λa=>a.block<w.heap.size/\ ¬p a) ρ vals cv (F.sub (λa h=>h.1) λa h=>h.elim (λh=> .inr h.2) λh=> .inl (t ▸ h)) (K.keepZ G O1 O1) O3 Q
   (hy.mono λx v hx=>hx.keep (aH λa h=>by
    rcases h with h|h
    ·exact .inr h.2
    ·exact .inl (t ▸ h))) (N.mono λc v E=>E.keepZ G)
  refine this.mono λe k ⟨he,l,b,hh,hl,E,X⟩=> ?_;have hout: ∀a,(a.block<k.heap.size/\ ¬(p a\/(w.heap.size<=a.block/\a.block<k.heap.size)))->a.block<w.heap.size/\ ¬p a:=O3;have m:Keep k k (Ar l λa=>a.block<w.heap.size/\ ¬p a) (Ar l λa=>a.block<k.heap.size/\ ¬(p a\/(w.heap.size<=a.block/\a.block<k.heap.size))):=aH λa h=>h.imp (hout a) id;have hltc: ∀a,Cells l a->a.block<k.heap.size:=λa h=>Lw hh.owns (hh.mps hl) h;refine⟨he,Cells l,λa=>p a\/(w.heap.size<=a.block/\a.block<k.heap.size),⟨List.IsSuffix.trans O1 J,λa h=> ?_,l,rfl,λa h=> ?_,hh.keepZ m O1 O1,X.mono λc v E=>E.keepZ m,hl⟩,t ▸ b,λa h=> ?_,O3,O3⟩
  ·rcases h with h|h
   ·exact aG (F a h) b.size
   ·exact h.2
  ·grind
  simp_all
theorem Rel.purgesF: ∀(l:List Nat) {ρ:AE} {st:St},Rel M Z w0 ρ st a w->Rel M Z w0 (AJ l ρ) (purges l st) a w
 |[],ρ,st,h=>by
  have:AJ [] ρ=ρ:=O5;rw[this];exact h
 |i::l,ρ,st,h=>by
  have:=Rel.purgesF l (h.purge i);have e:AJ (i::l) ρ=AJ l (upd ρ i none):=by
   funext j;by_cases b:j=i
   ·simp_all[AJ,ersd,upd]
   ·simp[AJ,ersd,upd,b]
  rw[e];exact this
theorem ME{ids:List Nat}{j:Nat}{o:Own}(h:AJ ids ρ j=some o):j∉ids/\ρ j=some o:=by
 obtain⟨a,b⟩:=Eu h;grind
theorem Fi{ids:List Nat}{j:Nat}(h:j∉ids):AJ ids ρ j=ρ j:=by simp[AJ,ersd,h]
section
variable {f:FuncId} {cs:List C} {cv:List Value} {ys:List (List A)} {H:List (List A)->List (Nat×Blk)} {fz ids nw:List Nat}
def Gm(ids nw fz:List Nat)(ρ:AE):Addr->Prop:=Cells (Bj ids (AJ nw (AJ fz ρ)))
def ET(ids nw fz:List Nat)(ρ:AE)(Z:Addr->Prop)(w:World):Addr->Prop:=λa=>a.block<w.heap.size/\ ¬Ar (AJ ids (AJ nw (AJ fz ρ))) Z a
theorem SJ(h:Rel M Z w0 ρ st a w)(m:HbOk st cs (H ys) (H []) fz ids nw)(p:RepL (RepC ρ w Z) cs cv):(Ht f cs ys H cv).J ys (Gm ids nw fz ρ) (ET ids nw fz ρ Z w) w:=by
 have l:=Rel.purgesF nw (h.freeze fz);have z: ∀i∈ids,AJ nw (AJ fz ρ) i=ρ i:=λi hi=>(Fi λe=>m.free i e hi).trans (Fi (m.frz i hi));have t: ∀g,Ar (AJ nw (AJ fz ρ)) Z g->Ar ρ Z g:=λg h=>CD (CD h);have k:RepL (RepC (AJ nw (AJ fz ρ)) w Z) cs cv:=⟨p.1,λj c v I G=>(p.2 j c v I G).keep (aH t) λi hi=>z i (m.caps c O3 i hi)⟩
 have r:Keep w w (Ar (Bj ids (AJ nw (AJ fz ρ))) (Ar (AJ ids (AJ nw (AJ fz ρ))) Z)) (Ar (Bj ids (AJ nw (AJ fz ρ))) λg=>g.block<w.heap.size/\ ¬ET ids nw fz ρ Z w g):=aH λg hh=>by
  rcases hh with⟨Q,S⟩|hh
  ·exact .inl (Classical.not_not.1 λF=>S ⟨Q,F⟩)
  ·exact .inr hh
 refine⟨List.suffix_refl _,λg P=>P.1,_,rfl,λg ⟨i,o,hi,L⟩=>⟨EG l (A9 hi).2 L,?_⟩,Heap.keepZ ⟨⟨λj x q=>l.heap.owns.cells j x (A9 q).2,λj W X Y q E=>l.heap.owns.apart j W X Y (A9 q).2 (A9 E).2,λj x q=>l.heap.owns.lim j x (A9 q).2⟩,λi b N=> ?_⟩ r O1 O1,
  ⟨k.1,λj c v I G=>RepC.keepZ r (E7 (m.caps c O3) (k.2 j c v I G))⟩,λi o hi=>m.here i (A9 hi).1⟩
 ·obtain⟨K,y⟩:=A9 hi;exact l.thawed (ok:=(ids.contains ·)) y (by simpa using K) L
 ·obtain⟨K,y,e3⟩:=m.old i b N;obtain⟨x,T,hr⟩:=l.heap.rep i b y;grind[D5,Jb]
theorem Ul(h:Rel M Z w0 ρ st a w)(hc:HbOk st cs (H ys) (H []) fz ids nw){dst:Option Nat}(hd: ∀d,dst=some d->d<a.tmps.size)(hcs:RepL (RepC ρ w Z) cs cv){R' D':Addr->Prop}(hJ:(Ht f cs ys H cv).J [] R' D' w')
  (L:Fr (Gm ids nw fz ρ) w w') (hR': ∀l,R' l->Gm ids nw fz ρ l\/w.heap.size<=l.block) (hD': ∀l,D' l->ET ids nw fz ρ Z w l\/ ¬Ar (AJ fz ρ) Z l\/w.heap.size<=l.block):
  ∃ρ',Rel M Z w0 ρ' (st.backX dst ids nw fz cs (H [])) (a.put dst (.tuple #[])) w':=by
 have P:=Rel.purgesF nw (h.freeze fz);generalize hρ:AJ nw (AJ fz ρ)=E at P;have hid: ∀i∈ids,E i=ρ i:=λi hi=>by rw[<-hρ];exact(Fi λe=>hc.free i e hi).trans (Fi (hc.frz i hi))
 have hnw: ∀i∈nw,E i=none:=λi hi=>by rw[<-hρ];simp[AJ,ersd,hi]
 have hsub1: ∀l,Ar E Z l->Ar (AJ fz ρ) Z l:=λl h=>by rw[<-hρ]at h;exact CD h
 simp only[Gm,ET,hρ]at L hR' hD';obtain⟨_,hDlt,W,rfl,hcD,F,hcs',hlk⟩:=hJ;have hcid: ∀i o,W i=some o->i∈ids\/i∈nw:=λi o hi=>by
  cases Q:lk i (H [])with
  |none=>grind
  |some b=>exact hc.new i b Q
 let K:AE:=λi=>if i∈ids\/i∈nw then W i else E i
 have e3c: ∀i o,W i=some o->K i=some o:=O3;have e3n: ∀i,i∉ids->i∉nw->K i=E i:=O3;have e3: ∀i o,K i=some o->W i=some o\/(i∉ids/\i∉nw/\E i=some o):=O3;have z: ∀l,Cells (Bj ids E) l-> ∃i o,i∈ids/\E i=some o/\o.has l:=λl ⟨i,o,hi,p⟩=>⟨i,o,(A9 hi).1,(A9 hi).2,p⟩
 have hk:Keep w w' (Ar E Z) (Ar K Z):=λl u hn hu=>by
  refine⟨L.cell l u (λm=> ?_) hu,?_⟩
  ·obtain⟨i,o,_,hi,p⟩:=z l m;exact hn (.inr ⟨i,o,hi,p⟩)
  rintro (hz|⟨i,o,hi,p⟩)
  ·exact hn (.inl hz)
  ·rcases e3 i o hi with hi|⟨_,_,hi⟩
   ·rcases hR' l ⟨i,o,hi,p⟩with m|hs
    ·obtain⟨j,oj,_,hj,hoj⟩:=z l m;exact hn (.inr O3)
    grind[aD]
   ·exact hn (.inr ⟨i,o,hi,p⟩)
 have hcs2:RepL (RepC E w Z) cs cv:=⟨hcs.1,λj c v hx T=>(hcs.2 j c v hx T).keep (aH λl h=>CD (hsub1 l h)) λi hi=>hid i (hc.caps c O3 i hi)⟩
 have hturn:Cf E K w w' Z (FA ids cs):=λc v m=>by
  cases c with
  |d x=>exact RepD.keep hk m
  |nl=>exact m
  |bad=>exact m
  |sl i off n=>
   simp only[C.on,FA];split
   ·exact RepC.one m
   ·rename_i hi;have hi:i∉ids:=by simpa using hi
    exact RepC.keep hk (λk hk'=>by
     cases hk';obtain⟨o,p,_⟩:=m;grind) m
  |mp q i=>
   simp only[C.on,FA];split
   ·exact RepC.one m
   ·rename_i hi;have hi:i∉ids:=by simpa using hi
    exact RepC.keep hk (λk hk'=>by
     cases hk';obtain⟨o,p,_⟩:=m;grind) m
  |ptr i off=>
   simp only[C.on,FA];split
   ·rename_i hi;have hi:i∈ids:=by simpa using hi
    split
    ·rename_i hany;rw[List.any_eq_true]at hany;obtain⟨e,he,hp⟩:=hany;cases e with
     |ptr j off'=>
      have:j=i:=by simpa using hp
      subst this;obtain⟨k,hk1,hk2⟩:=List.getElem_of_mem he;have hkv:k<cv.length:=by rw[<-hcs.1];exact hk1
      obtain⟨o,p,hn,T⟩:=hcs2.2 k _ cv[k] (by rw[AD hk1,hk2]) O1;obtain⟨X,G,hn',hv'⟩:=hcs'.2 k _ cv[k] (by rw[AD hk1,hk2]) O1;obtain⟨o2,ho2,S,hv2⟩:=m;obtain rfl:o2=o:=O3;rw[T]at hv';simp only[Value.pointer.injEq,Option.some.injEq,Own.at,Addr.mk.injEq]at hv';refine⟨X,e3c _ _ G,hn',?_⟩;grind
     |_=>simp at hp
    ·exact RepC.one m
   ·rename_i hi;have hi:i∉ids:=by simpa using hi
    exact RepC.keep hk (λk hk'=>by
     cases hk';obtain⟨o,p,_⟩:=m;grind) m
 have same: ∀i o,i∉ids->E i=some o->o.gone=false-> ∀j,j<o.room*o.sz->w'.cell? (o.at j)=w.cell? (o.at j)/\w'.frozen? (o.at j)=w.frozen? (o.at j):=λi o hni hi hg j hj=>by
  obtain⟨⟨v,T⟩,_⟩:=P.heap.owns.cells i o hi hg j hj;suffices hnm: ∀m,False from⟨by rw[T];exact L.cell _ v hnm T,L.frz _ hnm (aD w _ T)⟩
  intro m;obtain⟨Y,X,I,G,hh⟩:=z _ m;exact P.heap.owns.apart i Y o X hi G O3 _ (aI hg hj) hh
 have hobj: ∀i o,i∉ids->E i=some o->o.mp-> ∀y:Obj,w.heap[o.g]? =some y->w'.heap[o.g]? =some y:=λi o hni hi hm y hy=>G0 L (λl e m=>by
  obtain⟨Y,X,I,G,hh⟩:=z _ m;exact P.heap.owns.apart i Y o X hi G O3 _ (ER hm e) hh) hy
 have hoff: ∀l,Ar K Z l->Ar W (λl=>l.block<w'.heap.size/\ ¬D' l) l:=λl p=>by
  rcases p with hz|⟨i,o,hi,p⟩
  ·have hlt:l.block<w.heap.size:=aG (h.out l hz) h.fr.size;refine .inl ⟨aG hlt L.size,λhd=> ?_⟩;rcases hD' l hd with h1|h1|h1
   ·exact h1.2 (.inl hz)
   ·exact h1 (.inl hz)
   ·omega
  ·rcases e3 i o hi with hi|⟨N,S,hi⟩
   ·exact .inr ⟨i,o,hi,p⟩
   ·have hlt:=EG P hi p;refine .inl ⟨aG hlt L.size,λhd=> ?_⟩;rcases hD' l hd with h1|h1|h1
    ·exact h1.2 (.inr ⟨i,o,(Fi N).trans hi,p⟩)
    ·exact h1 (hsub1 l (.inr ⟨i,o,hi,p⟩))
    ·omega
 have hcC: ∀(c:C) (v:Value),RepC W w' (λl=>l.block<w'.heap.size/\ ¬D' l) c v->RepC K w' Z c v:=λc v m=>by
  cases c with
  |d x=>exact RepD.keep (aH hoff) m
  |nl=>exact m
  |bad=>exact m
  |sl i off n=>obtain⟨o,p,r⟩:=m;exact⟨o,e3c i o p,r⟩
  |ptr i off=>obtain⟨o,p,r⟩:=m;exact⟨o,e3c i o p,r⟩
  |mp q i=>obtain⟨o,p,r⟩:=m;exact⟨o,e3c i o p,r⟩
 have hrel:Rel M Z w0 K { (purges nw (st.freeze fz)).on (FA ids cs)with h:=H []++Ds (ids.contains ·) ((purges nw (st.freeze fz)).on (FA ids cs)).h } a w':=
  {fr:=h.fr.into L λl m=>by
    obtain⟨i,o,_,hi,p⟩:=z l m;exact P.mine i o l hi p
   heap:=⟨⟨λi o hi hg j hj=>by
     rcases e3 i o hi with hi|⟨N,S,hi⟩
     ·exact F.owns.cells i o hi hg j hj
     ·rw[(same i o N hi hg j hj).1,(same i o N hi hg j hj).2];exact P.heap.owns.cells i o hi hg j hj,
    λi Y o X hi I hne l p G=>by
     have mixed: ∀{i Y o X},W i=some o->Y∉ids->E Y=some X->o.has l->X.has l->False:=λ{i Y o X} hi hn I p G=>by
      rcases hR' l ⟨i,o,hi,p⟩with m|hs
      ·obtain⟨j,oj,hj,hj2,hoj⟩:=z l m;exact P.heap.owns.apart j Y oj X hj2 I O3 l hoj G
      ·have:=EG P I G;omega
     rcases e3 i o hi with hi|⟨N,S,hi⟩<;>rcases e3 Y X I with I|⟨hn1',hn2',I⟩
     ·exact F.owns.apart i Y o X hi I hne l p G
     ·grind
     ·grind
     ·exact P.heap.owns.apart i Y o X hi I hne l p G,
    λi o hi=>by
     rcases e3 i o hi with hi|⟨N,S,hi⟩
     ·exact F.owns.lim i o hi
     ·exact P.heap.owns.lim i o hi⟩,λi b Q=>by
    simp only at Q;rw[HQ]at Q;cases hl:lk i (H [])with
    |some b2=>
     rw[hl]at Q;have Q:b2=b:=Bi Q;subst Q;obtain⟨o,p,m⟩:=F.rep i _ hl;refine⟨o,e3c i o p,?_⟩;cases b2 with
     |row sz cs app=>obtain⟨q1,q2,q3,q4,q5⟩:=m;exact⟨q1,q2,q3,q4,λj x hx=>by obtain⟨v,T,hd⟩:=q5 j x hx;exact⟨v,T,hd.keep (aH hoff)⟩⟩
     |box cs=>obtain⟨q1,q2,q3,q4⟩:=m;exact⟨q1,q2,q3,O3⟩
     |fbox f cs=>obtain⟨q1,q2,q3,v,T,vs,hvs,hl,hd⟩:=m;exact⟨q1,q2,q3,v,T,vs,hvs,hl,O3⟩
     |mp x=>exact m
     |gh cs=>obtain⟨q1,q2,q3⟩:=m;exact⟨q1,q2,O3⟩
    |none=>
     rw[hl]at Q;simp only[Option.none_or]at Q;rw[FZ]at Q;split at Q
     ·cases Q
     ·rename_i e;have e:i∉ids:=by simpa using e
      simp only[St.on]at Q;rw[BN,jze]at Q;obtain⟨b0,hb0,rfl⟩:=Q;obtain⟨o,p,m⟩:=P.heap.rep i b0 hb0;have S:i∉nw:=O3;exact⟨o,O3,m.turn hturn hk O3 O3⟩⟩
   mine:=λi o l hi p=>by
    rcases e3 i o hi with hi|⟨N,S,hi⟩
    ·rcases hR' l ⟨i,o,hi,p⟩with m|hs
     ·obtain⟨j,oj,_,hj2,hoj⟩:=z l m;exact P.mine j oj l hj2 hoj
     ·exact .inr (aJ h.fr.size hs)
    ·exact P.mine i o l hi p
   out:=h.out
   mz:=h.mz
   tmps:=λt v T=>by
    simp only[St.on]at T;rw[BN,jze]at T;obtain⟨v0,hv0,rfl⟩:=T;exact(P.tmps t v0 hv0).turn hturn
   defers:=h.defers
   mps:=λi o hi hm=>by
    rcases e3 i o hi with hi|⟨N,S,hi⟩
    ·exact F.mps hlk i o hi hm
    ·obtain⟨y,hy,hn⟩:=P.mps i o hi hm;grind }
 exact⟨K,hrel.put (v:= .tup []) hd ⟨[],rfl,rfl,O1⟩⟩
end
theorem jcc{x c:C}(h:C.same x c=true):x=c:=by
 cases x<;>cases c<;>simp only[C.same,AR,Nat.beq_eq,beq_iff_eq,Bool.false_eq_true]at h
 ·grind
 ·grind
 grind
theorem Ra(c:C): ∀b a:List C,GM c b a= .bad\/ ∃j:Nat,b[j]? =some c/\a[j]? =some (GM c b a)
 |[],_=> .inl rfl
 |_::_,[]=> .inl rfl
 |x::r,y::s=>by
  unfold GM;split
  ·rename_i h;exact .inr ⟨0,by simp[jcc h],O1⟩
  ·rcases Ra c r s with h|⟨j,e,f⟩
   ·exact .inl h
   ·exact .inr ⟨j+1,by simpa using e,by simpa using f⟩
theorem Vw(h:Rel M Z w0 ρ st a w){gs L:List C}{h1 h2:List (Nat×Blk)}{ids nw:List Nat}(hc:HOk st h1 h2 ids nw){dst:Option Nat}(hd: ∀d,dst=some d->d<a.tmps.size)
   {z:AE} {x:Value} {v:V} (T:Fr (Cells (Bj ids ρ)) w w') (F:Heap z w' (Ar (AJ ids ρ) Z) h2) (hlk: ∀i o,z i=some o->(lk i h2).isSome=true) (hR': ∀l,Cells z l->Cells (Bj ids ρ) l\/w.heap.size<=l.block)
  (hgs: ∀(j:Nat) (c c':C),gs[j]? =some c->L[j]? =some c'-> ∀y,RepC (Bj ids ρ) w (Ar (AJ ids ρ) Z) c y->RepC z w' (Ar (AJ ids ρ) Z) c' y) (I:RepV z w' (Ar (AJ ids ρ) Z) v x) (hnt: ∀x r,v≠ .tr x r):
  ∃ρ',Rel M Z w0 ρ' (st.backH dst ids nw gs L h2 v) (a.put dst x) w':=by
 have hcid: ∀i o,z i=some o->i∈ids\/i∈nw:=λi o hi=>by
  cases K:lk i h2 with
  |none=>grind
  |some b=>exact hc.new i b K
 let E:AE:=λi=>if i∈ids\/i∈nw then z i else ρ i
 have e3c: ∀i o,z i=some o->E i=some o:=O3;have e3n: ∀i,i∉ids->i∉nw->E i=ρ i:=O3;have e3: ∀i o,E i=some o->z i=some o\/(i∉ids/\i∉nw/\ρ i=some o):=O3;have m: ∀l,Cells (Bj ids ρ) l-> ∃i o,i∈ids/\ρ i=some o/\o.has l:=λl ⟨i,o,hi,p⟩=>⟨i,o,(A9 hi).1,(A9 hi).2,p⟩
 have hk:Keep w w' (Ar ρ Z) (Ar E Z):=λl u hn hu=>by
  refine⟨T.cell l u (λk=> ?_) hu,?_⟩
  ·obtain⟨i,o,_,hi,p⟩:=m l k;exact hn (.inr ⟨i,o,hi,p⟩)
  rintro (hz|⟨i,o,hi,p⟩)
  ·exact hn (.inl hz)
  ·rcases e3 i o hi with hi|⟨_,_,hi⟩
   ·rcases hR' l ⟨i,o,hi,p⟩with k|hs
    ·obtain⟨j,oj,_,hj,hoj⟩:=m l k;exact hn (.inr O3)
    ·have:=aD w l hu;omega
   ·exact hn (.inr ⟨i,o,hi,p⟩)
 have same: ∀i o,i∉ids->ρ i=some o->o.gone=false-> ∀j,j<o.room*o.sz->w'.cell? (o.at j)=w.cell? (o.at j)/\w'.frozen? (o.at j)=w.frozen? (o.at j):=λi o hni hi hg j hj=>by
  obtain⟨⟨v,I⟩,_⟩:=h.heap.owns.cells i o hi hg j hj;suffices hnm: ∀k,False from⟨by rw[I];exact T.cell _ v hnm I,T.frz _ hnm (aD w _ I)⟩
  intro k;obtain⟨Q,S,G,H,hh⟩:=m _ k;exact h.heap.owns.apart i Q o S hi H O3 _ (aI hg hj) hh
 have hobj: ∀i o,i∉ids->ρ i=some o->o.mp-> ∀y:Obj,w.heap[o.g]? =some y->w'.heap[o.g]? =some y:=λi o hni hi W y hy=>G0 T (λl e k=>by
  obtain⟨Q,S,G,H,hh⟩:=m _ k;exact h.heap.owns.apart i Q o S hi H O3 _ (ER W e) hh) hy
 have hoff: ∀l,Ar E Z l->Ar z (Ar (AJ ids ρ) Z) l:=λl p=>by
  rcases p with hz|⟨i,o,hi,p⟩
  ·exact .inl (.inl hz)
  ·rcases e3 i o hi with hi|⟨J,X,hi⟩
   ·exact .inr ⟨i,o,hi,p⟩
   ·exact .inl (.inr ⟨i,o,(Fi J).trans hi,p⟩)
 have hcC: ∀(c:C) (v:Value),RepC z w' (Ar (AJ ids ρ) Z) c v->RepC E w' Z c v:=λc v k=>by
  cases c with
  |d x=>exact RepD.keep (aH hoff) k
  |nl=>exact k
  |bad=>exact k
  |sl i off n=>obtain⟨o,p,r⟩:=k;exact⟨o,e3c i o p,r⟩
  |ptr i off=>obtain⟨o,p,r⟩:=k;exact⟨o,e3c i o p,r⟩
  |mp q i=>obtain⟨o,p,r⟩:=k;exact⟨o,e3c i o p,r⟩
 have Y: ∀(i:Nat) (c:C) (v:Value),c.id? =some i->RepC ρ w Z c v->ids.contains i=true->RepC E w' Z (GM c gs L) v:=λi c v hid k W=>by
  rcases Ra c gs L with e|⟨j,h1,h2⟩
  ·rw[e];exact k.one
  ·exact hcC _ _ (hgs j _ _ h1 h2 v (by grind[E7]))
 have hturn:Cf ρ E w w' Z (Fs ids nw gs L):=λc v k=>by
  have old: ∀i,i∉ids->i∉nw->c.id? =some i->RepC E w' Z c v:=(by grind[RepC.keep])
  cases c with
  |d x=>exact RepD.keep hk k
  |nl=>exact k
  |bad=>exact k
  |sl i off n=>
   simp only[C.on,Fs];split
   ·rename_i W;exact Y i _ v rfl k W
   ·split
    ·exact RepC.one k
    ·rename_i N P;exact old i (by simpa using N) (by simpa using P) rfl
  |mp q i=>
   simp only[C.on,Fs];split
   ·rename_i W;exact Y i _ v rfl k W
   ·split
    ·exact RepC.one k
    ·rename_i N P;exact old i (by simpa using N) (by simpa using P) rfl
  |ptr i off=>
   simp only[C.on,Fs];split
   ·rename_i W;exact Y i _ v rfl k W
   ·split
    ·exact RepC.one k
    ·rename_i N P;exact old i (by simpa using N) (by simpa using P) rfl
 have hcU: ∀(u:U) (v:Value),RepU z w' (Ar (AJ ids ρ) Z) u v->RepU E w' Z u v:=λu v hu=>by
  cases u with
  |c x=>exact hcC x v hu
  |agg cs=>obtain⟨vs,I,hl,k⟩:=hu;exact⟨vs,I,hl,O3⟩
  |clo f cs=>obtain⟨vs,I,hl,k⟩:=hu;exact⟨vs,I,hl,O3⟩
 have hrel:Rel M Z w0 E { st.on (Fs ids nw gs L)with h:=h2++Ds (λi=>ids.contains i||nw.contains i) (st.on (Fs ids nw gs L)).h } a w':=
  {fr:=h.fr.into T λl k=>by
    obtain⟨i,o,_,hi,p⟩:=m l k;exact h.mine i o l hi p
   heap:=⟨⟨λi o hi hg j hj=>by
     rcases e3 i o hi with hi|⟨J,X,hi⟩
     ·exact F.owns.cells i o hi hg j hj
     ·rw[(same i o J hi hg j hj).1,(same i o J hi hg j hj).2];exact h.heap.owns.cells i o hi hg j hj,
    λi Q o S hi G hne l p H=>by
     have mixed: ∀{i Q o S},z i=some o->Q∉ids->ρ Q=some S->o.has l->S.has l->False:=λ{i Q o S} hi hn G p H=>by
      rcases hR' l ⟨i,o,hi,p⟩with k|hs
      ·obtain⟨j,oj,hj,hj2,hoj⟩:=m l k;exact h.heap.owns.apart j Q oj S hj2 G O3 l hoj H
      ·have:=EG h G H;omega
     rcases e3 i o hi with hi|⟨J,X,hi⟩<;>rcases e3 Q S G with G|⟨hn1',hn2',G⟩
     ·exact F.owns.apart i Q o S hi G hne l p H
     ·grind
     ·grind
     ·exact h.heap.owns.apart i Q o S hi G hne l p H,
    λi o hi=>by
     rcases e3 i o hi with hi|⟨J,X,hi⟩
     ·exact F.owns.lim i o hi
     ·exact h.heap.owns.lim i o hi⟩,λi b K=>by
    simp only at K;rw[HQ]at K;cases hl:lk i h2 with
    |some b2=>
     rw[hl]at K;have K:b2=b:=Bi K;subst K;obtain⟨o,p,k⟩:=F.rep i _ hl;refine⟨o,e3c i o p,?_⟩;cases b2 with
     |row sz cs app=>obtain⟨N,P,q3,q4,q5⟩:=k;exact⟨N,P,q3,q4,λj x hx=>by obtain⟨v,I,hd⟩:=q5 j x hx;exact⟨v,I,hd.keep (aH hoff)⟩⟩
     |box cs=>obtain⟨N,P,q3,q4⟩:=k;exact⟨N,P,q3,O3⟩
     |fbox f cs=>obtain⟨N,P,q3,v,I,hd⟩:=k;exact⟨N,P,q3,v,I,O3⟩
     |mp x=>exact k
     |gh cs=>obtain⟨N,P,q3⟩:=k;exact⟨N,P,O3⟩
    |none=>
     rw[hl]at K;simp only[Option.none_or]at K;rw[FZ]at K;split at K
     ·cases K
     ·rename_i e;have e1:i∉ids:=O3;have e2:i∉nw:=O3;simp only[St.on]at K;rw[BN,jze]at K;obtain⟨b0,hb0,rfl⟩:=K;obtain⟨o,p,k⟩:=h.heap.rep i b0 hb0;exact⟨o,O3,k.turn hturn hk O3 O3⟩⟩
   mine:=λi o l hi p=>by
    rcases e3 i o hi with hi|⟨J,X,hi⟩
    ·rcases hR' l ⟨i,o,hi,p⟩with k|hs
     ·obtain⟨j,oj,_,hj2,hoj⟩:=m l k;exact h.mine j oj l hj2 hoj
     ·exact .inr (aJ h.fr.size hs)
    ·exact h.mine i o l hi p
   out:=h.out
   mz:=h.mz
   tmps:=λt v I=>by
    simp only[St.on]at I;rw[BN,jze]at I;obtain⟨v0,hv0,rfl⟩:=I;exact(h.tmps t v0 hv0).turn hturn
   defers:=h.defers
   mps:=λi o hi W=>by
    rcases e3 i o hi with hi|⟨J,X,hi⟩
    ·exact F.mps hlk i o hi W
    ·obtain⟨y,hy,hn⟩:=h.mps i o hi W;grind }
 refine⟨E,hrel.put hd ?_⟩;cases v with
 |u u=>exact hcU u x I
 |tup us=>obtain⟨vs,e,hl,k⟩:=I;exact⟨vs,e,hl,O3⟩
 |tr y r=>grind
theorem jeJ(h:Rel M Z w0 ρ st a w){k d sz m:Nat}{cs':List D}{Q:AE}{v:Value}(hkn:(ρ k).isSome=true)(hd:d<a.tmps.size)
  (N:Fr (Cells (Bj [k] ρ)) w w') (G:Heap Q w' (Ar (AJ [k] ρ) Z) [(k,.row sz cs' true)]) (hone: ∀i o,Q i=some o->i=k) (S: ∀f,Cells Q f->Cells (Bj [k] ρ) f\/w.heap.size<=f.block)
  (hv:RepC Q w' (Ar (AJ [k] ρ) Z) (.sl k 0 m) v): ∃ρ'',Rel M Z w0 ρ'' (((st.drop k).new d (.row sz cs' true)).put (some d) (vC (.sl d 0 m))) (a.put (some d) v) w':=by
 obtain⟨K,H⟩:=Option.isSome_iff_exists.1 hkn;obtain⟨o2,Y,hv2⟩:=hv;let F:AE:=λi=>if i=d then some o2 else if i=k then some { K with gone:=true } else ρ i
 have e3: ∀i o,F i=some o->(i=d/\o=o2)\/(i≠d/\i=k/\o={ K with gone:=true })\/(i≠d/\i≠k/\ρ i=some o):=O3;have ngone: ∀f,¬Own.has { K with gone:=true } f:=λf hh=>by cases hh.1
 have L: ∀f,Cells (Bj [k] ρ) f->K.has f:=λf ⟨i,o,hi,p⟩=>by
  obtain⟨h1,h2⟩:=A9 hi;grind
 have h2c: ∀f,o2.has f->K.has f\/w.heap.size<=f.block:=λf p=>(S f ⟨k,o2,Y,p⟩).imp (L f) id;have hk:Keep w w' (Ar ρ Z) (Ar F Z):=λf u hn hu=>by
  refine⟨N.cell f u (λz=>hn (.inr O3)) hu,?_⟩;rintro (hz|⟨i,o,hi,p⟩)
  ·exact hn (.inl hz)
  ·rcases e3 i o hi with⟨_,rfl⟩|⟨_,_,rfl⟩|⟨_,_,hi⟩
   ·rcases h2c f p with h1|h1
    ·exact hn (.inr O3)
    ·have:=aD w f hu;omega
   ·exact ngone f p
   ·exact hn (.inr ⟨i,o,hi,p⟩)
 have P:Cf ρ F w w' Z (Bm d):=λc v z=>by
  have I: ∀i,i≠d-> ∀o,ρ i=some o-> ∃J,F i=some J/\J={ o with gone:=J.gone }:=O3;cases c with
  |d x=>exact RepD.keep hk z
  |nl=>exact z
  |bad=>exact z
  |sl i off n=>
   simp only[C.on,Bm];split
   ·exact RepC.one z
   ·rename_i hi;obtain⟨o,p,r⟩:=z;obtain⟨J,l,he⟩:=I i hi o p;rw[he]at l;exact⟨_,l,r⟩
  |ptr i off=>
   simp only[C.on,Bm];split
   ·exact RepC.one z
   ·rename_i hi;obtain⟨o,p,r⟩:=z;obtain⟨J,l,he⟩:=I i hi o p;rw[he]at l;exact⟨_,l,r⟩
  |mp q i=>
   simp only[C.on,Bm];split
   ·exact RepC.one z
   ·rename_i hi;obtain⟨o,p,r⟩:=z;obtain⟨J,l,he⟩:=I i hi o p;rw[he]at l;exact⟨_,l,r⟩
 have hobj: ∀i o,i≠k->ρ i=some o->o.mp-> ∀y:Obj,w.heap[o.g]? =some y->w'.heap[o.g]? =some y:=λi o X hi hm y hy=>G0 N (λf e z=>h.heap.owns.apart i k o K hi H X _ (ER hm e) (L _ z)) hy;have same: ∀i o,i≠k->ρ i=some o->o.gone=false-> ∀j,j<o.room*o.sz->w'.cell? (o.at j)=w.cell? (o.at j)/\w'.frozen? (o.at j)=w.frozen? (o.at j):=λi o X hi T j hj=>by
  obtain⟨⟨v,hv⟩,_⟩:=h.heap.owns.cells i o hi T j hj;refine⟨?_,N.frz _ (λz=>h.heap.owns.apart i k o K hi H X _ (aI T hj) (L _ z)) (aD w _ hv)⟩;rw[hv];exact N.cell _ v (λz=>h.heap.owns.apart i k o K hi H X _ (aI T hj) (L _ z)) hv
 have hout: ∀f,Ar F Z f->Ar Q (Ar (AJ [k] ρ) Z) f:=λf p=>by
  rcases p with hz|⟨i,o,hi,p⟩
  ·exact .inl (.inl hz)
  ·rcases e3 i o hi with⟨_,rfl⟩|⟨_,_,rfl⟩|⟨_,E,hi⟩
   ·exact .inr ⟨k,o,Y,p⟩
   ·grind
   ·exact .inl (.inr ⟨i,o,(by grind[Fi]),p⟩)
 obtain⟨o2',ho2',q1,q2,q3,q4,q5⟩:=G.rep k (.row sz cs' true) (Bt _ _ _);obtain rfl:o2'=o2:=O3;have hrel:Rel M Z w0 F ((st.drop k).new d (.row sz cs' true)) a w':=
  {fr:=h.fr.into N λf z=>h.mine k K f H (L f z)
   heap:=⟨⟨λi o hi T j hj=>by
     rcases e3 i o hi with⟨_,rfl⟩|⟨_,_,rfl⟩|⟨_,E,hi⟩
     ·exact G.owns.cells k o Y T j hj
     ·cases T
     ·rw[(same i o E hi T j hj).1,(same i o E hi T j hj).2];exact h.heap.owns.cells i o hi T j hj,
    λi i' o J hi W E f p l=>by
     have mixed: ∀{i' J},i'≠k->ρ i'=some J->o2'.has f->J.has f->False:=λ{i' J} hn W p l=>by
      rcases h2c f p with h1|h1
      ·exact h.heap.owns.apart k i' K J H W O f h1 l
      ·have:=EG h W l;omega
     rcases e3 i o hi with⟨h1,h2⟩|⟨_,_,h2⟩|⟨_,hn,hq⟩<;>rcases e3 i' J W with⟨h1',h2'⟩|⟨_,_,h2'⟩|⟨_,hn',hq'⟩
     ·omega
     ·grind
     ·grind
     ·grind
     ·omega
     ·grind
     ·grind
     ·grind
     ·exact h.heap.owns.apart i i' o J hq hq' E f p l,
    λi o hi=>by
     rcases e3 i o hi with⟨_,rfl⟩|⟨_,_,rfl⟩|⟨_,E,hi⟩
     ·exact G.owns.lim k o Y
     ·exact h.heap.owns.lim k K H
     ·exact h.heap.owns.lim i o hi⟩,λi b hb=>by
    by_cases e:i=d
    ·subst e;simp only[St.new,St.blk]at hb;rw[Bt]at hb;cases hb;refine⟨o2',by simp[F],q1,q2,q3,q4,λj x hx=> ?_⟩;obtain⟨u,hu,hdd⟩:=q5 j x hx;exact⟨u,hu,hdd.keep (aH hout)⟩
    ·simp only[St.new,St.blk,St.purge]at hb;rw[BD e,BR e,BR e]at hb;simp only[St.on,St.drop]at hb;rw[BN,jze]at hb;obtain⟨b0,hb0,rfl⟩:=hb;obtain⟨E,hb0⟩:=Hk hb0;obtain⟨o,p,z⟩:=h.heap.rep i b0 hb0;exact⟨o,O3,z.turn P hk O3 O3⟩⟩
   mine:=λi o f hi p=>by
    rcases e3 i o hi with⟨_,rfl⟩|⟨_,_,rfl⟩|⟨_,E,hi⟩
    ·rcases h2c f p with h1|h1
     ·exact h.mine k K f H h1
     ·exact .inr (aJ h.fr.size h1)
    ·grind
    ·exact h.mine i o f hi p
   out:=h.out
   mz:=h.mz
   tmps:=λt v hv=>by
    simp only[St.new,St.blk,St.purge,St.on,St.drop]at hv;rw[BN,jze]at hv;obtain⟨v0,hv0,rfl⟩:=hv;exact(h.tmps t v0 hv0).turn P
   defers:=h.defers
   mps:=λi o hi hm=>by
    rcases e3 i o hi with⟨_,rfl⟩|⟨_,_,rfl⟩|⟨_,E,hi⟩
    ·obtain⟨h1,h2⟩:=hm;grind
    ·cases hm.2
    ·obtain⟨y,hy,hn⟩:=h.mps i o hi hm;grind }
 exact⟨F,hrel.put (dst:=some d) (v:=vC (.sl d 0 m)) O3 ⟨o2',by simp[F],hv2⟩⟩
end
end Go.Va
namespace Go.Va
open _root_.List renaming append_nil → aD, eq_nil_of_length_eq_zero → aG, length_append → aL, length_cons → aN, length_nil → aO
open _root_.Array renaming getElem?_eq_getElem → aH, getD → aS
open TrLe renaming put → aI, new → aJ, drop → aM, freeze → aP, backX → aR, step → aT
open Go.RowKit
variable [DrC]
variable [Gv]
variable{Q:Exit->Act->World->Prop}{o:Oper}{K:St->Prop}
section
variable {P:Program} {T:AH} {X:Cx} {M Z:Addr->Prop} {w0 w:World} {ρ:AE} {st:St} {a:Act}
theorem Kb(h:Rel M Z w0 ρ st a w){g:FuncId}{k n sz m d:Nat}{cs cs':List D}{S:List A}{v0:Value}{Q:List Value}(K:lk k st.h=some (.row sz cs true))(F:RepL (A.rep w (Ar ρ Z)) S Q)
  (N:RepC ρ w Z (.sl k 0 n) v0) (hd:d<a.tmps.size) (G:CallsA P g sz n cs S m cs'):
  Calls P g (v0::Q).toArray w λe w'=> ∃v p,e= .returned v/\Rel M Z w0 p (((st.drop k).new d (.row sz cs' true)).put (some d) (vC (.sl d 0 m))) (a.put (some d) v) w':=by
 obtain⟨hfn,q⟩:=G;obtain⟨ok,L,hb⟩:=h.heap.rep k _ K;have r:Heap (Bj [k] ρ) w (Ar (AJ [k] ρ) Z) [(k,.row sz cs true)]:=⟨⟨λj E t=>h.heap.owns.cells j E (A9 t).2,λj j' o1 o2 t J=>h.heap.owns.apart j j' o1 o2 (A9 t).2 (A9 J).2,λj E t=>h.heap.owns.lim j E (A9 t).2⟩,λj b l=>by
  by_cases e:j=k
  ·subst e;rw[Bt]at l;cases l;exact⟨ok,(by grind[D5]),Jb (b:= .row sz cs true) trivial hb⟩
  ·rw[BD e]at l;cases l⟩
 have hc:=q w (Ar (AJ [k] ρ) Z) (Bj [k] ρ) k v0 Q (Hs h (λW=>CD) (by grind[TW])) r (λW ⟨j,E,t,hh⟩=>by
  obtain⟨X,Y⟩:=A9 t;exact h.thawed (ok:=([k].contains ·)) Y (by simpa using X) hh) (λi o hi=>by simpa using (A9 hi).1)
  (E7 (ids:=[k]) (c:= .sl k 0 n) (λi hi=>by cases hi;simp) N) (F.mono λx v hx=>hx.keep (by grind[Keep.mono,TW]))
 refine hc.mono λe w' y=> ?_;obtain⟨v,rfl,ρ',H,I,z,f,hv⟩:=y;obtain⟨p,T⟩:=jeJ h (by rw[L];rfl) hd H I z f hv;grind
theorem Sb(hT:Dk P T)(hY: ∀Y,X.Y=some Y->YlOk P Y)(hL:Lk X M Z w0 st a)(h:Rel M Z w0 ρ st a w)(hn:a.tmps.size=X.n)(hd: ∀d,o.dst=some d->Fg X d)(hw:wpOp P T o st K):o.wp P a w (BX X K) Q:=by
 have hds: ∀d,o.dst=some d->d<a.tmps.size:=λd h=>by rw[hn];exact(hd d h).1
 have hdy: ∀d,o.dst=some d->d<YS:=λd h=>(hd d h).2.1;unfold wpOp at hw;split at hw
 ·rename_i f args ts ho;obtain⟨u,hu,hw⟩:=hw;have enter: ∀{g:FuncId} {vs:List Value},CY P g->a.eval f= .func (.func g) #[] vs.toArray->(execOp a.eval o).run P w= .ok (.enter g (args.toList.map a.eval++vs).toArray) w:=λ{g vs} I hef=>by
   obtain⟨fn,I,hbody,hname⟩:=I;have e1:args.map a.eval++vs.toArray=(args.toList.map a.eval++vs).toArray:=O1;have hb: ¬fn.body=none:=O3;simp_all[execOp,resolve,Deferred.ofValue,invoke,callFunc,program,Sem.run]
  have hZc: ∀(ids:List Nat),ZOk w (Ar (AJ ids ρ) Z) (Ar (AJ ids ρ) Z):=λids=>Hs h (λF=>CD) λF=>CD;have hZr: ∀(ids:List Nat),ZOk w (Ar (AJ ids ρ) Z) (Ar (Bj ids ρ) (Ar (AJ ids ρ) Z)):=λids=>Hs h (λF=>CD) (by grind[TW]);have go: ∀{g:FuncId} {caps:List D} {us:List U} {vs vals:List Value},DM P o.dst st K g caps us->RepL (RepU ρ w Z) us vals->RepL (RepD w (Ar ρ Z)) caps vs->(∀{as:List A} {ids:List Nat},us.mapM (U.toA ids st.h)=some as->RepL (A.rep w (Ar (AJ ids ρ) Z)) as vals)->
    (∀g',g'=g->CY P g'->(execOp a.eval o).run P w= .ok (.enter g (vals++vs).toArray) w)->o.wp P a w (BX X K) Q:=by
   intro g caps us vs vals hw p hcaps hargs L;have argsY: ∀{as:List A},st.argsW (st.reachU us) us caps=some as->RepL (A.rep w (Ar (AJ (st.reachU us) ρ) Z)) as (vals++vs):=λ{as} z=>by
    simp only[St.argsW,jze]at z;obtain⟨as',has',rfl⟩:=z;exact(hargs has').append ⟨by simpa using hcaps.1,λj x v q hv=>by
     simp only[Bf,jze]at q;obtain⟨y,hy,rfl⟩:=q;exact(hcaps.2 j y v hy hv).keep (Keep.mono λ_=>CD)⟩
   rcases hw with⟨as,z,res,⟨I,E⟩,hK⟩|⟨ids,r,h1,h2,⟨I,hrows,E⟩,hin,hh1,hids,hK⟩|hw
   ·have hc:=E w _ (vals++vs) (hZc _) (argsY z);unfold Oper.wp;rw[L g rfl I];simp only[Oper.upon];refine hc.mono λe w' l=> ?_;obtain⟨v,rfl,hbel,hres⟩:=l;obtain⟨ρ',t⟩:=jhQ h hds hbel hres;exact⟨M,Z,w0,ρ',_,hL.put (TrLe.back hdy) hd,t,(CX _ _ _).trans hn,hK⟩
   ·have hheap:Heap (Bj ids ρ) w (Ar (AJ ids ρ) Z) h1:=⟨⟨λj oj hj=>h.heap.owns.cells j oj (A9 hj).2,λj j' o1 o2 hj hj'=>h.heap.owns.apart j j' o1 o2 (A9 hj).2 (A9 hj').2,λj oj hj=>h.heap.owns.lim j oj (A9 hj).2⟩,λj b hb=>by
     obtain⟨e1,e2,e3⟩:=hh1 j b hb;obtain⟨oj,hoj,hr⟩:=h.heap.rep j b e2;grind[D5,Jb]⟩
    have hus:RepL (RepU (Bj ids ρ) w (Ar (AJ ids ρ) Z)) (us++caps.map λd=> .c (.d d)) (vals++vs):=by
     refine RepL.append ⟨p.1,λj x v q hv=>OV O3 (p.2 j x v q hv)⟩ ⟨by simpa using hcaps.1,λj x v q hv=> ?_⟩;simp only[Bf,jze]at q;obtain⟨y,hy,rfl⟩:=q;exact repD_rhoR.2 (hcaps.2 j y v hy hv)
    have hc:=E w _ _ (vals++vs) (hZr ids) hheap (λF ⟨j,oj,hj,hh⟩=>by
     obtain⟨e1,e2⟩:=A9 hj;exact h.thawed (ok:=(ids.contains ·)) e2 (by simpa using e1) hh) (by grind[A9]) hus
    unfold Oper.wp;rw[L g rfl I];simp only[Oper.upon];refine hc.mono λe w' l=> ?_;obtain⟨v,rfl,S,hh',hres⟩:=l;exact⟨M,Z,w0,ρ,_,hL.put (TrLe.backW hdy) hd,jbs h hds hrows (λi hi o ho=>by
     obtain⟨b,hb⟩:=Option.isSome_iff_exists.1 (hids i hi);obtain⟨_,e2,e3⟩:=hh1 i b hb;obtain⟨oj,hoj,hr⟩:=h.heap.rep i b e2;obtain rfl:oj=o:=O3;exact hr.nomp λx e=>by subst e;exact e3) S hh' hres,(CX _ _ _).trans hn,hK⟩
   rcases hw with⟨x,ys,rest,as,hlk,z,⟨I,E⟩,hK⟩|hw
   ·obtain⟨Y,R,D,hX,rfl,hJ,hRZ,hR0,hDM,hD0,hD00⟩:=hL.y _ _ hlk;have N:=hY Y hX;have hJw:=N.stable _ R D w0 w M hJ O3 h.fr;have hc:=E Y rfl N w _ (vals++vs) rest R D hJw (hZc _) (λF hr=> .inl (hRZ F hr)) (argsY z);unfold Oper.wp;rw[L g rfl I];simp only[Oper.upon];refine hc.mono λe w' l=> ?_;obtain⟨rfl,R',D',hJ',S,hR',hD',hDD⟩:=l;grind[MX]
   rcases hw with⟨rfl,x,ys,rest,as,f',cl,zs,hlk,z,hg,hy,hK⟩|hw
   ·obtain⟨Y,R,D,hX,rfl,hJ,hRZ,hR0,hDM,hD0,hD00⟩:=hL.y _ _ hlk;have N:=hY Y hX;have hJw:=N.stable _ R D w0 w M hJ O3 h.fr;have hvs:vs=[]:=aG hcaps.1.symm;subst hvs;have W:=hargs z;obtain⟨v1,v2,rfl,hv1,hv2⟩: ∃v1 v2,vals=v1++[v2]/\RepL (A.rep w (Ar (AJ (st.reachU us) ρ) Z)) as v1/\RepD w (Ar (AJ (st.reachU us) ρ) Z) (.fn f' cl) v2:=by
     have hl:=W.1;simp only[aL,aN,aO]at hl;have hlt:as.length<vals.length:=O;refine⟨vals.take as.length,vals[as.length],?_,⟨by simp;omega,λj x v q hv=>W.2 j x v ?_ ?_⟩,?_⟩
     ·simp_all
     ·grind
     ·grind
     ·exact W.2 as.length (.c (.fn f' cl)) _ O1 O1
    cases hv2 with
    |fn _ _ clv hcl hclv=>
     have hokE:=Ua N f' cl clv zs rest D;obtain⟨I,E⟩:=hg (.func (.func f') #[] clv.toArray);have hsub:=N.sub _ R D w hJw;have hJE:(JX P Y f' cl clv zs rest D).J ys R (λF=>D F\/(F.block<w.heap.size/\ ¬Ar (AJ (st.reachU us) ρ) Z F)) w:=
      ⟨hy,O3,O3,⟨hcl,λj d v q hv=>(hclv j d v q hv).keep λF u hno hu=>⟨hu,λhh=>by
       rcases hh with hr|hnd
       ·exact hno (.inl (hRZ F hr))
       grind[World.block_lt_of_cell?]⟩⟩⟩
     have hc:=E (JX P Y f' cl clv zs rest D) rfl hokE w _ (v1++[.func (.func f') #[] clv.toArray]) [] R _ (by simpa using hJE) (hZc _) (λF hr=> .inl (hRZ F hr)) (hv1.append ⟨rfl,λj x v q hv=>by
       cases j with
       |zero=>simp at q hv;subst q;subst hv;exact .lit _ rfl
       |succ j=>simp at q⟩)
     unfold Oper.wp;rw[L g rfl I];simp only[Oper.upon,aD];refine hc.mono λe w' l=> ?_;obtain⟨rfl,R',D',⟨_,_,⟨D0,hb,hD0',hJ'⟩,_⟩,S,hR',hD',hDD⟩:=l;refine MX h hL hd hn hX N hJ hRZ hR0 hDM hD0 hD00 (by simpa using hJ') S hR' (λF G=> ?_) hb hK;grind
   have hvs:vs=[]:=by
    rcases hw with (⟨rfl,_⟩|⟨rfl,_⟩|⟨rfl,_⟩|⟨rfl,_⟩|⟨rfl,_⟩|⟨rfl,_⟩)|⟨rfl,_⟩<;>exact aG hcaps.1.symm
   subst hvs;rcases hw with hw|⟨rfl,k,n,sz,m,d,cs,cs',us',as,rfl,hlk,z,G,hcA,hK⟩
   rotate_left
   ·obtain⟨v0,v1,rfl⟩: ∃v0 v1,vals=v0::v1:=by
     have hl:=p.1;cases vals with
     |nil=>simp at hl
     |cons v0 v1=>simp
    have hnone:AJ [] ρ=ρ:=O5;have hv1:RepL (RepU ρ w Z) us' v1:=⟨by simpa using p.1,λj x v q hv=>p.2 (j+1) x v (by simpa using q) (by simpa using hv)⟩
    have W:=E9 h [] hv1 z;rw[hnone]at W;have hc:=Kb h hlk W (p.2 0 _ v0 rfl rfl) (hds d G) hcA;unfold Oper.wp;rw[L g rfl hcA.1];simp only[Oper.upon,aD];refine hc.mono λe w' l=> ?_;obtain⟨v,ρ'',rfl,t⟩:=l;rw[G];exact⟨M,Z,w0,ρ'',_,hL.put ((aI O3).trans ((aJ _ _).trans (aM _))) O3,t,(CX _ _ _).trans hn,hK⟩
   rw[<-or_assoc]at hw;rcases hw with hw|⟨rfl,sz,m,d,cs',us',as,rfl,z,G,hcA,hK⟩|⟨rfl,fz,k,n,sz,m,d,cs,cs',us',as,rfl,hkf,hlk,z,G,hcA,hK⟩|⟨rfl,fz,sz,m,d,cs',us',as,rfl,z,G,hcA,hK⟩|⟨rfl,gs,gs',h1,h2,v,ids,nw,⟨I,E⟩,hnt,N,hK⟩
   rotate_left
   ·obtain⟨v0,v1,rfl⟩: ∃v0 v1,vals=v0::v1:=by
     have hl:=p.1;cases vals with
     |nil=>simp at hl
     |cons v0 v1=>simp
    have hnone:AJ [] ρ=ρ:=O5;have hv1:RepL (RepU ρ w Z) us' v1:=⟨by simpa using p.1,λj x v q hv=>p.2 (j+1) x v (by simpa using q) (by simpa using hv)⟩
    have W:=E9 h [] hv1 z;rw[hnone]at W;obtain rfl:v0= .slice none 0 0:=p.2 0 _ v0 rfl rfl;have hfar: ∀F,Own.has { g:=0,o:=0,sz:=sz,room:=0,app:=true,nil:=true } F->w.heap.size<=F.block:=λF hh=>by cases hh.1
    have h':=h.new (Ext.refl w) d (o:={ g:=0,o:=0,sz:=sz,room:=0,app:=true,nil:=true }) (b:= .row sz [] true)
     hfar O1 (by simp[maxLen]) ⟨rfl,rfl,O1,O1,O1⟩
    have hc:=Kb (k:=d) (n:=0) h' (Bt _ _ _) (W.mono λx v q=>q.keep (Kf (Ext.refl w) hfar)) ⟨_,Cd _ _ _,O1,.inl ⟨rfl,rfl,rfl,rfl⟩⟩ (hds d G) hcA;unfold Oper.wp;rw[L g rfl hcA.1];simp only[Oper.upon,aD];refine hc.mono λe w' l=> ?_;obtain⟨v,ρ'',rfl,t⟩:=l;rw[G];exact⟨M,Z,w0,ρ'',_,hL.put ((aI O3).trans ((aJ _ _).trans ((aM _).trans (aJ _ _)))) O3,t,(CX _ _ _).trans hn,hK⟩
   ·obtain⟨v0,v1,rfl⟩: ∃v0 v1,vals=v0::v1:=by
     have hl:=p.1;cases vals with
     |nil=>simp at hl
     |cons v0 v1=>simp
    have hv1:RepL (RepU ρ w Z) us' v1:=⟨by simpa using p.1,λj x v q hv=>p.2 (j+1) x v (by simpa using q) (by simpa using hv)⟩
    have W:=E9 h fz hv1 z;obtain⟨o,ho,hv0⟩:RepC ρ w Z (.sl k 0 n) v0:=p.2 0 _ v0 rfl rfl;have hc:=Kb (h.freeze fz) hlk W ⟨o,(Fi hkf).trans ho,hv0⟩ (hds d G) hcA;unfold Oper.wp;rw[L g rfl hcA.1];simp only[Oper.upon,aD];refine hc.mono λe w' l=> ?_;obtain⟨v,ρ'',rfl,t⟩:=l;rw[G];exact⟨M,Z,w0,ρ'',_,hL.put ((aI O3).trans ((aJ _ _).trans ((aM _).trans (aP fz)))) O3,t,(CX _ _ _).trans hn,hK⟩
   ·obtain⟨v0,v1,rfl⟩: ∃v0 v1,vals=v0::v1:=by
     have hl:=p.1;cases vals with
     |nil=>simp at hl
     |cons v0 v1=>simp
    have hv1:RepL (RepU ρ w Z) us' v1:=⟨by simpa using p.1,λj x v q hv=>p.2 (j+1) x v (by simpa using q) (by simpa using hv)⟩
    have W:=E9 h fz hv1 z;obtain rfl:v0= .slice none 0 0:=p.2 0 _ v0 rfl rfl;have hfar: ∀F,Own.has { g:=0,o:=0,sz:=sz,room:=0,app:=true,nil:=true } F->w.heap.size<=F.block:=λF hh=>by cases hh.1
    have h':=(h.freeze fz).new (Ext.refl w) d (o:={ g:=0,o:=0,sz:=sz,room:=0,app:=true,nil:=true }) (b:= .row sz [] true)
     hfar O1 (by simp[maxLen]) ⟨rfl,rfl,O1,O1,O1⟩
    have hc:=Kb (k:=d) (n:=0) h' (Bt _ _ _) (W.mono λx v q=>q.keep (Kf (Ext.refl w) hfar)) ⟨_,Cd _ _ _,O1,.inl ⟨rfl,rfl,rfl,rfl⟩⟩ (hds d G) hcA;unfold Oper.wp;rw[L g rfl hcA.1];simp only[Oper.upon,aD];refine hc.mono λe w' l=> ?_;obtain⟨v,ρ'',rfl,t⟩:=l;rw[G];exact⟨M,Z,w0,ρ'',_,hL.put ((aI O3).trans ((aJ _ _).trans ((aM _).trans ((aJ _ _).trans (aP fz))))) O3,t,(CX _ _ _).trans hn,hK⟩
   ·have hheap:Heap (Bj ids ρ) w (Ar (AJ ids ρ) Z) h1:=⟨⟨λj oj hj=>h.heap.owns.cells j oj (A9 hj).2,λj j' o1 o2 hj hj'=>h.heap.owns.apart j j' o1 o2 (A9 hj).2 (A9 hj').2,λj oj hj=>h.heap.owns.lim j oj (A9 hj).2⟩,λj b hb=>by
     obtain⟨e1,b0,e2,rfl⟩:=N.old j b hb;obtain⟨oj,hoj,hr⟩:=h.heap.rep j b0 e2;grind[D5,jhI]⟩
    have hus:RepL (RepU (Bj ids ρ) w (Ar (AJ ids ρ) Z)) (us.map (U.on (L7 ids))) vals:=⟨by simpa using p.1,λj x v q hv=>by
     rw[Bf,jze]at q;obtain⟨y,hy,rfl⟩:=q;exact PG (p.2 j y v hy hv)⟩
    have hc:=E w _ _ vals (hZr ids) hheap (λF ⟨j,oj,hj,hh⟩=>by
     obtain⟨e1,e2⟩:=A9 hj;exact h.thawed (ok:=(ids.contains ·)) e2 (by simpa using e1) hh) (λj oj hj=>N.here j (A9 hj).1) hus
    unfold Oper.wp;rw[L g rfl I];simp only[Oper.upon,aD];refine hc.mono λe w' l=> ?_;obtain⟨x,rfl,ρc,S,hh',hlk,hR',hgs,hv⟩:=l;obtain⟨ρ',t⟩:=Vw h N hds S hh' hlk hR' hgs hv hnt;exact⟨M,Z,w0,ρ',_,hL.put (TrLe.backH hdy) hd,t,(CX _ _ _).trans hn,hK⟩
   have last: ∀{us0:List U} {u:U},us=us0++[u]-> ∃v1 v2,vals=v1++[v2]/\RepL (RepU ρ w Z) us0 v1/\RepU ρ w Z u v2:=λ{us0 u} he=>by
    subst he;have hl:=p.1;simp only[aL,aN,aO]at hl;have hlt:us0.length<vals.length:=O;refine⟨vals.take us0.length,vals[us0.length],?_,⟨by simp;omega,λj x v q hv=>p.2 j x v ?_ ?_⟩,?_⟩
    ·simp_all
    ·grind
    ·grind
    ·exact p.2 us0.length u _ O1 O1
   rcases hw with⟨rfl,us0,f',cs,as,ys,H,fz,ids,nw,hue,z,hg,q,hc,hK⟩|⟨rfl,us0,f0,k,f',cs,as,ys,zs,H,fz,ids,nw,hue,hlk,hk,z,hg,hem,q,hc,hK⟩
   ·obtain⟨v1,v2,rfl,hv1,cv,rfl,hcs⟩:=last hue;have hst:=SJ (f:=f') (cv:=cv) h hc hcs;obtain⟨I,E⟩:=hg (.func (.func f') #[] cv.toArray);have W:=E9 h fz hv1 z;have hcc:=E (Ht f' cs ys H cv) rfl (N4 cv q) w (Ar (AJ fz ρ) Z) (v1++[.func (.func f') #[] cv.toArray]) [] (Gm ids nw fz ρ) (ET ids nw fz ρ Z w) (by simpa using hst) (hZc _) (λF ⟨i,o,hi,ho⟩=> .inr ⟨i,o,(ME (A9 hi).2).2,ho⟩) (W.append ⟨rfl,λj x v q hv=>by
     cases j with
     |zero=>simp at q hv;subst q;subst hv;exact .lit _ rfl
     |succ j=>simp at q⟩)
    unfold Oper.wp;rw[L g rfl I];simp only[Oper.upon,aD];refine hcc.mono λe w' l=> ?_;obtain⟨rfl,R',D',hJ',S,hR',hD',hDD⟩:=l;obtain⟨ρ',t⟩:=Ul h hc hds hcs hJ' S hR' hD';exact⟨M,Z,w0,ρ',_,hL.put (aR hdy) hd,t,(CX _ _ _).trans hn,hK⟩
   ·obtain⟨v1,v2,rfl,hv1,cv0,rfl,hcs0⟩:=last hue;obtain⟨ok,N,hbk⟩:=h.heap.rep k _ hlk;obtain⟨q1,q2,q3,cvv,hcell,cv,rfl,hcs⟩:=hbk;have hst:=SJ (f:=f') (cv:=cv) h hc hcs;have hokB:YlOk P (Ht f' cs (ys.flatMap zs) H cv):=N4 cv q;have hokE:=Ua hokB f0 [.ref [.lit (.func (.func f') #[] cv.toArray)]] cv0 zs [] (ET ids nw fz ρ Z w);obtain⟨I,E⟩:=hg (.func (.func f0) #[] cv0.toArray);have W:=E9 h fz hv1 z;have hkf:k∈fz:=hk;have hthaw: ∀F,ok.has F-> ¬Ar (AJ fz ρ) Z F:=λF ho=>h.thawed (ok:=(fz.contains ·)) N (by simpa using hkf) ho;have hat:ok.has (ok.at 0):=(by simp_all[Own.has_at])
    obtain⟨p0,rfl,hp0⟩: ∃p0,cv0=[p0]/\p0= .pointer (some (ok.at 0)):=by
     have hl:cv0.length=1:=hcs0.1.symm;obtain⟨p0,rfl⟩:=List.length_eq_one_iff.1 hl;obtain⟨o2,ho2,hn2,hv2⟩:=hcs0.2 0 _ p0 rfl rfl;grind
    have hJE:(JX P (Ht f' cs (ys.flatMap zs) H cv) f0 [.ref [.lit (.func (.func f') #[] cv.toArray)]] [p0] zs [] (ET ids nw fz ρ Z w)).J ys (Gm ids nw fz ρ) (ET ids nw fz ρ Z w) w:=by
     refine⟨λy hy=>hem _ y hy,λF h=>h.1,⟨_,λF h=>h,λF h=>h,by simpa using hst⟩,⟨rfl,λj d v q hv=> ?_⟩⟩;cases j with
     |succ j=>simp at q
     |zero=>
      simp at q hv;subst q;subst hv;rw[hp0];refine .ref _ _ (λ_=> .func (.func f') #[] cv.toArray) (λ_=>rfl) (λj x q=> ?_) (λj x q=> ?_) (λj x q=> ?_)
      all_goals
       obtain rfl:j=0:=by
        grind
      ·omega
      ·rintro (⟨i,o,hi,ho⟩|hnd)
       ·exact hthaw _ hat (.inr ⟨i,o,(ME (A9 hi).2).2,ho⟩)
       ·exact hnd ⟨EG h N hat,λho=>hthaw _ hat (CD (CD ho))⟩
      ·simp at q;subst q;exact .lit _ rfl
    have hcc:=E _ rfl hokE w (Ar (AJ fz ρ) Z) (v1++[.func (.func f0) #[] [p0].toArray]) [] (Gm ids nw fz ρ) (ET ids nw fz ρ Z w) (by simpa using hJE) (hZc _) (λF ⟨i,o,hi,ho⟩=> .inr ⟨i,o,(ME (A9 hi).2).2,ho⟩) (W.append ⟨rfl,λj x v q hv=>by
     cases j with
     |zero=>simp at q hv;subst q;subst hv;exact .lit _ rfl
     |succ j=>simp at q⟩)
    unfold Oper.wp;rw[L g rfl I];simp only[Oper.upon,aD];refine hcc.mono λe w' l=> ?_;obtain⟨rfl,R',D',⟨_,_,⟨D0,hb,hD0',hJ'⟩,_⟩,S,hR',hD',hDD⟩:=l;obtain⟨ρ',t⟩:=Ul h hc hds hcs (by simpa using hJ') S hR' O3;exact⟨M,Z,w0,ρ',_,hL.put (aR hdy) hd,t,(CX _ _ _).trans hn,hK⟩
  have S:=h.evU hu;unfold Eh at hw;split at hw
  case h_4=>exact hw.elim
  case h_1 g caps=>
   obtain⟨us,hus,hw⟩:=hw;generalize hef:a.eval f=vf at S;cases S with
   |fn _ _ vs hl h3=>
    exact go hw (M5 h hus) ⟨hl,h3⟩ (λz=>Mp h _ hus z) λg' e I=>enter (e ▸ I) hef
  case h_2 g cs=>
   obtain⟨us,hus,hw⟩:=hw;obtain⟨vs,hef,hvs⟩:=S;have hcs:RepL (RepU ρ w Z) (cs.map U.c) vs:=hvs.imp U.c λx v _ q=>q;refine go (vs:=[]) (vals:=args.toList.map a.eval++vs) hw ((M5 h hus).append hcs) ⟨rfl,λj x v q=>by simp at q⟩ (λ{as ids} z=> ?_) λg' e I=>by rw[aD];exact enter (e ▸ I) hef
   obtain⟨as1,as2,rfl,ha1,ha2⟩:=jdr z;exact(Mp h _ hus ha1).append (E9 h ids hcs ha2)
  case h_3 x=>
   obtain⟨us,hus,as,rest,hlk,z,hK⟩:=hw;obtain⟨Y,R,D,hX,rfl,hJ,hRZ,hR0,hDM,hD0,hD00⟩:=hL.y _ _ hlk;have N:=hY Y hX;have hJw:=N.stable _ R D w0 w M hJ (λF hm G=>hDM F G hm) h.fr;have hef:a.eval f=Y.x:=by
    generalize a.eval f=vf at S;cases S;rfl
   simp only[St.argsW,jze]at z;obtain⟨as',has',he⟩:=z;obtain rfl:as'=as:=by simpa using he
   have hsub:=N.sub _ R D w hJw;obtain⟨I,hc⟩:=N.step as' rest R D (λF=>D F\/(F.block<w.heap.size/\ ¬Ar (AJ (st.reachU us) ρ) Z F)) w (args.toList.map a.eval) hJw (λF G=> .inl G) (PJ h (λF G=>G.elim (hsub.2 F) λhh=>hh.1) λF G hl=>by
    rcases G with hr|hn
    ·exact .inl (hRZ F hr)
    ·exact CD (Classical.not_not.1 λhno=>hn (.inr ⟨hl,hno⟩)))
    (RepL.mono (Mp h _ hus has') λx v q=>q.keep λF u hno hu=>⟨hu,λhh=>by
     rcases hh with hr|hnd
     ·exact hno (.inl (hRZ F hr))
     ·exact hnd (.inr ⟨World.block_lt_of_cell? w F hu,hno⟩)⟩)
   unfold Oper.wp;rw[enter I hef];simp only[Oper.upon];refine hc.mono λe w' l=> ?_;obtain⟨rfl,R',D',hJ',S,hR',hD',hDD⟩:=l;refine MX h hL hd hn hX N hJ hRZ hR0 hDM hD0 hD00 hJ' S hR' (λF G=> ?_) hDD hK;rcases hD' F G with (h1|h1)|h1
   ·exact .inl h1
   ·exact .inr (.inl h1.2)
   ·exact .inr (.inr h1)
 ·obtain⟨s,hs,hK⟩:=hw;obtain⟨nx,v,w',ρ',L,hnx,t⟩:=jkH h hT hds hs;unfold Oper.wp;rw[L];rcases hnx with rfl|⟨rfl,rfl⟩
  ·exact⟨M,Z,w0,ρ',s,hL.put (aT hdy hs) hd,t,(CX _ _ _).trans hn,hK⟩
  ·exact⟨M,Z,w0,ρ',s,hL.put (aT hdy hs) hd,t,(CX _ _ _).trans hn,hK⟩
def Ev(n:Nat)(a:List Nat)(ops:List Oper):Bool:=ops.all λo=>match o.dst with|some d=>decide (d<n)&&(decide (d<YS)&& !a.contains d)|none=>true
theorem T7{ops:List Oper}(h:Ev X.n X.pin ops=true)(b:o∈ops){d:Nat}(a:o.dst=some d):Fg X d:=by
 grind[Ev,List.all_eq_true,Fg]
theorem jgM(ops:List Oper)(tmps:Array Value)(j d:Nat)(a:(ops[j]?).bind (·.dst)=some d):yielded ops.toArray tmps j=match tmps[d]? with|some (.bool b)=>some b|_=>none:=by
 unfold yielded;grind
theorem Ww: ∀{b c:Bool},¬b=c->b= !c
 |true,true,h=>absurd rfl h
 |true,false,_=>rfl
 |false,true,_=>rfl
 |false,false,h=>absurd rfl h
theorem PM(hT:Dk P T)(hY: ∀Y,X.Y=some Y->YlOk P Y)(hL:Lk X M Z w0 st a)(h:Rel M Z w0 ρ st a w)(W:a.tmps.size=X.n){ops:List Oper}(hok:Ev X.n X.pin ops=true)(ho:o∈ops)(r:Ca P T ops o st K):
  if Region.wanted o (yielded ops.toArray a.tmps) then o.wp P a w (BX X K) Q else BX X K (a.put o.dst undef) w:=by
 have p: ∀d,o.dst=some d->Fg X d:=(by grind[T7])
 have y: ∀d,o.dst=some d->d<a.tmps.size:=λd y=>by rw[W];exact(p d y).1
 have N: ∀d,o.dst=some d->d<YS:=λd y=>(p d y).2.1;have i: ∀ρ,RepV ρ w Z (.tup []) undef:=λρ=>⟨[],rfl,rfl,O1⟩
 unfold Ca at r;split at r
 ·rename_i S;rw[if_pos (by simp[Region.wanted,S])];grind[Sb]
 ·rename_i j l S;split at r
  case h_2=>exact r.elim
  case h_1 g L=>
   have hy:=jgM ops a.tmps j g L;obtain⟨oj,hoj,hdo⟩: ∃oj,ops[j]? =some oj/\oj.dst=some g:=by
    simpa [jzd]using L
   have z:Fg X g:=T7 hok (BY hoj) hdo;have f:g<a.tmps.size:=by rw[W];exact z.1
   have H: ∀v,Lk X M Z w0 (st.put (some g) v) a:=λv=>hL.of (aI λk hk=>by cases hk;exact z.2.1);unfold EW at r;split at r
   ·rename_i b F;have G:=h.tmps g _ F;have I:a.tmps[g]? =some (.bool b):=by
     simp[aS,f]at G;rw[aH f];generalize a.tmps[g]=x at G;cases G;rfl
    have t:yielded ops.toArray a.tmps j=some b:=by rw[hy,I]
    have E: ∀b',b=b'->Rel M Z w0 ρ (st.put (some g) (vB b')) a w:=λb' hbb=>by
     subst hbb;have:=h.put (dst:=some g) (v:=vB b) (x:= .bool b) (λd y=>by cases y;exact f) (RepD.bool b);have ea:a.put (some g) (.bool b)=a:=by
      simp only[Act.put];have:a.tmps.setIfInBounds g (.bool b)=a.tmps:=by
       apply Array.ext
       ·simp
       ·intro q h1 h2;by_cases e:q=g
        ·subst e;simp only[Array.getElem_setIfInBounds_self];rw[aH f]at I;exact(Bi I).symm
        ·rw[Array.getElem_setIfInBounds_ne _ (λh=>e h.symm)]
      rw[this]
     rwa [ea]at this
    by_cases m:b=l
    ·rw[if_pos (by simp[Region.wanted,S,t,m])];exact Sb hT hY (H _) (E l m) W p (r.1 m)
    ·have J:b= !l:=Ww m;have hnw: ¬Region.wanted o (yielded ops.toArray a.tmps)=true:=by
      unfold Region.wanted;rw[S];intro hh;simp only[t]at hh;exact m (by simpa using hh)
     rw[if_neg hnw];exact⟨M,Z,w0,ρ,_,(H _).put (aI N) p,(E (!l) J).put y (i ρ),(CX _ _ _).trans W,r.2 J⟩
   ·rename_i F;have G:=h.tmps g _ F;have I:a.tmps[g]? =some undef:=by
     simp[aS,f]at G;rw[aH f];obtain⟨vs,h1,h2,_⟩:=G;have:vs=[]:=aG (by simpa using h2.symm);subst this;rw[h1];rfl
    have t:yielded ops.toArray a.tmps j=none:=by rw[hy,I];rfl
    rw[if_neg (by simp[Region.wanted,S,t])];exact⟨M,Z,w0,ρ,_,hL.put (aI N) p,h.put y (i ρ),(CX _ _ _).trans W,r⟩
   ·exact r.elim
theorem Rg(k:Dk P T)(m: ∀Y,X.Y=some Y->YlOk P Y){ops:List Oper}{K:St->Prop}{Q:Exit->Act->World->Prop}(b:Ev X.n X.pin ops=true)(j: ∀a w,BX X K a w->Q .normal a w):
  ∀(l:List Oper) (a:Act) (w:World),(∀o∈l,o∈ops)->BX X (λst=>Xj P T ops l st K) a w->wpList P ops.toArray Q l a w
 |[],a,w,_,h=>j a w h
 |o::r,a,w,t,⟨M,Z,w0,ρ,st,p,e,v,x⟩=>by
  have q:=PM (Q:=Q) k m p e v b (t o O1) x;have next: ∀f g,BX X (JB (Xj P T ops r) K) f g->wpList P ops.toArray Q r f g:=λf g i=>
   Rg k m b j r f g O3 i
  unfold wpList;split
  ·rw[if_pos ‹_›]at q;grind[Oper.wp_mono]
  grind
theorem Rel.weaken(h:Rel M Z w0 ρ st a w){f:St}(e:f.le st):Rel M Z w0 ρ f a w where
 fr:=h.fr
 heap:=⟨h.heap.owns,λi b g=>h.heap.rep i b (IN e.2 i b g)⟩
 mine:=h.mine
 out:=h.out
 mz:=h.mz
 tmps:=λt v j=>h.tmps t v (IN e.1 t v j)
 defers:=h.defers
 mps:=h.mps
end
end Go.Va
