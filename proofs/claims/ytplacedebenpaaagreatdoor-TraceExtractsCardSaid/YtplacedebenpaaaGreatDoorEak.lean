/- a part of the proof -/
import Derived.Test.YtplacedebenpaaaGreatDoorEaj
set_option linter.all false
namespace Go.Va
open _root_.Nat renaming add_sub_cancel_left → aD, le_add_right → aH, zero_le → aJ
open _root_.Bool renaming or_eq_true → aG, false_or → aI
open Go.RowKit
variable [DrC]
variable{st E:St}{K:St->Prop}{g:FuncId}{o:Oper}{k k':Eff->Prop}
section
variable {P:Program} {T:AH} {ops:List Oper} {pl:List (List Nat)} {ds:List Nat}
theorem CH{α:Type}{x:Option α}{k k':α->Prop}(h: ∀y,k y->k' y)(b:AI x k):AI x k':=by
 obtain⟨y,e,a⟩:=b;exact⟨y,e,h y a⟩
theorem jhD{dst:Option Nat}{M:St->Prop}(h: ∀s,K s->M s){caps:List D}{N:List U}(W:Kl P dst st K g caps N):Kl P dst st M g caps N:=by
 rcases W with⟨p,r,I,J,a,b,c,d,e⟩|⟨x,F,t,j,a,b,c,d⟩|⟨e,x,F,t,j,f,S,L,a,b,c,d,k⟩|(⟨e,E,f,w,j,F,H,y,p,G,a,b,c,d,k,m⟩|⟨e,E,T,X,f,w,j,F,L,H,y,p,G,a,b,c,d,k,l,m,n,q⟩|⟨e,z,m,d,o,i,j,a,b,c,q,f⟩|⟨e,y,k,n,z,m,d,w,o,i,j,a,Q,b,c,q,f,l⟩|⟨e,y,z,m,d,o,i,j,a,b,c,q,f⟩|⟨e,i,I,J,v,p,G,ks,a,b,c,k⟩)|⟨e,k,n,z,m,d,w,o,i,j,a,b,c,q,f,l⟩
 ·exact .inl ⟨p,r,I,J,a,b,c,d,h _ e⟩
 ·exact .inr (.inl ⟨x,F,t,j,a,b,c,h _ d⟩)
 ·exact .inr (.inr (.inl ⟨e,x,F,t,j,f,S,L,a,b,c,d,h _ k⟩))
 ·exact .inr (.inr (.inr (.inl (.inl ⟨e,E,f,w,j,F,H,y,p,G,a,b,c,d,k,h _ m⟩))))
 ·exact .inr (.inr (.inr (.inl (.inr (.inl ⟨e,E,T,X,f,w,j,F,L,H,y,p,G,a,b,c,d,k,l,m,n,h _ q⟩)))))
 ·exact .inr (.inr (.inr (.inl (.inr (.inr (.inl ⟨e,z,m,d,o,i,j,a,b,c,q,h _ f⟩))))))
 ·exact .inr (.inr (.inr (.inl (.inr (.inr (.inr (.inl ⟨e,y,k,n,z,m,d,w,o,i,j,a,Q,b,c,q,f,h _ l⟩)))))))
 ·exact .inr (.inr (.inr (.inl (.inr (.inr (.inr (.inr (.inl ⟨e,y,z,m,d,o,i,j,a,b,c,q,h _ f⟩))))))))
 ·exact .inr (.inr (.inr (.inl (.inr (.inr (.inr (.inr (.inr ⟨e,i,I,J,v,p,G,ks,a,b,c,h _ k⟩))))))))
 ·exact .inr (.inr (.inr (.inr ⟨e,k,n,z,m,d,w,o,i,j,a,b,c,q,f,h _ l⟩)))
theorem Uy{dst:Option Nat}{f:St->Prop}(h: ∀s,K s->f s){caps:List D}{i:List U}(hw:DM P dst st K g caps i):DM P dst st f g caps i:=by
 rcases hw with⟨j,a,e,b,c⟩|hw
 ·exact .inl ⟨j,a,e,b,h _ c⟩
 ·exact .inr (jhD h hw)
theorem Np{j:St->Prop}(h: ∀s,K s->j s)(f:wpOp P T o st K):wpOp P T o st j:=by
 unfold wpOp at f ⊢;revert f;split<;>intro f
 ·refine CH (λu e=> ?_) f;unfold Eh at e ⊢;revert e;split<;>intro e
  ·grind[CH,Uy]
  ·exact CH (λl i=>Uy h i) e
  ·exact CH (λl ⟨k,g,a,b,c⟩=>⟨k,g,a,b,h _ c⟩) e
  ·exact e.elim
 ·exact CH h f
theorem OA{d sz a:Nat}{ds:List D}(e:o.dst=some d)(i:ds.length=a*sz)(h:EH P T o E (.new (.row sz ds true) (vC (.sl d 0 a)))):EH P T o E (.dat (.slice a ds)):=λs k f K g=>by
 rw[e]at f;refine Np (K:=Frz λp=>K (p.freeze [d])) (λm ⟨l,j⟩=>⟨l++[[d]],O3⟩) (h s k (by rw[e];exact⟨f,rfl⟩) _ λm b=>g _ ?_);rw[e]at b ⊢;exact UL i f b
theorem Vg{ops:List Oper}{x:Eff}(h:CL P T ops o E x)(a:JN o.dst k x): ∃x,CL P T ops o E x/\k x:=by
 unfold JN at a;split at a
 ·rename_i w ds e t;obtain⟨⟨l,m⟩,a⟩:=a;refine⟨_,?_,a⟩;unfold CL at h ⊢;split
  ·rename_i i;rw[i]at h;exact OA l m h
  ·rename_i j p i;rw[i]at h;dsimp only at h;split
   ·rename_i v g;rw[g]at h;rcases h with⟨b,q,⟨r,f⟩|⟨_,f⟩⟩|⟨_,f⟩
    ·exact .inl ⟨b,q,.inl ⟨r,OA l m f⟩⟩
    ·cases f
    ·cases f
   grind
 ·grind
 ·exact a.elim
theorem Qz{fin:List Oper->St->Prop}: ∀(is:List DI) (a:List Oper) (S:St),BH P T ops is a S fin->
  ∃(e:List Step) (b:St),e.length=is.length/\is.length<=a.length/\fin (a.drop is.length) b/\b.fs=S.fs.run e/\
   ∀p i,is[p]? =some i-> ∃o x,a[p]? =some o/\e[p]? =some ⟨o.dst,x⟩/\DF i (o.dst.getD 0) x=true/\ ∃f:St,f.fs=S.fs.run (e.take p)/\CL P T ops o (seen i f) x
 |[],a,S,h=>⟨[],S,rfl,aJ _,h,rfl,O1⟩
 |i::is,[],S,h=>h.elim
 |i::is,o::r,S,h=>by
  obtain⟨x,hx,hok,h⟩: ∃x,CL P T ops o (seen i S) x/\Cu i o.dst S (λb=>BH P T ops is r b fin) x:=by
   unfold BH at h;split at h
   ·exact jdR h
   ·split at h
    ·exact jhJ h
    grind[Tn,Vg]
  obtain⟨e,b,y,z,E,k,l⟩:=Qz is r _ h;rw[jag]at k l;refine⟨⟨o.dst,x⟩::e,b,by simp[y],by simpa using z,by simpa using E,k,λp j g=> ?_⟩;cases p with
  |zero=>
   simp only[List.getElem?_cons_zero,Option.some.injEq]at g;subst g;exact⟨o,x,rfl,rfl,hok,S,rfl,hx⟩
  |succ p=>
   obtain⟨F,G,m,q,t,f,v,w⟩:=l p j (by simpa using g);exact⟨F,G,by simpa using m,by simpa using q,t,f,by rw[v];rfl,w⟩
theorem jeT(ds:List Nat)(st:St){d:Nat}(h:d∈ds):(purges ds st).fs.Clean d:=SH d ds st (.inl h)
theorem jh0(hlt: ∀j i,BU pl j i=true->j<i){lo:Nat}{is:List DI}{ids:List Nat}(hfit:lo+is.length<=ops.length)(hcut:Kn ops pl (lo+is.length)=true)
  (hi:QW ops pl ds lo is=true) {n:Nat} (h:BH P T ops is (ops.drop lo) (purges ds (st.freeze ids)) λrest s=>rest=ops.drop (lo+is.length)->FW P T ops (BU pl) n (lo+is.length) s K):
  FW P T ops (BU pl) (n+1) lo st K:=by
 obtain⟨xs,S',hlen,_,hK,hS',hd⟩:=Qz is (ops.drop lo) _ h;rw[List.drop_drop]at hK;have hK:=hK rfl;generalize S:(purges ds (st.freeze ids)).fs=F0 at hS' hd;have hclean: ∀d,d∈ds->F0.Clean d:=λd h=>S ▸ jeT ds _ h;let f:Nat->Step:=λi=>if i<lo then ⟨none,.val (.tup [])⟩ else xs.getD (i - lo) default
 have y: ∀i,i<lo->f i=⟨none,.val (.tup [])⟩:=λi h=>if_pos h;have g: ∀p,p<is.length-> ∃o x,ops[lo+p]? =some o/\f (lo+p)=⟨o.dst,x⟩/\DF is[p]! (o.dst.getD 0) x=true/\ ∃G:St,G.fs=F0.run (xs.take p)/\CL P T ops o (seen is[p]! G) x:=λp a=>by
  have I:is[p]? =some is[p]! :=by rw[AD a,List.getElem!_of_getElem? (AD a)]
  obtain⟨o,x,H,F,m,Y⟩:=hd p _ I;refine⟨o,x,by simpa [List.getElem?_drop]using H,?_,m,Y⟩;show(if lo+p<lo then _ else xs.getD (lo+p - lo) default)=_;rw[if_neg O,aD,AL,F];rfl
 have J: ∀p,p<=is.length->F0.run ((List.range (lo+p)).map f)=F0.run (xs.take p):=λp a=>by
  rw[List.range_add,List.map_append,FS.run_append,Nq F0 ((List.range lo).map f)]
  ·congr 1;apply List.ext_getElem?;intro q;simp only[List.map_map,Bf,List.getElem?_take];by_cases w:q<p
   ·rw[if_pos w,List.getElem?_range w];simp only[Option.map_some,Function.comp_apply,f];rw[if_neg O,aD,AL,AD O];rfl
   ·rw[if_neg w,B9 (by simpa using w)];rfl
  ·intro s hs;obtain⟨j,N,rfl⟩:=jzk.1 hs;exact y j (List.mem_range.1 N)
 let Em:Nat->St:=λi=>if h:lo<=i/\i<lo+is.length then seen is[i - lo]! (Classical.choose (g (i - lo) O).choose_spec.choose_spec.2.2.2) else ⟨[],[]⟩
 have hE: ∀p,(a:p<is.length)-> ∃o x,ops[lo+p]? =some o/\f (lo+p)=⟨o.dst,x⟩/\DF is[p]! (o.dst.getD 0) x=true/\ ∃G:St,G.fs=F0.run (xs.take p)/\Em (lo+p)=seen is[p]! G/\CL P T ops o (seen is[p]! G) x:=λp a=>by
  have E:=(g p a).choose_spec.choose_spec;refine⟨_,_,E.1,E.2.1,E.2.2.1,Classical.choose E.2.2.2,(Classical.choose_spec E.2.2.2).1,?_,(Classical.choose_spec E.2.2.2).2⟩;have e:lo+p - lo=p:=aD ..;simp only[Em];rw[dif_pos ⟨aH ..,O⟩];congr 1<;>simp only[e]
 have hE0: ∀i,i<lo->Em i=⟨[],[]⟩:=O3;have hdst: ∀p,p<is.length->(f (lo+p)).d=CK ops (lo+p):=λp a=>by
  obtain⟨o,x,H,F,_⟩:=g p a;rw[F];unfold CK;rw[H];rfl
 have I: ∀p,p<is.length->(is[p]!,p)∈is.zipIdx:=O3;have hnew: ∀p,p<is.length-> ∀d∈FL (CK ops (lo+p)) is[p]!,d∈ds/\d∉is[p]!.ks:=λp a d hd=>by
  have:=jzy.1 hi _ (I p a);grind
 have l: ∀p q,p<is.length->q<is.length->JP pl (lo+p) (CK ops (lo+p)) is[p]! (lo+q) (CK ops (lo+q)) is[q]! =true:=λp q a w=>by
  have:=jzy.1 hi _ (I p a);grind
 have M: ∀p q,p<is.length->q<is.length->p≠q->BU pl (lo+p) (lo+q)=false->BU pl (lo+q) (lo+p)=false->
   (∀t,(f (lo+q)).d=some t->t∉is[p]!.rd/\(f (lo+p)).d≠some t)/\ ∀k,k∈CU (CK ops (lo+q)) is[q]! ->k∈is[p]!.nh/\k∉CU (CK ops (lo+p)) is[p]! :=λp q a w z r h2=>by
  have:=l p q a w;unfold JP at this;have Z:LK pl (lo+p) (lo+q)=true:=by grind[LK]
  rw[Z,AR]at this;have:=this.1;simp only[Bool.not_true,aI,AR]at this;refine⟨λt ht=> ?_,λk hk=>⟨?_,?_⟩⟩
  ·grind
  ·grind
  ·have:=jzy.1 this.2.2 k hk;simpa using this
 have hhit: ∀p,p<is.length-> ∀k,(f (lo+p)).hits k->k∈CU (CK ops (lo+p)) is[p]! :=λp a k hk=>by
  obtain⟨o,x,H,F,m,_⟩:=g p a;rw[<-hdst p a];exact Ox (s:=f (lo+p)) (by rw[F];exact m) hk
 have hcl: ∀p q,p<is.length->q<is.length->p≠q->BU pl (lo+q) (lo+p)=false-> ∀d∈FL (CK ops (lo+q)) is[q]!,(f (lo+p)).Clean d:=λp q a w z r d hd=>by
  have:=l p q a w;unfold JP at this;rw[AR]at this;have:=this.2;rw[show(lo+p==lo+q)=false by simpa using z,r]at this;simp only[aI]at this;have:=jzy.1 this d hd;rw[AR]at this;obtain⟨o,x,H,F,m,_⟩:=g p a;refine VC (s:=f (lo+p)) (i:=is[p]!) (by rw[F];exact m) (by simpa using this.1) ?_;grind
 have split: ∀i,i<lo+is.length->i<lo\/ ∃p,p<is.length/\i=lo+p:=O3;have idle: ∀k,¬(⟨none,.val (.tup [])⟩:Step).hits k:=(by grind[Step.hits,Eff.b])
 right;right;left;refine⟨lo+is.length,ids,ds,f,Em,aH ..,hfit,U2 hcut,?_,y,?_,S',?_,hK⟩
 ·rw[S];refine⟨hlt,λi j hij N a=> ?_,λi hi t v hv=> ?_,λi hi k b Z=> ?_⟩
  ·rcases split j N with r|⟨q,w,rfl⟩
   ·rw[y j r];exact⟨O1,O3⟩
   ·rcases split i O with r|⟨p,hp',rfl⟩
    ·rw[y i r];exact⟨O1,O3⟩
    ·have z:p≠q:=O;have h2:BU pl (lo+q) (lo+p)=false:=by
      grind
     obtain⟨a1,a2⟩:=M p q hp' w z a h2;exact⟨O3,O3⟩
  ·rcases split i hi with r|⟨p,a,rfl⟩
   ·rw[hE0 i r]at hv;cases hv
   ·obtain⟨o,x,H,F,m,G,Y,g5,_⟩:=hE p a;rw[g5]at hv;obtain⟨e1,e2⟩:=Jl (λt=>is[p]!.rd.contains t) t G.t v hv;refine⟨?_,λj N z hp1 hp2 hs=> ?_⟩
    ·rw[J p O,<-Y];exact e1
    ·rcases split j N with r|⟨q,w,rfl⟩
     ·rw[y j r]at hs;cases hs
     ·exact((M p q a w O hp2 hp1).1 t hs).1 (by simpa using e2)
  ·rcases split i hi with r|⟨p,a,rfl⟩
   ·rw[hE0 i r]at Z;cases Z
   ·obtain⟨o,x,H,F,m,G,Y,g5,_⟩:=hE p a;rw[g5]at Z;obtain⟨e1,e2⟩:=XT Z;refine⟨?_,λj N z hp1 hp2 hs=> ?_⟩
    ·rw[J p O,<-Y];exact e1
    grind
 ·rw[S];intro i o hlo hhi ho L s hLi hc Q hfs K' hK';obtain⟨p,rfl⟩: ∃p,i=lo+p:=O3;have a:p<is.length:=O;obtain⟨o',x,H,F,m,G,Y,g5,g6⟩:=hE p a;rw[ho]at H;cases H;rw[g5]at Q;refine jcS g6 Q ?_ (λs' hs'=>hK' s' (by rw[hs',F]));have X:(∀d,d∈FL (CK ops (lo+p)) is[p]! ->s.fs.Clean d):=λd hd=>by
   rw[hfs];refine Pk _ _ O3 λs1 hs1=> ?_;obtain⟨j,N,rfl⟩:=jzk.1 hs1;obtain⟨hj1,hj2⟩:=List.mem_filter.1 N;rcases split j (List.mem_range.1 hj1)with r|⟨q,w,rfl⟩
   ·rw[y j r];exact⟨rfl,(by grind[Eff.b])⟩
   grind
  have W:o.dst=CK ops (lo+p):=O3;cases x with
  |val v=>trivial
  |dat v=>
   simp only[DF,aG,beq_iff_eq]at m;refine X _ ?_;rw[<-W];unfold FL;grind
  |put k b=>trivial
  |new b v=>
   simp only[DF,AR,aG,beq_iff_eq]at m;refine⟨X _ ?_,IE m.2.2 O1⟩;rw[<-W];unfold FL;rw[if_pos (m.1.elim (λh=>h.elim .inl λh=> .inr (.inl h)) λh=> .inr (.inr (.inr (.inl h))))];exact List.mem_cons_self ..
  |app k b v=>
   simp only[DF,AR,aG,beq_iff_eq]at m;refine⟨X _ ?_,IE m.2.2.2 O1⟩;rw[<-W];unfold FL;rw[if_pos (m.1.elim (λh=> .inr (.inl h)) λh=> .inr (.inr (.inr (.inl h))))];exact List.mem_cons_self ..
 grind
theorem jkw{b:St->Prop}(h: ∀s,K s->b s)(a:Ca P T ops o st K):Ca P T ops o st b:=by
 unfold Ca at a ⊢;revert a;split<;>intro a
 ·exact Np h a
 ·revert a;split<;>intro a
  ·unfold EW at a ⊢;revert a;split<;>intro a
   ·exact⟨(by grind[Np]),λe=>h _ (a.2 e)⟩
   ·exact h _ a
   ·exact a.elim
  ·exact a.elim
theorem Sl(h: ∀x,k x->k' x)(f:Bo P T o E k):Bo P T o E k':=by
 unfold Bo at f ⊢;revert f;split<;>intro f
 ·refine CH (λu e=> ?_) f;unfold Gl at e ⊢;revert e;split<;>intro e
  ·exact CH (λm a=>CH (λl ⟨b,g,i,j⟩=>⟨b,g,i,h _ j⟩) a) e
  ·exact CH (λm a=>CH (λl ⟨b,g,i,j⟩=>⟨b,g,i,h _ j⟩) a) e
  ·exact e.elim
 ·exact CH h f
theorem jbD(h: ∀x,k x->k' x)(a:Dx T ops o E k):Dx T ops o E k':=by
 unfold Dx at a ⊢;revert a;split<;>intro a
 ·exact CH h a
 ·revert a;split<;>intro a
  ·unfold CS at a ⊢;grind[CH]
  ·exact a.elim
theorem S9(h: ∀x,k x->k' x)(a:CN P T ops o E k):CN P T ops o E k':=by
 unfold CN at a ⊢;revert a;split<;>intro a
 ·exact Sl h a
 ·revert a;split<;>intro a
  ·unfold CS at a ⊢;grind[Sl]
  ·exact a.elim
theorem F9{fin e:List Oper->St->Prop}(h: ∀r s,fin r s->e r s): ∀{is:List DI} {f:List Oper} {S:St},BH P T ops is f S fin->BH P T ops is f S e
 |[],_,_,a=>h _ _ a
 |_::_,[],_,a=>a.elim
 |i::_,_::_,_,a=>by
  unfold BH at a ⊢;split
  ·rename_i hi;rw[if_pos hi]at a;exact jbD (λ_ ⟨j,k⟩=>⟨j,F9 h k⟩) a
  ·rename_i hi;rw[if_neg hi]at a;split
   ·rename_i E;rw[if_pos E]at a;unfold Fb at a ⊢;revert a;split
    ·intro a;refine CH (λu o=> ?_) a;unfold Qm at o ⊢;revert o;split
     ·exact λo=>CH (λM L=>L.imp (λ⟨b,n,G,m,d,J,g,l,z,p,q,t,v,w,y,I⟩=>⟨b,n,G,m,d,J,g,l,z,p,q,t,v,w,y,F9 h I⟩) λ⟨G,m,d,g,l,z,p,q,t,v,w,y⟩=>⟨G,m,d,g,l,z,p,q,t,v,w,F9 h y⟩) o
     simp
    simp
   ·rename_i E;rw[if_neg E]at a;split
    ·rename_i F;rw[if_pos F]at a;refine S9 (λx H=> ?_) a;unfold JN at H ⊢;revert H;split
     ·exact λ⟨K,j,k⟩=>⟨K,j,F9 h k⟩
     ·exact λ⟨j,k⟩=>⟨j,F9 h k⟩
     simp
    ·rename_i F;rw[if_neg F]at a;exact S9 (λ_ ⟨j,k⟩=>⟨j,F9 h k⟩) a
theorem Nz{a:List Oper}{q:List (List Nat)}{K e:St->Prop}(h: ∀s,K s->e s): ∀(n:Nat) (L:List Nat) (st:St),E3 P T ops a q n L st K->E3 P T ops a q n L st e
 |0,_,_,b=>h _ b
 |n+1,L,st,b=>λi o f g j=>jkw (λs k=>Nz h n _ s k) (b i o f g j)
theorem Ki{lo:Nat}{q:List (List Nat)}{K:St->Prop}(b:(q.zipIdx.all λ(l,p)=>l.all λj=>BU pl (lo+j) (lo+p))=true): ∀(n:Nat) (L:List Nat) (L':Nat->Bool) (st:St),(∀j,L' j=true↔j<lo\/(lo<=j/\j - lo∈L))->
  E3 P T ops ((ops.drop lo).take q.length) q n L st K->GX P T ops (BU pl) (lo+q.length) n L' st K
 |0,_,_,_,_,h=>h
 |n+1,L,L',st,g,h=>λi o hi r m t=>by
  have a:lo<=i/\i - lo∉L:=by
   grind
  refine jkw (λs e=>Ki b n ((i - lo)::L) _ s (λj=> ?_) e) (h (i - lo) o ?_ (by simpa using a.2) ?_)
  ·grind
  ·grind
  ·rw[jzy];intro j k;have f:(q.getD (i - lo) [],i - lo)∈q.zipIdx:=by
    grind
   grind
theorem LH(b: ∀j i,BU pl j i=true->j<i){K:St->Prop}: ∀(e:List Seg) (lo:Nat) (st:St),lo<=ops.length->DT ops pl lo e=true->DY P T ops e (ops.drop lo) K st->
  FW P T ops (BU pl) e.length lo st K
 |[],lo,st,_,a,h=>⟨by simpa [DT]using a,h⟩
 | .one::r,lo,st,f,a,h=>by
  simp only[DT,AR]at a;cases m:ops.drop lo with
  |nil=>rw[m]at h;exact h.elim
  |cons o g=>
   rw[m]at h;have y:lo<ops.length:=by
    have:=congrArg List.length m;simp at this;omega
   have z:ops[lo]? =some o:=by
    have:=congrArg (·[0]?) m;simpa using this
   have k:g=ops.drop (lo+1):=by
    have:=congrArg (List.drop 1) m;simpa using this.symm
   right;left;refine⟨o,z,U2 a.1,?_⟩;rw[k]at h;exact jkw (λs p=>LH b r (lo+1) s O a.2 p) h
 | .rn l::r,lo,st,f,a,h=> .inr (.inr (.inr (.inl ⟨l,LH b r lo (rns l st) f a h⟩)))
 | .all q::r,lo,st,f,a,h=>by
  simp only[DT,AR,decide_eq_true_eq]at a;refine .inr (.inr (.inr (.inr ⟨lo+q.length,O,a.1,U2 a.2.1,?_⟩)));rw[aD];refine Ki (lo:=lo) a.2.2.1 q.length [] _ st (λj=>O1) (Nz (λs ⟨t,v,w⟩=>⟨t,v,LH b r _ t a.1 a.2.2.2 (by rwa [List.drop_drop]at w)⟩) _ _ _ h)
 | .any ids ds is::r,lo,st,f,a,h=>by
  simp only[DT,AR,decide_eq_true_eq]at a;exact jh0 b a.1 a.2.1 a.2.2.1 (F9 (λg s p x=>LH b r _ s a.1 a.2.2.2 (x ▸ p)) h)
theorem AA(pl:List (List Nat))(a:List Seg)(b:Jy ops pl a=true)(f:DY P T ops a ops K st):Kz P T ops st K:=by
 simp only[Jy,AR]at b;have e: ∀j i,BU pl j i=true->j<i:=Z6 b.2.1;exact⟨BU pl,a.length,jfa b.1,e,(by simp_all[LH,aJ])⟩
end
theorem Al{m n:Nat}(h:m.ble n=true):m<=n:=Nat.le_of_ble_eq_true h
@[simp]def Aq(l:List (List Nat)):List DI:=l.map λx=>⟨0,x,[],[],[]⟩
@[simp]def AG(z:List Nat)(l:List (List Nat)):List DI:=l.map λx=>⟨0,x,[],z,[]⟩
def Ah(l:List Nat):List (List Nat):=l.map λm=>(List.range 64).filter λi=>m/2^i%2==1
theorem Ac{P:Program}{bs:List A}{r:R}{k:R->Prop}{X:Prop}(h:CallsF P g bs r)(a:k r):G9 P g bs k\/X:= .inl ⟨r,h,a⟩
theorem Ae{P:Program}{bs:List A}{r:R}{k:R->Prop}(h:CallsF P g bs r)(a:k r):G9 P g bs k:=⟨r,h,a⟩
end Go.Va
namespace Go.Va
variable [DrC]
variable{α:Type}{a:St->Bk->Prop}
section
variable {P:Program} {T:AH} {st:St} {Q:Bk} {K:St->Prop} {ops:List Oper}
theorem V0:Bl P T .skip st Q=Q .normal st:=rfl
theorem Zk(i:Nat)(l:List Oper):Bl P T (.region i l.toArray false) st Q=Xj P T l l st (IG Q):=by simp[Bl,JS]
theorem jkk(i:Nat)(l:List Oper):Bl P T (.region i l.toArray true) st Q=Kz P T l st (IG Q):=by simp[Bl,JS]
theorem jcp(a b:Code):Bl P T (.seq a b) st Q=Bl P T a st (DO (Bl P T b) Q):=rfl
theorem jgU(c:Operand)(x y:Code):Bl P T (.cond c x y) st Q=Ie (st.evB c) st (Bl P T x) (Bl P T y) Q:=rfl
theorem Yi(i:Nat)(c:Code):Bl P T (.block i c) st Q=Bl P T c st (Gf i Q):=rfl
theorem jeA(c:Code):Bl P T (.loop c) st Q=HN (Bl P T c) st Q:=rfl
theorem jeh(i:Nat):Bl P T (.exit i) st Q=Q (.exit i) st:=rfl
theorem jaU:Bl P T .ret st Q=Q .ret st:=rfl
theorem jha:Xj P T ops [] st K=K st:=rfl
theorem jft(o:Oper)(r:List Oper):Xj P T ops (o::r) st K=Ca P T ops o st (JB (Xj P T ops r) K):=rfl
variable (d:Option Nat) (ty:TypeId) (pos:String) (af:Array Edge) (g:Option (Nat×Bool))
theorem jcC(a:Op):Ca P T ops ⟨d,a,ty,pos,af,none⟩ st K=wpOp P T ⟨d,a,ty,pos,af,none⟩ st K:=rfl
def Hl(ops:List Oper)(j:Nat):Option Nat:=(ops[j]?).bind (·.dst)
def Tu(P:Program)(T:AH)(b:Option Nat)(a:Bool)(o:Oper)(st:St)(K:St->Prop):Prop:=
 match b with
 |some d=>EW d a (lk d st.t) st (wpOp P T o) (Gr o.dst) K
 |none=>False
theorem jeO(b:Op)(j:Nat)(a:Bool):Ca P T ops ⟨d,b,ty,pos,af,some (j,a)⟩ st K=Tu P T (Hl ops j) a ⟨d,b,ty,pos,af,some (j,a)⟩ st K:=rfl
theorem Xq(b:Nat)(e:Op)(j:Nat)(a:Bool):Tu P T (some b) a ⟨d,e,ty,pos,af,some (j,a)⟩ st K=
 EW b a (lk b st.t) st (wpOp P T ⟨d,e,ty,pos,af,some (j,a)⟩) (Gr d) K:=rfl
theorem jiU(o:Oper)(r:List Oper):Hl (o::r) 0=o.dst:=rfl
theorem ZT(o:Oper)(r:List Oper)(n:Nat):Hl (o::r) (n+1)=Hl r n:=rfl
theorem jhG(dst:Option Nat):Gr dst st K=K (st.put dst (.tup [])):=rfl
theorem jkM(dst:Option Nat)(ids:List Nat)(a:R):Jc dst ids K st a=K (st.back dst ids a):=rfl
variable (x y z:Operand) (t:TypeId)
theorem jjU:wpOp P T ⟨d,.move x,ty,pos,af,g⟩ st K=AI ((st.ev x).map λv=>st.put d v) K:=rfl
theorem ji9:wpOp P T ⟨d,.assign (.const (.slice none 0 0)),ty,pos,af,g⟩ st K=AI (GH T ty d st) K:=rfl
theorem jj0(i:Nat):wpOp P T ⟨d,.assign (.tmp i),ty,pos,af,g⟩ st K=AI ((lk i st.t).map λv=>st.put d v) K:=rfl
theorem je6(k:IntKind)(n:Int):wpOp P T ⟨d,.assign (.const (.int k n)),ty,pos,af,g⟩ st K=K (st.put d (vI k n)):=CR _ _
theorem ji7(b:Bool):wpOp P T ⟨d,.assign (.const (.bool b)),ty,pos,af,g⟩ st K=K (st.put d (vB b)):=CR _ _
theorem YI(b:ByteArray):wpOp P T ⟨d,.assign (.const (.string b)),ty,pos,af,g⟩ st K=K (st.put d (vC (.d (.str b)))):=CR _ _
theorem Y5:wpOp P T ⟨d,.assign (.const .nilFunc),ty,pos,af,g⟩ st K=K (st.put d (vC (.d .nilFn))):=CR _ _
theorem jb1(cs:Array Value):wpOp P T ⟨d,.assign (.const (.agg cs)),ty,pos,af,g⟩ st K=AI ((cVal (.agg cs)).map λv=>st.put d v) K:=rfl
theorem jiN(f:FuncId):wpOp P T ⟨d,.assign (.func f),ty,pos,af,g⟩ st K=AI ((st.ev (.func f)).map λv=>st.put d v) K:=rfl
theorem jfb:wpOp P T ⟨d,.pick x y z,ty,pos,af,g⟩ st K=AI ((st.evB x).bind λc=>(pickV c (st.ev y) (st.ev z)).map λv=>st.put d v) K:=rfl
theorem jaK:wpOp P T ⟨d,.alloc t,ty,pos,af,g⟩ st K=AI ((T t).bind λi=>mk d st (.box i.zero) λd=> .ptr d 0) K:=rfl
theorem jb7:wpOp P T ⟨d,.box t x,ty,pos,af,g⟩ st K=AI ((T t).bind λi=>(st.evU x).bind λu=>if u.cells.length=i.size then mk d st (Fq u) (λd=> .ptr d 0) else none) K:=rfl
@[simp]theorem jkX(c:Code)(st:St)(Q:Bk):Bl P T (.scope c) st Q=Bl P T c st (Hr Q):=rfl
@[simp]theorem jk0(l:Nat)(st:St)(Q:Bk):Bl P T (.label l) st Q=Q .normal st:=rfl
@[simp]theorem jkO(Q:Bk)(s:St):Hr Q .normal s=Q .normal s:=rfl
@[simp]theorem jlb(Q:Bk)(s:St):Hr Q .ret s=Q .ret s:=rfl
@[simp]theorem jk9(Q:Bk)(i:Nat)(s:St):Hr Q (.exit i) s=Q (.exit i) s:=rfl
@[simp]theorem boxOf_c(x:C):Fq (.c x)= .box [x]:=rfl
@[simp]theorem jlc(cs:List C):Fq (.agg cs)= .box cs:=rfl
@[simp]theorem jkQ(f:FuncId)(cs:List C):Fq (.clo f cs)= .fbox f cs:=rfl
theorem jgV(l:List (Nat×Operand)):wpOp P T ⟨d,.build t l.toArray,ty,pos,af,g⟩ st K=AI ((T t).bind λi=>(st.evUs l).bind λl=>(build T i l).map λu=>st.put d (.u u)) K:=rfl
theorem ja8(a:Nat)(l:List (Nat×Operand)):wpOp P T ⟨d,.buildSlice t a l.toArray,ty,pos,af,g⟩ st K=
  AI ((T t).bind λi=>i.sl.bind λe=>(T e).bind λj=>(st.evUs l).bind (FG j a d st)) K:=rfl
theorem XB:wpOp P T ⟨d,.load t x,ty,pos,af,g⟩ st K=AI ((T t).bind λi=>(st.evC x).bind λc=>(st.load i c).map λu=>st.put d (.u u)) K:=rfl
theorem jaC:wpOp P T ⟨d,.store t x y,ty,pos,af,g⟩ st K=AI ((T t).bind λi=>(st.evC x).bind λc=>(st.evU y).bind λu=>(st.store i c u).map λs=>s.put d (.tup [])) K:=rfl
theorem jgY:wpOp P T ⟨d,.nilCheck x,ty,pos,af,g⟩ st K=AI ((st.evC x).bind λc=>(nilChk c).map λc=>st.put d (vC c)) K:=rfl
theorem VB(e:BinOp)(f:TypeId)(k:Nat):wpOp P T ⟨d,.binOp e t x (.tmp k) f,ty,pos,af,g⟩ st K=AI ((st.ev x).bind λa=>(st.ev (.tmp k)).bind λb=>(binV T e t a b).map λv=>st.put d v) K:=rfl
theorem WA(e:BinOp)(f:TypeId)(k:IntKind)(n:Int):wpOp P T ⟨d,.binOp e t x (.const (.int k n)) f,ty,pos,af,g⟩ st K=AI ((st.ev x).bind λa=>(st.ev (.const (.int k n))).bind λb=>(binV T e t a b).map λv=>st.put d v) K:=rfl
theorem jaX(e:BinOp)(f:TypeId)(s:ByteArray):wpOp P T ⟨d,.binOp e t x (.const (.string s)) f,ty,pos,af,g⟩ st K=AI ((st.ev x).bind λa=>(st.ev (.const (.string s))).bind λb=>(binV T e t a b).map λv=>st.put d v) K:=rfl
theorem Um(e:BinOp)(f:TypeId)(b:Bool):wpOp P T ⟨d,.binOp e t x (.const (.bool b)) f,ty,pos,af,g⟩ st K=AI ((st.ev x).bind λa=>(st.ev (.const (.bool b))).bind λb=>(binV T e t a b).map λv=>st.put d v) K:=rfl
theorem Wv(e:BinOp)(f:TypeId):wpOp P T ⟨d,.binOp e t x (.const .nilFunc) f,ty,pos,af,g⟩ st K=AI ((st.ev x).bind λa=>(st.ev (.const .nilFunc)).bind λb=>(binV T e t a b).map λv=>st.put d v) K:=rfl
theorem jcr(e:BinOp)(f:TypeId)(q:Option Addr):wpOp P T ⟨d,.binOp e t x (.const (.pointer q)) f,ty,pos,af,g⟩ st K=AI ((st.ev x).bind λa=>(st.ev (.const (.pointer q))).bind λb=>(binV T e t a b).map λv=>st.put d v) K:=rfl
theorem Wp(e:BinOp)(f:TypeId)(q:Option Addr)(m c:Nat):wpOp P T ⟨d,.binOp e t x (.const (.slice q m c)) f,ty,pos,af,g⟩ st K=AI ((st.ev x).bind λa=>(st.ev (.const (.slice q m c))).bind λb=>(binV T e t a b).map λv=>st.put d v) K:=rfl
theorem Y0(a:BinOp)(b:TypeId):wpOp P T ⟨d,.binOp a t x (.const .nilIface) b,ty,pos,af,g⟩ st K=AI ((st.evC x).bind λc=>(FO T a t c).map λv=>st.put d v) K:=rfl
theorem ZG:wpOp P T ⟨d,.unOp .not t x,ty,pos,af,g⟩ st K=AI ((st.evB x).map λb=>st.put d (vB !b)) K:=rfl
theorem jfY:wpOp P T ⟨d,.unOp .neg t x,ty,pos,af,g⟩ st K=AI ((st.evI x).bind λp=>(DJ p.1 (0 - p.2)).map λv=>st.put d v) K:=rfl
theorem jjx(a:TypeId):wpOp P T ⟨d,.convert t a x,ty,pos,af,g⟩ st K=AI ((T t).bind λj=>(T a).bind λi=>(st.evC x).bind λc=>(convC T st.h j i c).map λv=>st.put d v) K:=rfl
theorem jkf:wpOp P T ⟨d,.makeInterface t x,ty,pos,af,g⟩ st K=AI ((T t).bind λi=>(st.evU x).bind λu=>(ifaceOf i t u).map λc=>st.put d (vC c)) K:=rfl
theorem ZS(a:TypeId):wpOp P T ⟨d,.typeAssert x a t true,ty,pos,af,g⟩ st K=AI ((T t).bind λi=>(st.evC x).bind λc=>(assertOf i t c).map λv=>st.put d v) K:=rfl
theorem jcF:wpOp P T ⟨d,.makeSlice t x y,ty,pos,af,g⟩ st K=AI ((T t).bind λi=>i.sl.bind λe=>(T e).bind λj=>(st.evI x).bind λl=>(st.evI y).bind λc=>FC j d st l.2 c.2) K:=rfl
theorem YF(lo hi:Option Operand):wpOp P T ⟨d,.slice t x lo hi none,ty,pos,af,g⟩ st K=
  AI ((T t).bind λi=>(st.evC x).bind λc=>(st.evO lo).bind λl=>(st.evO hi).bind λh=>
   (match i.sl with|some e=>(T e).bind λj=>sliceV st.h c l h j.size|none=>if Ce i then sliceS c l h else none).map λv=>st.put d (vC v)) K:=rfl
theorem jgs(f:Nat):wpOp P T ⟨d,.fieldAddr t x f,ty,pos,af,g⟩ st K=AI ((T t).bind λi=>(st.evC x).bind λc=>(i.flds[f]?).bind λp=>(T p.2).bind λj=>if j.size=0 then none else (fldAddr p.1 c).map λc=>st.put d (vC c)) K:=rfl
theorem W9(f:Nat):wpOp P T ⟨d,.field t x f,ty,pos,af,g⟩ st K=AI ((T t).bind λi=>(st.evU x).bind λu=>(fieldOf T i f u).map λu=>st.put d (.u u)) K:=rfl
theorem jbe:wpOp P T ⟨d,.indexAddr t x y,ty,pos,af,g⟩ st K=AI ((T t).bind λa=>(st.evC x).bind λc=>(st.evI y).bind λn=>(idxAddr T st.h a n.2 c).map λc=>st.put d (vC c)) K:=rfl
theorem jku:wpOp P T ⟨d,.index t x y,ty,pos,af,g⟩ st K=AI ((T t).bind λa=>(st.evU x).bind λu=>(st.evI y).bind λn=>(indexOf T a n.2 u).map λu=>st.put d (.u u)) K:=rfl
theorem Yg:wpOp P T ⟨d,.makeMap t none,ty,pos,af,g⟩ st K=AI ((T t).bind λi=>if i.mp then mk d st (.mp (.mp [])) λd=> .mp false d else none) K:=rfl
theorem jfT(c:Bool):wpOp P T ⟨d,.lookup t x y c,ty,pos,af,g⟩ st K=AI ((T t).bind λi=>if i.mp then (st.evC x).bind λm=>(st.evC y).bind λk=>Hh st d c i.mpi m k else none) K:=rfl
theorem XO(z:Operand):wpOp P T ⟨d,.mapUpdate t x y z,ty,pos,af,g⟩ st K=AI ((T t).bind λi=>if i.mp then (st.evC x).bind λm=>(st.evC y).bind λk=>(st.evC z).bind λx=>G7 st d i.mpi m k x else none) K:=rfl
theorem jhf:wpOp P T ⟨d,.range t x,ty,pos,af,g⟩ st K=AI ((T t).bind λi=>if Ce i=true then (st.evC x).bind λc=>c.str?.bind λs=>mk d st (.mp (.it s 0)) λd=> .mp true d else none) K:=rfl
theorem jg0:wpOp P T ⟨d,.next x true,ty,pos,af,g⟩ st K=AI ((st.evC x).bind λc=>GN st d c) K:=rfl
theorem Xs(i:Nat):wpOp P T ⟨d,.extract x i,ty,pos,af,g⟩ st K=AI ((st.ev x).bind λv=>(tupAt i v).map λu=>st.put d (.u u)) K:=rfl
theorem jcZ(f:FuncId)(caps:List Operand):wpOp P T ⟨d,.makeFunc (.func f) #[] caps.toArray,ty,pos,af,g⟩ st K=
  AI ((caps.mapM st.evC).map λcs=>st.put d (.u (clo st.h f cs))) K:=rfl
theorem jiI(b:Builtin)(args:List Operand)(a:List TypeId):wpOp P T ⟨d,.call ⟨.builtin b,args.toArray,a.toArray⟩,ty,pos,af,g⟩ st K=
  AI (FK T b a args d st) K:=rfl
theorem Yu(f:Operand)(args:List Operand)(a:Array TypeId):wpOp P T ⟨d,.call ⟨.value f,args.toArray,a⟩,ty,pos,af,g⟩ st K=
  AI (st.evU f) (Eh P d args st K):=rfl
end
def St.num(st:St)(t:Nat):Int:=
 match lk t st.t with
 |some (.u (.c (.d (.int _ n))))=>n
 |_=>0
def Mm{α:Type}(f:α->St)(p:α->Prop)(μ:α->Nat)(s:St)(n:Nat):Prop:= ∃x,s=f x/\p x/\μ x=n
theorem CE(b:List (Nat×Nat))(f:α->St)(p:α->Prop)(μ:α->Nat)(e:α){st:St}{Q:Bk}(g:(f e).le (rns b st))(i:p e)
  (h: ∀x,p x->a (f x) (DO (Kw (Mm f p μ) b (μ x)) Q)):HN a st Q:=
 ⟨Mm f p μ,b,⟨_,_,g,e,rfl,i,rfl⟩,λ_ _ ⟨x,j,k,l⟩=>O3⟩
theorem AV(f:α->St)(p:α->Prop)(μ:α->Nat)(b:α){st:St}{Q:Bk}(e:(f b).le st)(g:p b)
  (h: ∀x,p x->a (f x) (DO (Kw (Mm f p μ) [] (μ x)) Q)):HN a st Q:=CE [] f p μ b e g h
@[simp]theorem jnK(f:α->St)(p:α->Prop)(μ:α->Nat)(g:List (Nat×Nat))(n:Nat)(s:St)(Q:Bk):Kw (Mm f p μ) g n s Q↔ ∃y,(f y).le (rns g s)/\p y/\μ y<n:=
 ⟨λ⟨_,_,a,⟨y,b,e,h⟩,i⟩=>⟨y,b ▸ a,e,h ▸ i⟩,λ⟨y,a,b,e⟩=>⟨_,_,a,⟨y,rfl,b,rfl⟩,e⟩⟩
@[simp]theorem rns_nil(s:St):rns [] s=s:=rfl
@[simp]theorem rns_cons(i j:Nat)(r:List (Nat×Nat))(s:St):rns ((i,j)::r) s=rns r (s.rn i j):=rfl
def JY(i j:Nat)(st:St)(b:Option Blk):St:=
 match b with
 |none=>st
 |some b=>{ st.on (C0 i j)with h:=(i,b.on (C0 i j))::rm i (rm j (st.on (C0 i j)).h) }
@[simp]theorem rn_eq(i j:Nat)(st:St):st.rn i j=if i=j then st else JY i j st (lk j st.h):=by
 rfl
@[simp]theorem rnB_none(i j:Nat)(st:St):JY i j st none=st:=rfl
@[simp]theorem rnB_some(i j:Nat)(st:St)(b:Blk):JY i j st (some b)={ st.on (C0 i j)with h:=(i,b.on (C0 i j))::rm i (rm j (st.on (C0 i j)).h) }:=rfl
section
variable (st:St) (k1 k2:St->Bk->Prop) (Q:Bk)
@[simp high]theorem jnL:Ie (some true) st k1 k2 Q=k1 st Q:=by simp[Ie]
@[simp high]theorem jnB:Ie (some false) st k1 k2 Q=k2 st Q:=by simp[Ie]
end
section
variable (d:Nat) (st:St) (k1 k2:St->(St->Prop)->Prop) (K:St->Prop)
@[simp high]theorem gateV_tt:EW d true (some (.u (.c (.d (.bool true))))) st k1 k2 K=k1 (st.put (some d) (vB true)) K:=by simp[jcN]
@[simp high]theorem gateV_tf:EW d true (some (.u (.c (.d (.bool false))))) st k1 k2 K=k2 (st.put (some d) (vB false)) K:=by simp[jcN]
@[simp high]theorem gateV_ft:EW d false (some (.u (.c (.d (.bool true))))) st k1 k2 K=k2 (st.put (some d) (vB true)) K:=by simp[jcN]
@[simp high]theorem gateV_ff:EW d false (some (.u (.c (.d (.bool false))))) st k1 k2 K=k1 (st.put (some d) (vB false)) K:=by simp[jcN]
end
@[simp]theorem splice_z(l:List α):splice 0 [] l=l:=by simp[splice]
@[simp]theorem jnF(a b:α)(r l:List α):splice 0 (a::r) (b::l)=a::splice 0 r l:=by simp[splice]
@[simp]theorem splice_s(n:Nat)(b:α)(r l:List α):splice (n+1) r (b::l)=b::splice n r l:=by simp[splice,Nat.add_right_comm]
@[simp]theorem to_sl(i k o n:Nat):C.to i (.sl k o n)= .sl i o n:=rfl
@[simp]theorem to_ptr(i k o:Nat):C.to i (.ptr k o)= .ptr i o:=rfl
@[simp]theorem i64_min:IntKind.i64.min= -9223372036854775808:=O2
theorem jcj(k:Nat):lk k ([]:List (Nat×α))=none:=rfl
theorem jka(k j:Nat)(v:α)(r:List (Nat×α)):lk k ((j,v)::r)=cond (j==k) (some v) (lk k r):=by
 grind[lk]
theorem jdS(k:Nat):rm k ([]:List (Nat×α))=[]:=rfl
theorem jdx(k j:Nat)(v:α)(r:List (Nat×α)):rm k ((j,v)::r)=cond (j==k) (rm k r) ((j,v)::rm k r):=by
 grind[rm]
@[simp]theorem binV_add(T:AH)(t:TypeId)(k k':IntKind)(a b:Int):binV T .add t (.u (.c (.d (.int k a)))) (.u (.c (.d (.int k' b))))=if k=k' then binI .add k a b else none:=rfl
@[simp]theorem binV_sub(T:AH)(t:TypeId)(k k':IntKind)(a b:Int):binV T .sub t (.u (.c (.d (.int k a)))) (.u (.c (.d (.int k' b))))=if k=k' then binI .sub k a b else none:=rfl
@[simp]theorem binV_mul(T:AH)(t:TypeId)(k k':IntKind)(a b:Int):binV T .mul t (.u (.c (.d (.int k a)))) (.u (.c (.d (.int k' b))))=if k=k' then binI .mul k a b else none:=rfl
@[simp]theorem binV_quo(T:AH)(t:TypeId)(k k':IntKind)(a b:Int):binV T .quo t (.u (.c (.d (.int k a)))) (.u (.c (.d (.int k' b))))=if k=k' then binI .quo k a b else none:=rfl
@[simp]theorem binV_rem(T:AH)(t:TypeId)(k k':IntKind)(a b:Int):binV T .rem t (.u (.c (.d (.int k a)))) (.u (.c (.d (.int k' b))))=if k=k' then binI .rem k a b else none:=rfl
@[simp]theorem binV_and(T:AH)(t:TypeId)(k k':IntKind)(a b:Int):binV T .and t (.u (.c (.d (.int k a)))) (.u (.c (.d (.int k' b))))=if k=k' then binI .and k a b else none:=rfl
@[simp]theorem binV_or(T:AH)(t:TypeId)(k k':IntKind)(a b:Int):binV T .or t (.u (.c (.d (.int k a)))) (.u (.c (.d (.int k' b))))=if k=k' then binI .or k a b else none:=rfl
@[simp]theorem binV_xor(T:AH)(t:TypeId)(k k':IntKind)(a b:Int):binV T .xor t (.u (.c (.d (.int k a)))) (.u (.c (.d (.int k' b))))=if k=k' then binI .xor k a b else none:=rfl
@[simp]theorem jk5(T:AH)(t:TypeId)(k k':IntKind)(a b:Int):binV T .andNot t (.u (.c (.d (.int k a)))) (.u (.c (.d (.int k' b))))=if k=k' then binI .andNot k a b else none:=rfl
@[simp]theorem binV_eql(T:AH)(t:TypeId)(k k':IntKind)(a b:Int):binV T .eql t (.u (.c (.d (.int k a)))) (.u (.c (.d (.int k' b))))=if k=k' then binI .eql k a b else none:=rfl
@[simp]theorem binV_neq(T:AH)(t:TypeId)(k k':IntKind)(a b:Int):binV T .neq t (.u (.c (.d (.int k a)))) (.u (.c (.d (.int k' b))))=if k=k' then binI .neq k a b else none:=rfl
@[simp]theorem binV_lss(T:AH)(t:TypeId)(k k':IntKind)(a b:Int):binV T .lss t (.u (.c (.d (.int k a)))) (.u (.c (.d (.int k' b))))=if k=k' then binI .lss k a b else none:=rfl
@[simp]theorem binV_leq(T:AH)(t:TypeId)(k k':IntKind)(a b:Int):binV T .leq t (.u (.c (.d (.int k a)))) (.u (.c (.d (.int k' b))))=if k=k' then binI .leq k a b else none:=rfl
@[simp]theorem binV_gtr(T:AH)(t:TypeId)(k k':IntKind)(a b:Int):binV T .gtr t (.u (.c (.d (.int k a)))) (.u (.c (.d (.int k' b))))=if k=k' then binI .gtr k a b else none:=rfl
@[simp]theorem binV_geq(T:AH)(t:TypeId)(k k':IntKind)(a b:Int):binV T .geq t (.u (.c (.d (.int k a)))) (.u (.c (.d (.int k' b))))=if k=k' then binI .geq k a b else none:=rfl
@[simp]theorem jkR(T:AH)(e:BinOp)(t:TypeId)(a b:Bool):binV T e t (.u (.c (.d (.bool a)))) (.u (.c (.d (.bool b))))=(T t).bind λi=>(EJ i (.u (.c (.d (.bool a)))) (.u (.c (.d (.bool b))))).bind (GC e):=rfl
@[simp]theorem binV_agg(T:AH)(e:BinOp)(t:TypeId)(a b:List C):binV T e t (.u (.agg a)) (.u (.agg b))=(T t).bind λi=>(EJ i (.u (.agg a)) (.u (.agg b))).bind (GC e):=rfl
@[simp]theorem binV_fn(T:AH)(a:BinOp)(t:TypeId)(f:FuncId)(l:List D):binV T a t (.u (.c (.d (.fn f l)))) (.u (.c (.d .nilFn)))=(T t).bind λi=>(EJ i (.u (.c (.d (.fn f l)))) (.u (.c (.d .nilFn)))).bind (GC a):=rfl
@[simp]theorem jkZ(T:AH)(a:BinOp)(t:TypeId):binV T a t (.u (.c (.d .nilFn))) (.u (.c (.d .nilFn)))=(T t).bind λi=>(EJ i (.u (.c (.d .nilFn))) (.u (.c (.d .nilFn)))).bind (GC a):=rfl
@[simp]theorem cVal_int(k:IntKind)(n:Int):cVal (.int k n)=some (.u (.c (.d (.int k n)))):=rfl
@[simp]theorem jkP(b:Bool):cVal (.bool b)=some (.u (.c (.d (.bool b)))):=rfl
@[simp]theorem cVal_str(s:ByteArray):cVal (.string s)=some (.u (.c (.d (.str s)))):=rfl
@[simp]theorem cVal_nl:cVal (.slice none 0 0)=some (.u (.c .nl)):=rfl
@[simp]theorem jld:cVal (.pointer none)=some (.u (.c (.d .nilPtr))):=rfl
@[simp]theorem jk7:cVal .nilFunc=some (.u (.c (.d .nilFn))):=rfl
@[simp]theorem onC_d(g:Nat->C->C)(x:D):C.on g (.d x)= .d x:=rfl
@[simp]theorem onC_nl(g:Nat->C->C):C.on g .nl= .nl:=rfl
@[simp]theorem onC_bad(g:Nat->C->C):C.on g .bad= .bad:=rfl
@[simp]theorem idC_d(x:D):C.id? (.d x)=none:=rfl
@[simp]theorem idC_nl:C.id? .nl=none:=rfl
@[simp]theorem idC_bad:C.id? .bad=none:=rfl
@[simp]theorem jlj(k:IntKind)(n:Int):D.flat (.int k n)=true:=rfl
@[simp]theorem jk8(b:Bool):D.flat (.bool b)=true:=rfl
@[simp]theorem jkU(s:ByteArray):D.flat (.str s)=true:=rfl
@[simp]theorem jlg:D.flat .nilFn=true:=rfl
@[simp]theorem jla:D.flat .nilPtr=true:=rfl
@[simp]theorem res_nil(T:AH)(st:St):st.res T []=some (.tup []):=rfl
@[simp]theorem res_one(T:AH)(st:St)(a:ResultVar):st.res T [a]=(st.resU T a).map .u:=rfl
@[simp]theorem isPtr_d(x:D):EU (.d x)=false:=rfl
@[simp]theorem isPtr_nl:EU .nl=false:=rfl
@[simp]theorem jkV:EU .bad=false:=rfl
@[simp]theorem isPtr_sl(i o n:Nat):EU (.sl i o n)=false:=rfl
@[simp]theorem jli(i o:Nat):EU (.ptr i o)=true:=rfl
@[simp]theorem res_two(T:AH)(st:St)(a b:ResultVar)(r:List ResultVar):st.res T (a::b::r)=((a::b::r).mapM (st.resU T)).map .tup:=rfl
@[simp]theorem onC_sl(g:Nat->C->C)(i o n:Nat):C.on g (.sl i o n)=g i (.sl i o n):=rfl
@[simp]theorem onC_ptr(g:Nat->C->C)(i o:Nat):C.on g (.ptr i o)=g i (.ptr i o):=rfl
@[simp]theorem onC_mp(g:Nat->C->C)(q:Bool)(i:Nat):C.on g (.mp q i)=g i (.mp q i):=rfl
@[simp]theorem idC_mp(q:Bool)(i:Nat):C.id? (.mp q i)=some i:=rfl
@[simp]theorem toC_mp(q:Bool)(i j:Nat):C.to i (.mp q j)= .mp q i:=rfl
@[simp]theorem ld_row(sz:Nat)(cs:List D)(app:Bool)(off:Nat):Blk.ld (.row sz cs app) off=(cs[off]?).map λx=> .c (.d x):=rfl
@[simp]theorem ld_box(cs:List C)(off:Nat):Blk.ld (.box cs) off=(cs[off]?).map .c:=rfl
@[simp]theorem ld_fbox(f:FuncId)(cs:List C):Blk.ld (.fbox f cs) 0=some (.clo f cs):=rfl
@[simp]theorem storeU_c(b off:Nat)(x:C)(st:St)(k:Blk):st.storeU b off (.c x) k=st.storeB b off [x] k:=rfl
@[simp]theorem jle(b off:Nat)(a:List C)(st:St)(k:Blk):st.storeU b off (.agg a) k=st.storeB b off a k:=rfl
@[simp]theorem jk3(b:Nat)(f:FuncId)(cs:List C)(st:St)(c:C):st.storeU b 0 (.clo f cs) (.box [c])=some (st.blk b (.fbox f cs)):=rfl
@[simp]theorem jk6(f:FuncId)(cs:List C):U.cells (.clo f cs)=[.bad]:=rfl
@[simp]theorem jk1(x:Value):D.flat (.lit x)=true:=rfl
@[simp]theorem jlf:D.flat .any=true:=rfl
@[simp]theorem YS_eq:YS=1000000:=rfl
attribute [simp ↓] Yt jgR CR
attribute [simp ↓] V0 Zk jkk jcp jgU Yi jeA jeh jaU jha jft jcC jeO Xq
attribute [simp] jiU ZT jhG jkM
 jjU ji9 jj0 je6 ji7 YI Y5 jb1 jiN jfb jaK jb7 jgV ja8 XB jaC jgY VB WA jaX Um Wv jcr Wp Y0 FO ZG jfY
 jjx jkf ZS ifaceOf.eq_1 assertOf.eq_1 C.pure?.eq_1 C.pure?.eq_2 convC.eq_1 jcF YF jgs W9 jbe jku Yg jfT XO jhf jg0 HO Hh G7 KL GN Va.found C.str? Xs jcZ jiI Yu
 St.init CJ A.toV St.ev St.put jdS jdx jcj jka St.new St.purge Bm St.on St.blk C0 cVal.eq_1 vC V.on U.on C.on.eq_1 C.on.eq_2 Blk.on St.evC St.evI St.evB St.evU St.evUs St.evO lenC.eq_1 lenC.eq_2 lenC.eq_3 lenS.eq_1 Ce jao jkG Mg M0
 jhH YG YE jjY jct jho jg4 Wu jbI jcN Rm vI vB cCell.eq_1 cCell.eq_2 cCell.eq_3 cCell.eq_4 cCell.eq_5 cCell.eq_6 binV.eq_1 binV.eq_2 binV.eq_4 binI.eq_1 binI.eq_2 binI.eq_3 binI.eq_4 binI.eq_5 binI.eq_6 binI.eq_7 binI.eq_8 binI.eq_9 binI.eq_10 binI.eq_11 binI.eq_12 binI.eq_13 binI.eq_14 binI.eq_15 DJ Dz HW sliceV.eq_1 sliceV.eq_2 sliceV.eq_3 sliceS.eq_1 Gb St.load.eq_1 St.load.eq_2 St.store.eq_1 St.storeB build Blk.rd Blk.at DE mk Qy Kk F3 rep GH FG FC nilChk.eq_1 nilChk.eq_2 nilChk.eq_3 fldAddr.eq_1 fldAddr.eq_2 isRow idxSl.eq_1 idxSl.eq_2 idxArr.eq_1 idxArr.eq_2 idxAddr part fieldOf.eq_1 indexOf.eq_1 indexOf.eq_2 tupAt.eq_1 LY pickV G3 copyTo.eq_1 CP St.appGo
 U.cells.eq_1 U.cells.eq_2 St.le AW cut St.num St.shut St.cD toD DZ C.id?.eq_1 C.id?.eq_2 St.app.eq_1 St.app.eq_2 St.src.eq_1 St.src.eq_2 St.src.eq_3 KV Oz Yk jbQ jeF jfi clo St.drop U.all St.argsW U.toA St.reachU Du Ds St.freezeK St.freeze St.sealW HU fitV.eq_1 fitV.eq_2 fitU.eq_1 fitU.eq_2 fitC.eq_1 fitC.eq_2 fitC.eq_3 fitL.eq_1 fitL.eq_2 St.resU R.rows RU.rows RC.rows St.back R.flat RU.flat RC.flat D.flat.eq_1 D.flat.eq_2 D.flat.eq_3 R.imp RU.imp RC.imp
 IntKind.signed IntKind.bits shiftI.eq_1 shiftI.eq_2 JM Ey EJ GC DL FK
end Go.Va
namespace Go.Va
variable [DrC]
section
variable {P:Program} {T:AH} {st:St} {k:Eff->Prop} {ops:List Oper} {d:Option Nat} {n:Nat} {ty:TypeId} {pos:String} {af:Array Edge} {g:Option (Nat×Bool)} {x y:Operand} {t:TypeId}
theorem jeZ(a:Op):CN P T ops ⟨d,a,ty,pos,af,none⟩ st k=Bo P T ⟨d,a,ty,pos,af,none⟩ st k:=rfl
def PL(P:Program)(T:AH)(b:Option Nat)(a:Bool)(o:Oper)(st:St)(k:Eff->Prop):Prop:=
 match b with
 |some d=>CS a (lk d st.t) (Bo P T o st k) (k (.val (.tup [])))
 |none=>False
theorem jb9(b:Op)(j:Nat)(a:Bool):CN P T ops ⟨d,b,ty,pos,af,some (j,a)⟩ st k=PL P T (Hl ops j) a ⟨d,b,ty,pos,af,some (j,a)⟩ st k:=rfl
theorem jep(b:Nat)(e:Op)(j:Nat)(a:Bool):PL P T (some b) a ⟨d,e,ty,pos,af,some (j,a)⟩ st k=CS a (lk b st.t) (Bo P T ⟨d,e,ty,pos,af,some (j,a)⟩ st k) (k (.val (.tup []))):=rfl
theorem jdY(a b:Bool)(k1 k2:Prop):CS a (some (.u (.c (.d (.bool b))))) k1 k2=((b=a->k1)/\(b= !a->k2)):=rfl
theorem WJ(a:Bool)(k1 k2:Prop):CS a (some (.tup [])) k1 k2=k2:=rfl
@[simp high]theorem gateE_tt(k1 k2:Prop):CS true (some (.u (.c (.d (.bool true))))) k1 k2=k1:=by simp[CS]
@[simp high]theorem gateE_tf(k1 k2:Prop):CS true (some (.u (.c (.d (.bool false))))) k1 k2=k2:=by simp[CS]
@[simp high]theorem gateE_ft(k1 k2:Prop):CS false (some (.u (.c (.d (.bool true))))) k1 k2=k2:=by simp[CS]
@[simp high]theorem gateE_ff(k1 k2:Prop):CS false (some (.u (.c (.d (.bool false))))) k1 k2=k1:=by simp[CS]
theorem jiv(a:List Oper)(S:St)(fin:List Oper->St->Prop):BH P T ops [] a S fin=fin a S:=rfl
section
variable (rd nh bad ks:List Nat) (is:List DI) (o:Oper) (r:List Oper) (S:St) (fin:List Oper->St->Prop)
theorem jfy:BH P T ops (⟨0,rd,nh,bad,ks⟩::is) (o::r) S fin=CN P T ops o (seen ⟨0,rd,nh,bad,ks⟩ S) (Cu ⟨0,rd,nh,bad,ks⟩ o.dst S λa=>BH P T ops is r a fin):=O5
theorem V4:BH P T ops (⟨1,rd,nh,bad,ks⟩::is) (o::r) S fin=CN P T ops o (seen ⟨1,rd,nh,bad,ks⟩ S) (Cu ⟨1,rd,nh,bad,ks⟩ o.dst S λa=>BH P T ops is r a fin):=O5
theorem jg3:BH P T ops (⟨2,rd,nh,bad,ks⟩::is) (o::r) S fin=CN P T ops o (seen ⟨2,rd,nh,bad,ks⟩ S) (Cu ⟨2,rd,nh,bad,ks⟩ o.dst S λa=>BH P T ops is r a fin):=O5
theorem jd9:BH P T ops (⟨3,rd,nh,bad,ks⟩::is) (o::r) S fin=CN P T ops o (seen ⟨3,rd,nh,bad,ks⟩ S) (Cu ⟨3,rd,nh,bad,ks⟩ o.dst S λa=>BH P T ops is r a fin):=O5
theorem jiP:BH P T ops (⟨5,rd,nh,bad,ks⟩::is) (o::r) S fin=Fb P o (seen ⟨5,rd,nh,bad,ks⟩ S) (Cu ⟨5,rd,nh,bad,ks⟩ o.dst S λa=>BH P T ops is r a fin):=O5
theorem V1:BH P T ops (⟨4,rd,nh,bad,ks⟩::is) (o::r) S fin=Dx T ops o (seen ⟨4,rd,nh,bad,ks⟩ S) (Cu ⟨4,rd,nh,bad,ks⟩ o.dst S λa=>BH P T ops is r a fin):=if_pos rfl
end
theorem Ym(a:Nat)(b:List (Nat×Operand)):Dx T ops ⟨some n,.buildSlice t a b.toArray,ty,pos,af,none⟩ st k=
  AI ((T t).bind λi=>i.sl.bind λe=>(T e).bind λj=>(st.evUs b).bind λl=>
  if a*j.size<=10000/\a<=10000 then (DE (F3 j.size) (rep a j.zero) l).bind λcs=>
   if j.size=1/\cs.any EU=true then none else
   if GD cs then (cs.mapM (toD (λ_=>false) st.h 4)).bind λds=>if ds.length=a*j.size then some (.dat (.slice a ds)) else none else none
  else none) k:=rfl
def R4(T:AH)(b:Option Nat)(a:Bool)(o:Oper)(st:St)(k:Eff->Prop):Prop:=
 match b with
 |some d=>CS a (lk d st.t) (AI (GG T o st) k) (k (.val (.tup [])))
 |none=>False
theorem XJ(b:Op)(j:Nat)(a:Bool):Dx T ops ⟨d,b,ty,pos,af,some (j,a)⟩ st k=R4 T (Hl ops j) a ⟨d,b,ty,pos,af,some (j,a)⟩ st k:=rfl
theorem jgO(b:Nat)(e:Op)(j:Nat)(a:Bool):R4 T (some b) a ⟨d,e,ty,pos,af,some (j,a)⟩ st k=CS a (lk b st.t) (Dx T [] ⟨d,e,ty,pos,af,none⟩ st k) (k (.val (.tup []))):=rfl
theorem ja5(kk:Nat)(rd nh bad ks:List Nat)(d:Option Nat)(S:St)(K:St->Prop)(x:D):Cu ⟨kk,rd,nh,bad,ks⟩ d S K (.dat x)=((kk==4||kk==6)=true/\K (S.put d (vC (.d x)))):=rfl
theorem WP(k:Nat)(rd nh bad ks:List Nat)(d:Option Nat)(S:St)(K:St->Prop)(v:V):Cu ⟨k,rd,nh,bad,ks⟩ d S K (.val v)=(B7 bad v=true/\K (S.put d v)):=rfl
theorem jhC(k:Nat)(rd nh bad ks:List Nat)(d:Nat)(S:St)(K:St->Prop)(b:Blk)(v:V):Cu ⟨k,rd,nh,bad,ks⟩ (some d) S K (.new b v)=(((k==1||k==3||k==5)&&(B7 bad v&&DS (d::bad) b))=true/\K ((S.blk d b).put (some d) v)):=rfl
theorem jhe(k:Nat)(rd nh bad ks:List Nat)(d:Option Nat)(S:St)(K:St->Prop)(i:Nat)(b:Blk):Cu ⟨k,rd,nh,bad,ks⟩ d S K (.put i b)=((k==2&&(ks.contains i&&DS bad b))=true/\K ((S.blk i b).put d (.tup []))):=rfl
theorem jas(k:Nat)(rd nh bad ks:List Nat)(d:Nat)(S:St)(K:St->Prop)(i:Nat)(b:Blk)(v:V):Cu ⟨k,rd,nh,bad,ks⟩ (some d) S K (.app i b v)=(((k==3||k==5)&&(ks.contains i&&(B7 bad v&&DS (d::bad) b)))=true/\K (((S.drop i).blk d b).put (some d) v)):=rfl
theorem jjT(a:List Oper)(K:St->Prop)(st:St):DY P T ops [] a K st=K st:=rfl
theorem jik(r:List Seg)(o:Oper)(a:List Oper)(K:St->Prop)(st:St):DY P T ops (.one::r) (o::a) K st=Ca P T ops o st (DY P T ops r a K):=rfl
theorem ja2(ids ds:List Nat)(is:List DI)(r:List Seg)(a:List Oper)(K:St->Prop)(st:St):
  DY P T ops (.any ids ds is::r) a K st=BH P T ops is a (purges ds (st.freeze ids)) λb s=>DY P T ops r b K s:=rfl
theorem jjQ(s:St):purges [] s=s:=rfl
theorem WF(i:Nat)(l:List Nat)(s:St):purges (i::l) s=purges l (s.purge i):=rfl
theorem V6(v:V):B7 [] v=true:=rfl
theorem jkF(l:List Nat)(x:D):B7 l (.u (.c (.d x)))=true:=jzy.2 λ_ _=>rfl
theorem jgF(l:List Nat):B7 l (.u (.c .nl))=true:=jzy.2 λ_ _=>rfl
theorem jiq(l:List Nat)(i o:Nat):B7 l (.u (.c (.ptr i o)))=l.all λd=>i !=d:=by
 rfl
theorem jce(l:List Nat)(i o n:Nat):B7 l (.u (.c (.sl i o n)))=l.all λd=>i !=d:=by
 rfl
theorem jfU(l:List Nat)(cs:List C):B7 l (.u (.agg cs))=l.all λd=> !cs.any (C.men d):=rfl
theorem jhY(l:List Nat)(f:FuncId)(cs:List C):B7 l (.u (.clo f cs))=l.all λd=> !cs.any (C.men d):=rfl
theorem WV(l:List Nat)(a:List U):B7 l (.tup a)=l.all λd=> !a.any (U.men d):=rfl
theorem U6(l:List Nat)(sz:Nat)(cs:List D)(a:Bool):DS l (.row sz cs a)=true:=jzy.2 λ_ _=>rfl
theorem YW(l:List Nat)(cs:List C):DS l (.box cs)=l.all λd=> !cs.any (C.men d):=rfl
theorem jh5(l:List Nat)(f:FuncId)(cs:List C):DS l (.fbox f cs)=l.all λd=> !cs.any (C.men d):=rfl
theorem jaZ(l:List Nat)(x:Value)(a:List (List A)):B7 l (.tr x a)=true:=jzy.2 λ_ _=>rfl
theorem jbz(d:Nat)(x:D):C.men d (.d x)=false:=rfl
theorem jbH(d:Nat):C.men d .nl=false:=rfl
theorem VG(d:Nat):C.men d .bad=false:=rfl
theorem Xr(d i o n:Nat):C.men d (.sl i o n)=(i==d):=rfl
theorem jiE(d:Nat)(q:Bool)(i:Nat):C.men d (.mp q i)=(i==d):=rfl
theorem jdO(l:List Nat)(x:Ob):DS l (.mp x)=true:=jzy.2 λ_ _=>rfl
theorem Z4(l:List Nat)(q:Bool)(i:Nat):B7 l (.u (.c (.mp q i)))=l.all λd=>i !=d:=by
 rfl
theorem jeP(d i o:Nat):C.men d (.ptr i o)=(i==d):=rfl
theorem jjF(d:Nat)(c:C):U.men d (.c c)=C.men d c:=rfl
theorem jdQ(d:Nat)(cs:List C):U.men d (.agg cs)=cs.any (C.men d):=rfl
def selT(rd:List Nat):List (Nat×V)->List (Nat×V)
 |[]=>[]
 |(k,v)::r=>cond (rd.contains k) ((k,v)::selT rd r) (selT rd r)
theorem R1(rd:List Nat): ∀l,selT rd l=l.filter λe=>rd.contains e.1
 |[]=>rfl
 |(k,v)::r=>by
  rw[List.filter_cons,selT,R1 rd r];simp
def Gh:List Nat->Nat->Bool
 |[],_=>false
 |a::r,k=>cond (k==a) true (Gh r k)
theorem Lo: ∀(l:List Nat) (k:Nat),l.contains k=Gh l k
 |[],_=>rfl
 |a::r,k=>by
  rw[List.contains_cons,Gh,Lo r k];rfl
theorem jbd(k:Nat)(rd nh bad ks:List Nat)(S:St):seen ⟨k,rd,nh,bad,ks⟩ S=⟨selT rd S.t,Ia nh S.h⟩:=by
 unfold seen;rw[R1]
theorem Yp(rd:List Nat)(k:Nat)(v:V)(r:List (Nat×V)):selT rd ((k,v)::r)=cond (Gh rd k) ((k,v)::selT rd r) (selT rd r):=by
 rw[selT,Lo]
theorem jbM(h:List (Nat×Blk)):Ia [] h=h:=rfl
theorem U9(a:Nat)(r:List Nat)(h:List (Nat×Blk)):Ia (a::r) h=h.filter λe=> !Gh (a::r) e.1:=by
 have:(λe:Nat×Blk=> !Gh (a::r) e.1)=λe=> !(a::r).contains e.1:=by funext e;rw[Lo]
 rw[this];rfl
theorem jdW:Bo P T ⟨d,.move x,ty,pos,af,g⟩ st k=AI ((st.ev x).map .val) k:=rfl
theorem jdl:Bo P T ⟨d,.assign (.const (.slice none 0 0)),ty,pos,af,g⟩ st k=AI (d.bind λd=>(T ty).bind λi=>i.sl.bind λe=>(T e).map λj=> .new (.row j.size [] true) (vC (.sl d 0 0))) k:=rfl
theorem Wh(i:Nat):Bo P T ⟨d,.assign (.tmp i),ty,pos,af,g⟩ st k=AI ((lk i st.t).map .val) k:=rfl
theorem jhn(a:IntKind)(n:Int):Bo P T ⟨d,.assign (.const (.int a n)),ty,pos,af,g⟩ st k=k (.val (vI a n)):=CR _ _
theorem jje(b:Bool):Bo P T ⟨d,.assign (.const (.bool b)),ty,pos,af,g⟩ st k=k (.val (vB b)):=CR _ _
theorem jij(cs:Array Value):Bo P T ⟨d,.assign (.const (.agg cs)),ty,pos,af,g⟩ st k=AI ((cVal (.agg cs)).map .val) k:=rfl
theorem jd1:Bo P T ⟨d,.load t x,ty,pos,af,g⟩ st k=AI ((T t).bind λi=>(st.evC x).bind λc=>(st.load i c).map λu=> .val (.u u)) k:=rfl
theorem ZF:Bo P T ⟨d,.nilCheck x,ty,pos,af,g⟩ st k=AI ((st.evC x).bind λc=>(nilChk c).map λc=> .val (vC c)) k:=rfl
theorem Wq(e:BinOp)(f:TypeId):Bo P T ⟨d,.binOp e t x y f,ty,pos,af,g⟩ st k=AI ((st.ev x).bind λa=>(st.ev y).bind λb=>(binV T e t a b).map .val) k:=rfl
theorem jhh(f:Nat):Bo P T ⟨d,.fieldAddr t x f,ty,pos,af,g⟩ st k=AI ((T t).bind λi=>(st.evC x).bind λc=>(i.flds[f]?).bind λp=>(T p.2).bind λj=>if j.size=0 then none else (fldAddr p.1 c).map λc=> .val (vC c)) k:=rfl
theorem ji0(i:Operand):Bo P T ⟨d,.indexAddr t x i,ty,pos,af,g⟩ st k=AI ((T t).bind λa=>(st.evC x).bind λc=>(st.evI i).bind λn=>(idxAddr T st.h a n.2 c).map λc=> .val (vC c)) k:=rfl
theorem Zx(i:Nat):Bo P T ⟨d,.extract x i,ty,pos,af,g⟩ st k=AI ((st.ev x).bind λv=>(tupAt i v).map λu=> .val (.u u)) k:=rfl
theorem ZU:Bo P T ⟨d,.store t x y,ty,pos,af,g⟩ st k=AI ((T t).bind λi=>(st.evC x).bind λc=>(st.evU y).bind λu=>effStore i c u st) k:=rfl
theorem VK(f:Operand)(args:List Operand)(a:Array TypeId):Bo P T ⟨d,.call ⟨.value f,args.toArray,a⟩,ty,pos,af,g⟩ st k=AI (st.evU f) (Gl P d args st k):=rfl
theorem jjj(b:Builtin)(args:List Operand)(a:List TypeId):Bo P T ⟨d,.call ⟨.builtin b,args.toArray,a.toArray⟩,ty,pos,af,g⟩ st k=AI (effBuiltin T b a args d st) k:=rfl
theorem VR(a b c:Operand):Bo P T ⟨d,.pick c a b,ty,pos,af,g⟩ st k=AI ((st.evB c).bind λc=>(pickV c (st.ev a) (st.ev b)).map .val) k:=rfl
theorem jfR:Bo P T ⟨d,.alloc t,ty,pos,af,g⟩ st k=AI ((T t).bind λi=>d.map λd=> .new (.box i.zero) (vC (.ptr d 0))) k:=rfl
theorem jiX:Bo P T ⟨d,.box t x,ty,pos,af,g⟩ st k=AI ((T t).bind λi=>(st.evU x).bind λu=>if u.cells.length=i.size then d.map λd=> .new (Fq u) (vC (.ptr d 0)) else none) k:=rfl
theorem jjW(a:List (Nat×Operand)):Bo P T ⟨d,.build t a.toArray,ty,pos,af,g⟩ st k=AI ((T t).bind λi=>(st.evUs a).bind λl=>(build T i l).map λu=> .val (.u u)) k:=rfl
theorem jcX(b:Nat)(a:List (Nat×Operand)):Bo P T ⟨d,.buildSlice t b a.toArray,ty,pos,af,g⟩ st k=
  AI ((T t).bind λi=>i.sl.bind λe=>(T e).bind λj=>(st.evUs a).bind λl=>d.bind λd=>effBsl d j b st.h l) k:=rfl
theorem jaq:Bo P T ⟨d,.makeSlice t x y,ty,pos,af,g⟩ st k=AI ((T t).bind λi=>i.sl.bind λe=>(T e).bind λj=>(st.evI x).bind λl=>(st.evI y).bind λc=>d.bind λd=>IX d j l.2 c.2) k:=rfl
theorem We(lo hi:Option Operand):Bo P T ⟨d,.slice t x lo hi none,ty,pos,af,g⟩ st k=
  AI ((T t).bind λi=>(st.evC x).bind λc=>(st.evO lo).bind λl=>(st.evO hi).bind λh=>
   (match i.sl with|some e=>(T e).bind λj=>sliceV st.h c l h j.size|none=>if Ce i then sliceS c l h else none).map λv=> .val (vC v)) k:=rfl
theorem jkl(f:FuncId)(caps:List Operand):Bo P T ⟨d,.makeFunc (.func f) #[] caps.toArray,ty,pos,af,g⟩ st k=AI ((caps.mapM st.evC).map λcs=> .val (.u (clo [] f cs))) k:=rfl
theorem WD:Bo P T ⟨d,.unOp .not t x,ty,pos,af,g⟩ st k=AI ((st.evB x).map λb=> .val (vB !b)) k:=rfl
theorem WU:Bo P T ⟨d,.unOp .neg t x,ty,pos,af,g⟩ st k=AI ((st.evI x).bind λp=>(DJ p.1 (0 - p.2)).map .val) k:=rfl
theorem XF(s:TypeId):Bo P T ⟨d,.convert s t x,ty,pos,af,g⟩ st k=AI ((T s).bind λj=>(T t).bind λi=>(st.evC x).bind λc=>(convC T st.h j i c).map .val) k:=rfl
theorem Zm(f:Nat):Bo P T ⟨d,.field t x f,ty,pos,af,g⟩ st k=AI ((T t).bind λi=>(st.evU x).bind λu=>(fieldOf T i f u).map λu=> .val (.u u)) k:=rfl
theorem jiA(i:Operand):Bo P T ⟨d,.index t x i,ty,pos,af,g⟩ st k=AI ((T t).bind λa=>(st.evU x).bind λu=>(st.evI i).bind λn=>(indexOf T a n.2 u).map λu=> .val (.u u)) k:=rfl
theorem jc7(f:Operand)(args:List Operand)(a:Array TypeId):Fb P ⟨d,.call ⟨.value f,args.toArray,a⟩,ty,pos,af,none⟩ st k=AI (st.evU f) (Qm P d args st k):=rfl
theorem Za(args:List Operand)(h:FuncId):Qm P d args st k (.c (.d (.fn h [])))=AI (args.mapM st.evU) (Sg P d st k h):=rfl
theorem YX(args:List Operand)(h:FuncId)(caps:List D):Gl P d args st k (.c (.d (.fn h caps)))=AI (args.mapM st.evU) (GZ P d st k h caps):=rfl
theorem jfO(args:List Operand)(h:FuncId)(cs:List C):Gl P d args st k (.clo h cs)=AI (args.mapM st.evU) (NP P d st k h cs):=rfl
theorem VE(h:FuncId)(cs:List C)(a:List U):NP P d st k h cs a=GZ P d st k h [] (a++cs.map .c):=rfl
theorem Ya(h:FuncId)(caps:List D)(a:List U):GZ P d st k h caps a=AI (st.argsW (st.reachU a) a caps) (λb=>G9 P h b (MO d a k)):=rfl
theorem ZK(b:List U)(a:R):MO d b k a=((a.flat=true\/FY b=true)/\k (Ec d a)):=rfl
end
attribute [simp ↓] jeZ jb9 jep jiv jfy V4 jg3 jd9 V1 jiP jjT jik ja2
attribute [simp] jdY WJ WP ja5 Ym XJ jgO jhC jhe jas jjQ WF V6 jkF jgF jiq jce jfU jhY WV U6 YW jh5 jdO Z4 jiE jaZ jbz jbH VG Xr jeP jjF jdQ
 jbd selT.eq_1 Yp Gh jbM U9 jdW jdl Wh jhn jje jij jd1 ZF Wq jhh ji0 Zx ZU VK jjj VR jfR jiX jjW jcX jaq We jkl WD WU XF Zm jiA
 jc7 Za YX jfO VE Ya ZK Ec FY GD effStore effBsl HG effApp.eq_1 effApp.eq_2 IX effBuiltin
end Go.Va
