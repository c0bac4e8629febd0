/- a part of the proof -/
import Derived.Test.YtkajmpgbnbikiaaGreatDoorMai
set_option linter.all false
namespace Go.Va
open Go.RowKit
section
variable {P:Program} {T:Au} {ops:List Oper} {pl:List (List Nat)} {ds:List Nat}
theorem SX{fin:List Oper→St→Prop}: ∀(is:List DI) (rest:List Oper) (S:St),Bv P T ops is rest S fin→
  ∃(xs:List Step) (S':St),xs.length=is.length∧is.length≤rest.length∧fin (rest.drop is.length) S'∧S'.fs=S.fs.run xs∧
   ∀p i,is[p]? =some i→ ∃o x,rest[p]? =some o∧xs[p]? =some ⟨o.dst,x⟩∧Dy i (o.dst.getD 0) x=true∧ ∃Sm:St,Sm.fs=S.fs.run (xs.take p)∧Dz P T ops o (B5 i Sm) x
 |[],rest,S,h=>⟨[],S,rfl,Nat.zero_le _,h,rfl,fun p i hp=>by simp at hp⟩
 |i::is,[],S,h=>h.elim
 |i::is,o::r,S,h=>by
  obtain⟨x,hx,hok,h⟩: ∃x,Dz P T ops o (B5 i S) x∧CB i o.dst S (fun S'=>Bv P T ops is r S' fin) x:=by
   unfold Bv at h;split at h
   ·exact WS h
   ·split at h
    ·exact jb6 h
    ·exact Ym h
  obtain⟨xs,S',h1,h2,h3,h4,h5⟩:=SX is r _ h
  rw[WZ]at h4 h5
  refine⟨⟨o.dst,x⟩::xs,S',by simp[h1],by simpa using h2,by simpa using h3,h4,fun p j hp=> ?_⟩
  cases p with
  |zero=>
   simp only[List.getElem?_cons_zero,Option.some.injEq]at hp;subst hp;exact⟨o,x,rfl,rfl,hok,S,rfl,hx⟩
  |succ p=>
   obtain⟨o',x',g1,g2,g3,Sm,g4,g5⟩:=h5 p j (by simpa using hp)
   exact⟨o',x',by simpa using g1,by simpa using g2,g3,Sm,by rw[g4];rfl,g5⟩
theorem jju(ds:List Nat)(st:St){d:Nat}(h:d∈ds):(purges ds st).fs.Clean d:=N2 d ds st (.inl h)
theorem jba(hlt: ∀j i,BH pl j i=true→j<i){lo:Nat}{is:List DI}{st:St}{ids:List Nat}{K:St→Prop}(hfit:lo+is.length≤ops.length)(hcut:Jx ops pl (lo+is.length)=true)
  (hi:Q7 ops pl ds lo is=true) {n:Nat} (h:Bv P T ops is (ops.drop lo) (purges ds (st.freeze ids)) fun rest s=>rest=ops.drop (lo+is.length)→F9 P T ops (BH pl) n (lo+is.length) s K):
  F9 P T ops (BH pl) (n+1) lo st K:=by
 obtain⟨xs,S',hlen,_,hK,hS',hd⟩:=SX is (ops.drop lo) _ h
 rw[List.drop_drop]at hK
 have hK:=hK rfl;generalize hF0:(purges ds (st.freeze ids)).fs=F0 at hS' hd;have hclean: ∀d,d∈ds→F0.Clean d:=fun d h=>hF0 ▸ jju ds _ h
 let f:Nat→Step:=fun i=>if i<lo then ⟨none,.val (.tup [])⟩ else xs.getD (i - lo) default
 have flo: ∀i,i<lo→f i=⟨none,.val (.tup [])⟩:=fun i h=>if_pos h
 have fget: ∀p,p<is.length→ ∃o x,ops[lo+p]? =some o∧f (lo+p)=⟨o.dst,x⟩∧Dy is[p]! (o.dst.getD 0) x=true∧ ∃Sm:St,Sm.fs=F0.run (xs.take p)∧Dz P T ops o (B5 is[p]! Sm) x:=fun p hp=>by
  have hip:is[p]? =some is[p]! :=by rw[Am hp,List.getElem!_of_getElem? (Am hp)]
  obtain⟨o,x,g1,g2,g3,g4⟩:=hd p _ hip
  refine⟨o,x,by simpa [List.getElem?_drop]using g1,?_,g3,g4⟩
  show(if lo+p<lo then _ else xs.getD (lo+p - lo) default)=_
  rw[if_neg (by omega),Nat.add_sub_cancel_left,Ax,g2]
  rfl
 have frun: ∀p,p≤is.length→F0.run ((List.range (lo+p)).map f)=F0.run (xs.take p):=fun p hp=>by
  rw[List.range_add,List.map_append,FS.run_append,L6 F0 ((List.range lo).map f)]
  ·congr 1
   apply List.ext_getElem?
   intro q;simp only[List.map_map,Bi,List.getElem?_take];by_cases hq:q<p
   ·rw[if_pos hq,List.getElem?_range hq]
    simp only[Option.map_some,Function.comp_apply,f];rw[if_neg (by omega),Nat.add_sub_cancel_left,Ax,Am (by omega)]
    rfl
   ·rw[if_neg hq,By (by simpa using hq)]
    rfl
  ·intro s hs;obtain⟨j,hj,rfl⟩:=jzk.1 hs;exact flo j (List.mem_range.1 hj)
 let Em:Nat→St:=fun i=>if h:lo≤i∧i<lo+is.length then B5 is[i - lo]! (Classical.choose (fget (i - lo) (by omega)).choose_spec.choose_spec.2.2.2) else ⟨[],[]⟩
 have hE: ∀p,(hp:p<is.length)→ ∃o x,ops[lo+p]? =some o∧f (lo+p)=⟨o.dst,x⟩∧Dy is[p]! (o.dst.getD 0) x=true∧ ∃Sm:St,Sm.fs=F0.run (xs.take p)∧Em (lo+p)=B5 is[p]! Sm∧Dz P T ops o (B5 is[p]! Sm) x:=fun p hp=>by
  have hsp:=(fget p hp).choose_spec.choose_spec;refine⟨_,_,hsp.1,hsp.2.1,hsp.2.2.1,Classical.choose hsp.2.2.2,(Classical.choose_spec hsp.2.2.2).1,?_,(Classical.choose_spec hsp.2.2.2).2⟩;have e:lo+p - lo=p:=Nat.add_sub_cancel_left ..;simp only[Em];rw[dif_pos ⟨Nat.le_add_right ..,by omega⟩]
  congr 1<;>simp only[e]
 have hE0: ∀i,i<lo→Em i=⟨[],[]⟩:=fun i h=>by simp only[Em];rw[dif_neg (by omega)]
 have hdst: ∀p,p<is.length→(f (lo+p)).d=CQ ops (lo+p):=fun p hp=>by
  obtain⟨o,x,g1,g2,_⟩:=fget p hp
  rw[g2]
  unfold CQ;rw[g1];rfl
 have hip: ∀p,p<is.length→(is[p]!,p)∈is.zipIdx:=fun p hp=>by
  rw[List.mem_zipIdx_iff_getElem?,Am hp,List.getElem!_of_getElem? (Am hp)]
 have hnew: ∀p,p<is.length→ ∀d∈Fm (CQ ops (lo+p)) is[p]!,d∈ds∧d∉is[p]!.ks:=fun p hp d hd=>by
  have:=jzy.1 hi _ (hip p hp)
  rw[AC]at this
  have:=jzy.1 this.1 d hd
  simpa using this
 have hbeside: ∀p q,p<is.length→q<is.length→KJ pl (lo+p) (CQ ops (lo+p)) is[p]! (lo+q) (CQ ops (lo+q)) is[q]! =true:=fun p q hp hq=>by
  have:=jzy.1 hi _ (hip p hp)
  rw[AC]at this
  exact jzy.1 this.2 _ (hip q hq)
 have hinc: ∀p q,p<is.length→q<is.length→p≠q→BH pl (lo+p) (lo+q)=false→BH pl (lo+q) (lo+p)=false→
   (∀t,(f (lo+q)).d=some t→t∉is[p]!.rd∧(f (lo+p)).d≠some t)∧ ∀k,k∈C9 (CQ ops (lo+q)) is[q]! →k∈is[p]!.nh∧k∉C9 (CQ ops (lo+p)) is[p]! :=fun p q hp hq hne h1 h2=>by
  have:=hbeside p q hp hq
  unfold KJ at this;have hb:LW pl (lo+p) (lo+q)=true:=by unfold LW;simp[hne,h1,h2]
  rw[hb,AC]at this
  have:=this.1
  simp only[Bool.not_true,Bool.false_or,AC]at this;refine⟨fun t ht=> ?_,fun k hk=>⟨?_,?_⟩⟩
  ·rw[hdst q hq]at ht
   rw[hdst p hp]
   rw[ht]at this
   have:=this.1
   simp only[AC,Bool.not_eq_true',bne_iff_ne,ne_eq]at this;exact⟨by simpa using this.1,this.2⟩
  ·have:=jzy.1 this.2.1 k hk
   simpa using this
  ·have:=jzy.1 this.2.2 k hk
   simpa using this
 have hhit: ∀p,p<is.length→ ∀k,(f (lo+p)).hits k→k∈C9 (CQ ops (lo+p)) is[p]! :=fun p hp k hk=>by
  obtain⟨o,x,g1,g2,g3,_⟩:=fget p hp
  rw[←hdst p hp]
  exact PF (s:=f (lo+p)) (by rw[g2];exact g3) hk
 have hcl: ∀p q,p<is.length→q<is.length→p≠q→BH pl (lo+q) (lo+p)=false→ ∀d∈Fm (CQ ops (lo+q)) is[q]!,(f (lo+p)).Clean d:=fun p q hp hq hne h1 d hd=>by
  have:=hbeside p q hp hq
  unfold KJ at this;rw[AC]at this;have:=this.2;rw[show(lo+p==lo+q)=false by simpa using hne,h1]at this
  simp only[Bool.false_or]at this;have:=jzy.1 this d hd;rw[AC]at this;obtain⟨o,x,g1,g2,g3,_⟩:=fget p hp;refine jg3 (s:=f (lo+p)) (i:=is[p]!) (by rw[g2];exact g3) (by simpa using this.1) ?_
  rw[hdst p hp]
  simpa using this.2
 have split: ∀i,i<lo+is.length→i<lo∨ ∃p,p<is.length∧i=lo+p:=fun i h=>by
  rcases Nat.lt_or_ge i lo with h1|h1
  ·exact .inl h1
  ·exact .inr ⟨i - lo,by omega,by omega⟩
 have idle: ∀k,¬(⟨none,.val (.tup [])⟩:Step).hits k:=fun k h=>by simp[Step.hits,Eff.b]at h
 right;right
 refine⟨lo+is.length,ids,ds,f,Em,Nat.le_add_right ..,hfit,RN hcut,?_,flo,?_,S',?_,hK⟩
 ·rw[hF0]
  refine⟨hlt,fun i j hij hj hp=> ?_,fun i hi t v hv=> ?_,fun i hi k b hb=> ?_⟩
  ·rcases split j hj with h1|⟨q,hq,rfl⟩
   ·rw[flo j h1]
    exact⟨fun t ht=>(by cases ht),fun k hk=>absurd hk (idle k)⟩
   ·rcases split i (by omega)with h1|⟨p,hp',rfl⟩
    ·rw[flo i h1]
     exact⟨fun t _ h=>(by cases h),fun k _ hk=>absurd hk (idle k)⟩
    ·have hne:p≠q:=by omega
     have h2:BH pl (lo+q) (lo+p)=false:=by
      cases h:BH pl (lo+q) (lo+p)with
      |false=>rfl
      |true=>have:=hlt _ _ h;omega
     obtain⟨a1,a2⟩:=hinc p q hp' hq hne hp h2
     exact⟨fun t ht=>(a1 t ht).2,fun k hk hk'=>(a2 k (hhit q hq k hk)).2 (hhit p hp' k hk')⟩
  ·rcases split i hi with h1|⟨p,hp,rfl⟩
   ·rw[hE0 i h1]at hv;cases hv
   ·obtain⟨o,x,g1,g2,g3,Sm,g4,g5,_⟩:=hE p hp
    rw[g5]at hv
    obtain⟨e1,e2⟩:=KB (fun t=>is[p]!.rd.contains t) t Sm.t v hv
    refine⟨?_,fun j hj hne hp1 hp2 hs=> ?_⟩
    ·rw[frun p (by omega),←g4];exact e1
    ·rcases split j hj with h1|⟨q,hq,rfl⟩
     ·rw[flo j h1]at hs;cases hs
     ·exact((hinc p q hp hq (by omega) hp2 hp1).1 t hs).1 (by simpa using e2)
  ·rcases split i hi with h1|⟨p,hp,rfl⟩
   ·rw[hE0 i h1]at hb;cases hb
   ·obtain⟨o,x,g1,g2,g3,Sm,g4,g5,_⟩:=hE p hp
    rw[g5]at hb
    obtain⟨e1,e2⟩:=jd0 hb
    refine⟨?_,fun j hj hne hp1 hp2 hs=> ?_⟩
    ·rw[frun p (by omega),←g4];exact e1
    ·rcases split j hj with h1|⟨q,hq,rfl⟩
     ·rw[flo j h1]at hs;exact idle k hs
     ·have:=((hinc p q hp hq (by omega) hp2 hp1).2 k (hhit q hq k hs)).1
      exact absurd this (by simpa using e2)
 ·rw[hF0]
  intro i o hlo hhi ho L s hLi hc hsub hfs K' hK';obtain⟨p,rfl⟩: ∃p,i=lo+p:=⟨i - lo,by omega⟩
  have hp:p<is.length:=by omega
  obtain⟨o',x,g1,g2,g3,Sm,g4,g5,g6⟩:=hE p hp
  rw[ho]at g1
  cases g1;rw[g5]at hsub
  refine Vw g6 hsub ?_ (fun s' hs'=>hK' s' (by rw[hs',g2]))
  have key:(∀d,d∈Fm (CQ ops (lo+p)) is[p]! →s.fs.Clean d):=fun d hd=>by
   rw[hfs]
   refine OY _ _ (hclean d (hnew p hp d hd).1) fun s1 hs1=> ?_
   obtain⟨j,hj,rfl⟩:=jzk.1 hs1
   obtain⟨hj1,hj2⟩:=List.mem_filter.1 hj
   rcases split j (List.mem_range.1 hj1)with h1|⟨q,hq,rfl⟩
   ·rw[flo j h1];exact⟨rfl,fun k b hb=>by simp[Eff.b]at hb⟩
   ·have hne:q≠p:=fun e=>by rw[e,hLi]at hj2;cases hj2
    refine hcl q p hq hp hne ?_ d hd;cases h:BH pl (lo+p) (lo+q)with
    |false=>rfl
    |true=>have:=hc _ hj2 _ h;rw[hLi]at this;cases this
  have hod:o.dst=CQ ops (lo+p):=by unfold CQ;rw[ho];rfl
  cases x with
  |val v=>trivial
  |dat v=>
   simp only[Dy,beq_iff_eq]at g3;refine key _ ?_;rw[←hod];unfold Fm;rw[if_pos (.inr (.inr (.inl g3)))];exact List.mem_cons_self ..
  |put k b=>trivial
  |new b v=>
   simp only[Dy,AC,Bool.or_eq_true,beq_iff_eq]at g3;refine⟨key _ ?_,IG g3.2.2 (List.mem_cons_self ..)⟩;rw[←hod];unfold Fm;rw[if_pos (g3.1.elim (fun h=>h.elim .inl fun h=> .inr (.inl h)) fun h=> .inr (.inr (.inr h)))]
   exact List.mem_cons_self ..
  |app k b v=>
   simp only[Dy,AC,Bool.or_eq_true,beq_iff_eq]at g3;refine⟨key _ ?_,IG g3.2.2.2 (List.mem_cons_self ..)⟩;rw[←hod];unfold Fm;rw[if_pos (g3.1.elim (fun h=> .inr (.inl h)) fun h=> .inr (.inr (.inr h)))]
   exact List.mem_cons_self ..
 ·rw[hF0,hS',frun _ (Az _),←hlen,B1]
theorem CF{α:Type}{x:Option α}{k k':α→Prop}(h: ∀y,k y→k' y)(hx:Av x k):Av x k':=by
 obtain⟨y,hy,hk⟩:=hx
 exact⟨y,hy,h y hk⟩
theorem YB{dst:Option Nat}{st:St}{K K':St→Prop}(h: ∀s,K s→K' s){g:FuncId}{caps:List D}{us:List U}(hw:Ka P dst st K g caps us):Ka P dst st K' g caps us:=by
 rcases hw with⟨ids,r,h1,h2,a,b,c,d,e⟩|⟨x,ys,rest,as,a,b,c,d⟩|⟨e,x,ys,rest,as,f,cl,zs,a,b,c,d,k⟩|(⟨e,us0,f,cs,as,ys,H,fz,ids,nw,a,b,c,d,k,m⟩|⟨e,us0,f0,k0,f,cs,as,ys,zs,H,fz,ids,nw,a,b,c,d,k,l,m,n,q⟩|⟨e,sz,m,d,cs',us',as,a,b,c,q,f⟩|⟨e,fz,k,n,sz,m,d,cs,cs',us',as,a,a',b,c,q,f,l⟩|⟨e,fz,sz,m,d,cs',us',as,a,b,c,q,f⟩)|⟨e,k,n,sz,m,d,cs,cs',us',as,a,b,c,q,f,l⟩
 ·exact .inl ⟨ids,r,h1,h2,a,b,c,d,h _ e⟩
 ·exact .inr (.inl ⟨x,ys,rest,as,a,b,c,h _ d⟩)
 ·exact .inr (.inr (.inl ⟨e,x,ys,rest,as,f,cl,zs,a,b,c,d,h _ k⟩))
 ·exact .inr (.inr (.inr (.inl (.inl ⟨e,us0,f,cs,as,ys,H,fz,ids,nw,a,b,c,d,k,h _ m⟩))))
 ·exact .inr (.inr (.inr (.inl (.inr (.inl ⟨e,us0,f0,k0,f,cs,as,ys,zs,H,fz,ids,nw,a,b,c,d,k,l,m,n,h _ q⟩)))))
 ·exact .inr (.inr (.inr (.inl (.inr (.inr (.inl ⟨e,sz,m,d,cs',us',as,a,b,c,q,h _ f⟩))))))
 ·exact .inr (.inr (.inr (.inl (.inr (.inr (.inr (.inl ⟨e,fz,k,n,sz,m,d,cs,cs',us',as,a,a',b,c,q,f,h _ l⟩)))))))
 ·exact .inr (.inr (.inr (.inl (.inr (.inr (.inr (.inr ⟨e,fz,sz,m,d,cs',us',as,a,b,c,q,h _ f⟩)))))))
 ·exact .inr (.inr (.inr (.inr ⟨e,k,n,sz,m,d,cs,cs',us',as,a,b,c,q,f,h _ l⟩)))
theorem Rk{dst:Option Nat}{st:St}{K K':St→Prop}(h: ∀s,K s→K' s){g:FuncId}{caps:List D}{us:List U}(hw:Ea P dst st K g caps us):Ea P dst st K' g caps us:=by
 rcases hw with⟨as,a,res,b,c⟩|hw
 ·exact .inl ⟨as,a,res,b,h _ c⟩
 ·exact .inr (YB h hw)
theorem Ut{o:Oper}{st:St}{K K':St→Prop}(h: ∀s,K s→K' s)(hw:wpOp P T o st K):wpOp P T o st K':=by
 unfold wpOp at hw ⊢
 revert hw
 split<;>intro hw
 ·refine CF (fun u hu=> ?_) hw
  unfold Ev at hu ⊢
  revert hu
  split<;>intro hu
  ·exact CF (fun us hus=>Rk h hus) hu
  ·exact CF (fun us hus=>Rk h hus) hu
  ·exact CF (fun us ⟨as,rest,a,b,c⟩=>⟨as,rest,a,b,h _ c⟩) hu
  ·exact hu.elim
 ·exact CF h hw
theorem jcQ{o:Oper}{st:St}{K K':St→Prop}(h: ∀s,K s→K' s)(hw:B3 P T ops o st K):B3 P T ops o st K':=by
 unfold B3 at hw ⊢
 revert hw
 split<;>intro hw
 ·exact Ut h hw
 ·revert hw
  split<;>intro hw
  ·unfold Dl at hw ⊢
   revert hw
   split<;>intro hw
   ·exact⟨fun hb=>Ut h (hw.1 hb),fun hb=>h _ (hw.2 hb)⟩
   ·exact h _ hw
   ·exact hw.elim
  ·exact hw.elim
theorem QC{o:Oper}{E:St}{k k':Eff→Prop}(h: ∀x,k x→k' x)(hw:AV P T o E k):AV P T o E k':=by
 unfold AV at hw ⊢
 revert hw
 split<;>intro hw
 ·refine CF (fun u hu=> ?_) hw
  unfold GN at hu ⊢
  revert hu
  split<;>intro hu
  ·exact CF (fun us hus=>CF (fun as ⟨res,b1,b2,b3⟩=>⟨res,b1,b2,h _ b3⟩) hus) hu
  ·exact CF (fun us hus=>CF (fun as ⟨res,b1,b2,b3⟩=>⟨res,b1,b2,h _ b3⟩) hus) hu
  ·exact hu.elim
 ·exact CF h hw
theorem jid{o:Oper}{E:St}{k k':Eff→Prop}(h: ∀x,k x→k' x)(hw:DL T ops o E k):DL T ops o E k':=by
 unfold DL at hw ⊢
 revert hw
 split<;>intro hw
 ·exact CF h hw
 ·revert hw
  split<;>intro hw
  ·unfold BN at hw ⊢
   revert hw
   split<;>intro hw
   ·exact⟨fun hb=>CF h (hw.1 hb),fun hb=>h _ (hw.2 hb)⟩
   ·exact h _ hw
   ·exact hw.elim
  ·exact hw.elim
theorem jdV{o:Oper}{E:St}{k k':Eff→Prop}(h: ∀x,k x→k' x)(hw:C2 P T ops o E k):C2 P T ops o E k':=by
 unfold C2 at hw ⊢
 revert hw
 split<;>intro hw
 ·exact QC h hw
 ·revert hw
  split<;>intro hw
  ·unfold BN at hw ⊢
   revert hw
   split<;>intro hw
   ·exact⟨fun hb=>QC h (hw.1 hb),fun hb=>h _ (hw.2 hb)⟩
   ·exact h _ hw
   ·exact hw.elim
  ·exact hw.elim
theorem Ih{fin fin':List Oper→St→Prop}(h: ∀r s,fin r s→fin' r s): ∀{is:List DI} {rest:List Oper} {S:St},Bv P T ops is rest S fin→Bv P T ops is rest S fin'
 |[],_,_,hw=>h _ _ hw
 |_::_,[],_,hw=>hw.elim
 |i::_,_::_,_,hw=>by
  unfold Bv at hw ⊢;split
  ·rename_i hi
   rw[if_pos hi]at hw
   exact jid (fun _ ⟨h1,h2⟩=>⟨h1,Ih h h2⟩) hw
  ·rename_i hi
   rw[if_neg hi]at hw
   split
   ·rename_i h5
    rw[if_pos h5]at hw
    unfold FI at hw ⊢
    revert hw
    split
    ·intro hw;refine CF (fun u hu=> ?_) hw
     unfold Hk at hu ⊢
     revert hu
     split
     ·exact fun hu=>CF (fun us hh=>hh.imp (fun⟨b,n,sz,m,d,cs,cs',us',as,a1,a2,a3,a4,a5,a6,a7⟩=>⟨b,n,sz,m,d,cs,cs',us',as,a1,a2,a3,a4,a5,a6,Ih h a7⟩) fun⟨sz,m,d,cs',us',as,a1,a2,a3,a4,a5,a6⟩=>⟨sz,m,d,cs',us',as,a1,a2,a3,a4,a5,Ih h a6⟩) hu
     ·exact fun hu=>hu.elim
    ·exact fun hw=>hw.elim
   ·rename_i h5
    rw[if_neg h5]at hw
    exact jdV (fun _ ⟨h1,h2⟩=>⟨h1,Ih h h2⟩) hw
theorem LJ(hlt: ∀j i,BH pl j i=true→j<i){K:St→Prop}: ∀(segs:List Seg) (lo:Nat) (st:St),lo≤ops.length→D1 ops pl lo segs=true→DX P T ops segs (ops.drop lo) K st→
  F9 P T ops (BH pl) segs.length lo st K
 |[],lo,st,_,hb,h=>⟨by simpa [D1]using hb,h⟩
 | .one::r,lo,st,hle,hb,h=>by
  simp only[D1,AC]at hb;cases hd:ops.drop lo with
  |nil=>rw[hd]at h;exact h.elim
  |cons o rest=>
   rw[hd]at h
   have hlo:lo<ops.length:=by
    have:=congrArg List.length hd
    simp at this;omega
   have ho:ops[lo]? =some o:=by
    have:=congrArg (·[0]?) hd
    simpa using this
   have hrest:rest=ops.drop (lo+1):=by
    have:=congrArg (List.drop 1) hd
    simpa using this.symm
   right;left
   refine⟨o,ho,RN hb.1,?_⟩
   rw[hrest]at h
   exact jcQ (fun s hs=>LJ hlt r (lo+1) s (by omega) hb.2 hs) h
 | .any ids ds is::r,lo,st,hle,hb,h=>by
  simp only[D1,AC,decide_eq_true_eq]at hb;exact jba hlt hb.1 hb.2.1 hb.2.2.1 (Ih (fun rest s hs he=>LJ hlt r _ s hb.1 hb.2.2.2 (he ▸ hs)) h)
theorem At{st:St}{K:St→Prop}(pl:List (List Nat))(segs:List Seg)(h1:KN ops pl segs=true)(h2:DX P T ops segs ops K st):JG P T ops st K:=by
 simp only[KN,AC]at h1;have hlt: ∀j i,BH pl j i=true→j<i:=Wp h1.2.1;exact⟨BH pl,segs.length,jgz h1.1,hlt,LJ hlt segs 0 st (Nat.zero_le _) h1.2.2 h2⟩
end
theorem Af{m n:Nat}(h:m.ble n=true):m≤n:=Nat.le_of_ble_eq_true h
@[simp]def Ap(l:List (List Nat)):List DI:=l.map fun x=>⟨0,x,[],[],[]⟩
def Ad(l:List Nat):List (List Nat):=l.map fun m=>(List.range 64).filter fun i=>m/2^i%2==1
theorem Ab{P:Program}{g:FuncId}{as:List A}{r:R}{k:R→Prop}{X:Prop}(h:CallsF P g as r)(hk:k r):Hj P g as k∨X:= .inl ⟨r,h,hk⟩
theorem Aa{P:Program}{g:FuncId}{as:List A}{r:R}{k:R→Prop}(h:CallsF P g as r)(hk:k r):Hj P g as k:=⟨r,h,hk⟩
end Go.Va
namespace Go.Va
section
variable {P:Program} {T:Au} {st:St} {Q:Bc} {K:St→Prop} {ops:List Oper}
theorem X3:A8 P T .skip st Q=Q .normal st:=rfl
theorem jja(i:Nat)(l:List Oper):A8 P T (.region i l.toArray false) st Q=ES P T l l st (IL Q):=by simp[A8,J4]
theorem jjZ(i:Nat)(l:List Oper):A8 P T (.region i l.toArray true) st Q=JG P T l st (IL Q):=by simp[A8,J4]
theorem jhd(a b:Code):A8 P T (.seq a b) st Q=A8 P T a st (EB (A8 P T b) Q):=rfl
theorem jgU(c:Operand)(x y:Code):A8 P T (.cond c x y) st Q=Fd (st.evB c) st (A8 P T x) (A8 P T y) Q:=rfl
theorem jin(i:Nat)(c:Code):A8 P T (.block i c) st Q=A8 P T c st (F6 i Q):=rfl
theorem jfC(c:Code):A8 P T (.loop c) st Q=HT (A8 P T c) st Q:=rfl
theorem Zn(i:Nat):A8 P T (.exit i) st Q=Q (.exit i) st:=rfl
theorem jaT:A8 P T .ret st Q=Q .ret st:=rfl
theorem jah:ES P T ops [] st K=K st:=rfl
theorem VL(o:Oper)(r:List Oper):ES P T ops (o::r) st K=B3 P T ops o st (JO (ES P T ops r) K):=rfl
variable (d:Option Nat) (ty:TypeId) (pos:String) (af:Array Edge) (g:Option (Nat×Bool))
theorem jhe(op:Op):B3 P T ops ⟨d,op,ty,pos,af,none⟩ st K=wpOp P T ⟨d,op,ty,pos,af,none⟩ st K:=rfl
def Ht(ops:List Oper)(j:Nat):Option Nat:=(ops[j]?).bind (·.dst)
def Qr(P:Program)(T:Au)(dj:Option Nat)(want:Bool)(o:Oper)(st:St)(K:St→Prop):Prop:=
 match dj with
 |some d=>Dl d want (lk d st.t) st (wpOp P T o) (GA o.dst) K
 |none=>False
theorem jdb(op:Op)(j:Nat)(want:Bool):B3 P T ops ⟨d,op,ty,pos,af,some (j,want)⟩ st K=Qr P T (Ht ops j) want ⟨d,op,ty,pos,af,some (j,want)⟩ st K:=rfl
theorem ji2(dj:Nat)(op:Op)(j:Nat)(want:Bool):Qr P T (some dj) want ⟨d,op,ty,pos,af,some (j,want)⟩ st K=
 Dl dj want (lk dj st.t) st (wpOp P T ⟨d,op,ty,pos,af,some (j,want)⟩) (GA d) K:=rfl
theorem Wx(o:Oper)(r:List Oper):Ht (o::r) 0=o.dst:=rfl
theorem jbY(o:Oper)(r:List Oper)(n:Nat):Ht (o::r) (n+1)=Ht r n:=rfl
theorem jbi(dst:Option Nat):GA dst st K=K (st.put dst (.tup [])):=rfl
theorem Y8(dst:Option Nat)(ids:List Nat)(res:R):Jb dst ids K st res=K (st.back dst ids res):=rfl
variable (x y z:Operand) (t:TypeId)
theorem jiI:wpOp P T ⟨d,.move x,ty,pos,af,g⟩ st K=Av ((st.ev x).map fun v=>st.put d v) K:=rfl
theorem jic:wpOp P T ⟨d,.assign (.const (.slice none 0 0)),ty,pos,af,g⟩ st K=Av (GC T ty d st) K:=rfl
theorem jje(i:Nat):wpOp P T ⟨d,.assign (.tmp i),ty,pos,af,g⟩ st K=Av ((lk i st.t).map fun v=>st.put d v) K:=rfl
theorem jj3(k:IntKind)(n:Int):wpOp P T ⟨d,.assign (.const (.int k n)),ty,pos,af,g⟩ st K=K (st.put d (vI k n)):=C5 _ _
theorem jcz(b:Bool):wpOp P T ⟨d,.assign (.const (.bool b)),ty,pos,af,g⟩ st K=K (st.put d (vB b)):=C5 _ _
theorem XY(b:ByteArray):wpOp P T ⟨d,.assign (.const (.string b)),ty,pos,af,g⟩ st K=K (st.put d (vC (.d (.str b)))):=C5 _ _
theorem WP:wpOp P T ⟨d,.assign (.const .nilFunc),ty,pos,af,g⟩ st K=K (st.put d (vC (.d .nilFn))):=C5 _ _
theorem jfQ(cs:Array Value):wpOp P T ⟨d,.assign (.const (.agg cs)),ty,pos,af,g⟩ st K=Av ((cVal (.agg cs)).map fun v=>st.put d v) K:=rfl
theorem jgK(f:FuncId):wpOp P T ⟨d,.assign (.func f),ty,pos,af,g⟩ st K=Av ((st.ev (.func f)).map fun v=>st.put d v) K:=rfl
theorem Yy:wpOp P T ⟨d,.pick x y z,ty,pos,af,g⟩ st K=Av ((st.evB x).bind fun c=>(pickV c (st.ev y) (st.ev z)).map fun v=>st.put d v) K:=rfl
theorem jfc:wpOp P T ⟨d,.alloc t,ty,pos,af,g⟩ st K=Av ((T t).bind fun i=>mk d st (.box i.zero) fun d=> .ptr d 0) K:=rfl
theorem jbo:wpOp P T ⟨d,.box t x,ty,pos,af,g⟩ st K=Av ((T t).bind fun i=>(st.evU x).bind fun u=>if u.cells.length=i.size then mk d st (.box u.cells) (fun d=> .ptr d 0) else none) K:=rfl
theorem jir(l:List (Nat×Operand)):wpOp P T ⟨d,.build t l.toArray,ty,pos,af,g⟩ st K=Av ((T t).bind fun i=>(st.evUs l).bind fun l=>(build T i l).map fun u=>st.put d (.u u)) K:=rfl
theorem X9(len:Nat)(l:List (Nat×Operand)):wpOp P T ⟨d,.buildSlice t len l.toArray,ty,pos,af,g⟩ st K=
  Av ((T t).bind fun i=>i.sl.bind fun e=>(T e).bind fun j=>(st.evUs l).bind (Fy j len d st)) K:=rfl
theorem Wf:wpOp P T ⟨d,.load t x,ty,pos,af,g⟩ st K=Av ((T t).bind fun i=>(st.evC x).bind fun c=>(st.load i c).map fun u=>st.put d (.u u)) K:=rfl
theorem jeY:wpOp P T ⟨d,.store t x y,ty,pos,af,g⟩ st K=Av ((T t).bind fun i=>(st.evC x).bind fun c=>(st.evU y).bind fun u=>(st.store i c u).map fun s=>s.put d (.tup [])) K:=rfl
theorem Wy:wpOp P T ⟨d,.nilCheck x,ty,pos,af,g⟩ st K=Av ((st.evC x).bind fun c=>(nilChk c).map fun c=>st.put d (vC c)) K:=rfl
theorem jiK(op:BinOp)(t':TypeId):wpOp P T ⟨d,.binOp op t x y t',ty,pos,af,g⟩ st K=Av ((st.ev x).bind fun a=>(st.ev y).bind fun b=>(binV T op t a b).map fun v=>st.put d v) K:=rfl
theorem jjD:wpOp P T ⟨d,.unOp .not t x,ty,pos,af,g⟩ st K=Av ((st.evB x).map fun b=>st.put d (vB !b)) K:=rfl
theorem jkh:wpOp P T ⟨d,.unOp .neg t x,ty,pos,af,g⟩ st K=Av ((st.evI x).bind fun p=>(DN p.1 (0 - p.2)).map fun v=>st.put d v) K:=rfl
theorem jfS(t':TypeId):wpOp P T ⟨d,.convert t t' x,ty,pos,af,g⟩ st K=Av ((T t).bind fun j=>(T t').bind fun i=>(st.evC x).bind fun c=>(convC T st.h j i c).map fun v=>st.put d v) K:=rfl
theorem jfF:wpOp P T ⟨d,.makeInterface t x,ty,pos,af,g⟩ st K=Av ((T t).bind fun i=>(st.evU x).bind fun u=>(ifaceOf i t u).map fun c=>st.put d (vC c)) K:=rfl
theorem jc9(xt:TypeId):wpOp P T ⟨d,.typeAssert x xt t true,ty,pos,af,g⟩ st K=Av ((T t).bind fun i=>(st.evC x).bind fun c=>(assertOf i t c).map fun v=>st.put d v) K:=rfl
theorem jjJ:wpOp P T ⟨d,.makeSlice t x y,ty,pos,af,g⟩ st K=Av ((T t).bind fun i=>i.sl.bind fun e=>(T e).bind fun j=>(st.evI x).bind fun l=>(st.evI y).bind fun c=>Fw j d st l.2 c.2) K:=rfl
theorem jaI(lo hi:Option Operand):wpOp P T ⟨d,.slice t x lo hi none,ty,pos,af,g⟩ st K=
  Av ((T t).bind fun i=>(st.evC x).bind fun c=>(st.evO lo).bind fun l=>(st.evO hi).bind fun h=>
   (match i.sl with|some e=>(T e).bind fun j=>sliceV st.h c l h j.size|none=>if Dv i then sliceS c l h else none).map fun v=>st.put d (vC v)) K:=rfl
theorem Yq(f:Nat):wpOp P T ⟨d,.fieldAddr t x f,ty,pos,af,g⟩ st K=Av ((T t).bind fun i=>(st.evC x).bind fun c=>(i.flds[f]?).bind fun p=>(T p.2).bind fun j=>if j.size=0 then none else (fldAddr p.1 c).map fun c=>st.put d (vC c)) K:=rfl
theorem jfZ(f:Nat):wpOp P T ⟨d,.field t x f,ty,pos,af,g⟩ st K=Av ((T t).bind fun i=>(st.evU x).bind fun u=>(fieldOf T i f u).map fun u=>st.put d (.u u)) K:=rfl
theorem jgy:wpOp P T ⟨d,.indexAddr t x y,ty,pos,af,g⟩ st K=Av ((T t).bind fun ti=>(st.evC x).bind fun c=>(st.evI y).bind fun n=>(idxAddr T st.h ti n.2 c).map fun c=>st.put d (vC c)) K:=rfl
theorem jgL:wpOp P T ⟨d,.index t x y,ty,pos,af,g⟩ st K=Av ((T t).bind fun ti=>(st.evU x).bind fun u=>(st.evI y).bind fun n=>(indexOf T ti n.2 u).map fun u=>st.put d (.u u)) K:=rfl
theorem jia(i:Nat):wpOp P T ⟨d,.extract x i,ty,pos,af,g⟩ st K=Av ((st.ev x).bind fun v=>(tupAt i v).map fun u=>st.put d (.u u)) K:=rfl
theorem jgG(f:FuncId)(caps:List Operand):wpOp P T ⟨d,.makeFunc (.func f) #[] caps.toArray,ty,pos,af,g⟩ st K=
  Av ((caps.mapM st.evC).map fun cs=>st.put d (.u (clo st.h f cs))) K:=rfl
theorem VP(b:Builtin)(args:List Operand)(ts:List TypeId):wpOp P T ⟨d,.call ⟨.builtin b,args.toArray,ts.toArray⟩,ty,pos,af,g⟩ st K=
  Av (Fx T b ts args d st) K:=rfl
theorem jcx(f:Operand)(args:List Operand)(ts:Array TypeId):wpOp P T ⟨d,.call ⟨.value f,args.toArray,ts⟩,ty,pos,af,g⟩ st K=
  Av (st.evU f) (Ev P d args st K):=rfl
end
def St.num(st:St)(t:Nat):Int:=
 match lk t st.t with
 |some (.u (.c (.d (.int _ n))))=>n
 |_=>0
def J5{α:Type}(f:α→St)(p:α→Prop)(μ:α→Nat)(s:St)(n:Nat):Prop:= ∃x,s=f x∧p x∧μ x=n
theorem CJ{α:Type}(rs:List (Nat×Nat))(f:α→St)(p:α→Prop)(μ:α→Nat)(x0:α){body:St→Bc→Prop}{st:St}{Q:Bc}(h0:(f x0).le (rns rs st))(hp:p x0)
  (h: ∀x,p x→body (f x) (EB (H5 (J5 f p μ) rs (μ x)) Q)):HT body st Q:=
 ⟨J5 f p μ,rs,⟨_,_,h0,x0,rfl,hp,rfl⟩,fun _ _ ⟨x,h1,h2,h3⟩=>h1 ▸ h3 ▸ h x h2⟩
theorem AF{α:Type}(f:α→St)(p:α→Prop)(μ:α→Nat)(x0:α){body:St→Bc→Prop}{st:St}{Q:Bc}(h0:(f x0).le st)(hp:p x0)
  (h: ∀x,p x→body (f x) (EB (H5 (J5 f p μ) [] (μ x)) Q)):HT body st Q:=CJ [] f p μ x0 h0 hp h
@[simp]theorem jkT{α:Type}(f:α→St)(p:α→Prop)(μ:α→Nat)(rs:List (Nat×Nat))(n:Nat)(s:St)(Q:Bc):H5 (J5 f p μ) rs n s Q↔ ∃y,(f y).le (rns rs s)∧p y∧μ y<n:=
 ⟨fun⟨_,_,h1,⟨y,h2,h3,h4⟩,h5⟩=>⟨y,h2 ▸ h1,h3,h4 ▸ h5⟩,fun⟨y,h1,h2,h3⟩=>⟨_,_,h1,⟨y,rfl,h2,rfl⟩,h3⟩⟩
@[simp]theorem rns_nil(s:St):rns [] s=s:=rfl
@[simp]theorem rns_cons(i j:Nat)(r:List (Nat×Nat))(s:St):rns ((i,j)::r) s=rns r (s.rn i j):=rfl
def JK(i j:Nat)(st:St)(b:Option Blk):St:=
 match b with
 |none=>st
 |some b=>{ st.on (Do i j)with h:=(i,b.on (Do i j))::rm i (rm j (st.on (Do i j)).h) }
@[simp]theorem rn_eq(i j:Nat)(st:St):st.rn i j=if i=j then st else JK i j st (lk j st.h):=by
 unfold St.rn JK;rfl
@[simp]theorem rnB_none(i j:Nat)(st:St):JK i j st none=st:=rfl
@[simp]theorem rnB_some(i j:Nat)(st:St)(b:Blk):JK i j st (some b)={ st.on (Do i j)with h:=(i,b.on (Do i j))::rm i (rm j (st.on (Do i j)).h) }:=rfl
section
variable (st:St) (k1 k2:St→Bc→Prop) (Q:Bc)
@[simp high]theorem jk0:Fd (some true) st k1 k2 Q=k1 st Q:=by simp[Fd]
@[simp high]theorem jla:Fd (some false) st k1 k2 Q=k2 st Q:=by simp[Fd]
end
section
variable (d:Nat) (st:St) (k1 k2:St→(St→Prop)→Prop) (K:St→Prop)
@[simp high]theorem gateV_tt:Dl d true (some (.u (.c (.d (.bool true))))) st k1 k2 K=k1 (st.put (some d) (vB true)) K:=by simp[Hd]
@[simp high]theorem gateV_tf:Dl d true (some (.u (.c (.d (.bool false))))) st k1 k2 K=k2 (st.put (some d) (vB false)) K:=by simp[Hd]
@[simp high]theorem gateV_ft:Dl d false (some (.u (.c (.d (.bool true))))) st k1 k2 K=k2 (st.put (some d) (vB true)) K:=by simp[Hd]
@[simp high]theorem gateV_ff:Dl d false (some (.u (.c (.d (.bool false))))) st k1 k2 K=k1 (st.put (some d) (vB false)) K:=by simp[Hd]
end
@[simp]theorem splice_z{α:Type}(l:List α):splice 0 [] l=l:=by simp[splice]
@[simp]theorem jlh{α:Type}(a b:α)(r l:List α):splice 0 (a::r) (b::l)=a::splice 0 r l:=by simp[splice]
@[simp]theorem splice_s{α:Type}(n:Nat)(b:α)(r l:List α):splice (n+1) r (b::l)=b::splice n r l:=by simp[splice,Nat.add_right_comm]
@[simp]theorem to_sl(i k o n:Nat):C.to i (.sl k o n)= .sl i o n:=rfl
@[simp]theorem to_ptr(i k o:Nat):C.to i (.ptr k o)= .ptr i o:=rfl
@[simp]theorem i64_min:IntKind.i64.min= -9223372036854775808:=by decide
theorem jaz{α:Type}(k:Nat):lk k ([]:List (Nat×α))=none:=rfl
theorem Wc{α:Type}(k j:Nat)(v:α)(r:List (Nat×α)):lk k ((j,v)::r)=cond (j==k) (some v) (lk k r):=by
 by_cases h:j=k
 ·simp[lk,h]
 ·simp[lk,h,show(j==k)=false by simpa using h]
theorem Xe{α:Type}(k:Nat):rm k ([]:List (Nat×α))=[]:=rfl
theorem jaM{α:Type}(k j:Nat)(v:α)(r:List (Nat×α)):rm k ((j,v)::r)=cond (j==k) (rm k r) ((j,v)::rm k r):=by
 by_cases h:j=k
 ·simp[rm,h]
 ·simp[rm,h,show(j==k)=false by simpa using h]
@[simp]theorem binV_add(T:Au)(t:TypeId)(k k':IntKind)(a b:Int):binV T .add t (.u (.c (.d (.int k a)))) (.u (.c (.d (.int k' b))))=if k=k' then binI .add k a b else none:=rfl
@[simp]theorem binV_sub(T:Au)(t:TypeId)(k k':IntKind)(a b:Int):binV T .sub t (.u (.c (.d (.int k a)))) (.u (.c (.d (.int k' b))))=if k=k' then binI .sub k a b else none:=rfl
@[simp]theorem binV_mul(T:Au)(t:TypeId)(k k':IntKind)(a b:Int):binV T .mul t (.u (.c (.d (.int k a)))) (.u (.c (.d (.int k' b))))=if k=k' then binI .mul k a b else none:=rfl
@[simp]theorem binV_quo(T:Au)(t:TypeId)(k k':IntKind)(a b:Int):binV T .quo t (.u (.c (.d (.int k a)))) (.u (.c (.d (.int k' b))))=if k=k' then binI .quo k a b else none:=rfl
@[simp]theorem binV_rem(T:Au)(t:TypeId)(k k':IntKind)(a b:Int):binV T .rem t (.u (.c (.d (.int k a)))) (.u (.c (.d (.int k' b))))=if k=k' then binI .rem k a b else none:=rfl
@[simp]theorem binV_and(T:Au)(t:TypeId)(k k':IntKind)(a b:Int):binV T .and t (.u (.c (.d (.int k a)))) (.u (.c (.d (.int k' b))))=if k=k' then binI .and k a b else none:=rfl
@[simp]theorem binV_or(T:Au)(t:TypeId)(k k':IntKind)(a b:Int):binV T .or t (.u (.c (.d (.int k a)))) (.u (.c (.d (.int k' b))))=if k=k' then binI .or k a b else none:=rfl
@[simp]theorem binV_xor(T:Au)(t:TypeId)(k k':IntKind)(a b:Int):binV T .xor t (.u (.c (.d (.int k a)))) (.u (.c (.d (.int k' b))))=if k=k' then binI .xor k a b else none:=rfl
@[simp]theorem jk9(T:Au)(t:TypeId)(k k':IntKind)(a b:Int):binV T .andNot t (.u (.c (.d (.int k a)))) (.u (.c (.d (.int k' b))))=if k=k' then binI .andNot k a b else none:=rfl
@[simp]theorem binV_eql(T:Au)(t:TypeId)(k k':IntKind)(a b:Int):binV T .eql t (.u (.c (.d (.int k a)))) (.u (.c (.d (.int k' b))))=if k=k' then binI .eql k a b else none:=rfl
@[simp]theorem binV_neq(T:Au)(t:TypeId)(k k':IntKind)(a b:Int):binV T .neq t (.u (.c (.d (.int k a)))) (.u (.c (.d (.int k' b))))=if k=k' then binI .neq k a b else none:=rfl
@[simp]theorem binV_lss(T:Au)(t:TypeId)(k k':IntKind)(a b:Int):binV T .lss t (.u (.c (.d (.int k a)))) (.u (.c (.d (.int k' b))))=if k=k' then binI .lss k a b else none:=rfl
@[simp]theorem binV_leq(T:Au)(t:TypeId)(k k':IntKind)(a b:Int):binV T .leq t (.u (.c (.d (.int k a)))) (.u (.c (.d (.int k' b))))=if k=k' then binI .leq k a b else none:=rfl
@[simp]theorem binV_gtr(T:Au)(t:TypeId)(k k':IntKind)(a b:Int):binV T .gtr t (.u (.c (.d (.int k a)))) (.u (.c (.d (.int k' b))))=if k=k' then binI .gtr k a b else none:=rfl
@[simp]theorem binV_geq(T:Au)(t:TypeId)(k k':IntKind)(a b:Int):binV T .geq t (.u (.c (.d (.int k a)))) (.u (.c (.d (.int k' b))))=if k=k' then binI .geq k a b else none:=rfl
@[simp]theorem jkC(T:Au)(op:BinOp)(t:TypeId)(a b:Bool):binV T op t (.u (.c (.d (.bool a)))) (.u (.c (.d (.bool b))))=(T t).bind fun i=>(EH i (.u (.c (.d (.bool a)))) (.u (.c (.d (.bool b))))).bind (Gg op):=rfl
@[simp]theorem binV_agg(T:Au)(op:BinOp)(t:TypeId)(a b:List C):binV T op t (.u (.agg a)) (.u (.agg b))=(T t).bind fun i=>(EH i (.u (.agg a)) (.u (.agg b))).bind (Gg op):=rfl
@[simp]theorem binV_fn(T:Au)(op:BinOp)(t:TypeId)(f:FuncId)(l:List D):binV T op t (.u (.c (.d (.fn f l)))) (.u (.c (.d .nilFn)))=(T t).bind fun i=>(EH i (.u (.c (.d (.fn f l)))) (.u (.c (.d .nilFn)))).bind (Gg op):=rfl
@[simp]theorem jkW(T:Au)(op:BinOp)(t:TypeId):binV T op t (.u (.c (.d .nilFn))) (.u (.c (.d .nilFn)))=(T t).bind fun i=>(EH i (.u (.c (.d .nilFn))) (.u (.c (.d .nilFn)))).bind (Gg op):=rfl
@[simp]theorem cVal_int(k:IntKind)(n:Int):cVal (.int k n)=some (.u (.c (.d (.int k n)))):=rfl
@[simp]theorem jlk(b:Bool):cVal (.bool b)=some (.u (.c (.d (.bool b)))):=rfl
@[simp]theorem cVal_str(s:ByteArray):cVal (.string s)=some (.u (.c (.d (.str s)))):=rfl
@[simp]theorem cVal_nl:cVal (.slice none 0 0)=some (.u (.c .nl)):=rfl
@[simp]theorem jkS:cVal (.pointer none)=some (.u (.c (.d .nilPtr))):=rfl
@[simp]theorem jkV:cVal .nilFunc=some (.u (.c (.d .nilFn))):=rfl
@[simp]theorem onC_d(g:Nat→C→C)(x:D):C.on g (.d x)= .d x:=rfl
@[simp]theorem onC_nl(g:Nat→C→C):C.on g .nl= .nl:=rfl
@[simp]theorem onC_bad(g:Nat→C→C):C.on g .bad= .bad:=rfl
@[simp]theorem idC_d(x:D):C.id? (.d x)=none:=rfl
@[simp]theorem idC_nl:C.id? .nl=none:=rfl
@[simp]theorem idC_bad:C.id? .bad=none:=rfl
@[simp]theorem jlb(k:IntKind)(n:Int):D.flat (.int k n)=true:=rfl
@[simp]theorem jkI(b:Bool):D.flat (.bool b)=true:=rfl
@[simp]theorem jkO(s:ByteArray):D.flat (.str s)=true:=rfl
@[simp]theorem jlf:D.flat .nilFn=true:=rfl
@[simp]theorem jkL:D.flat .nilPtr=true:=rfl
@[simp]theorem res_nil(T:Au)(st:St):st.res T []=some (.tup []):=rfl
@[simp]theorem res_one(T:Au)(st:St)(a:ResultVar):st.res T [a]=(st.resU T a).map .u:=rfl
@[simp]theorem isPtr_d(x:D):EL (.d x)=false:=rfl
@[simp]theorem isPtr_nl:EL .nl=false:=rfl
@[simp]theorem jkE:EL .bad=false:=rfl
@[simp]theorem isPtr_sl(i o n:Nat):EL (.sl i o n)=false:=rfl
@[simp]theorem jkZ(i o:Nat):EL (.ptr i o)=true:=rfl
@[simp]theorem res_two(T:Au)(st:St)(a b:ResultVar)(r:List ResultVar):st.res T (a::b::r)=((a::b::r).mapM (st.resU T)).map .tup:=rfl
@[simp]theorem onC_sl(g:Nat→C→C)(i o n:Nat):C.on g (.sl i o n)=g i (.sl i o n):=rfl
@[simp]theorem onC_ptr(g:Nat→C→C)(i o:Nat):C.on g (.ptr i o)=g i (.ptr i o):=rfl
@[simp]theorem ld_row(sz:Nat)(cs:List D)(app:Bool)(off:Nat):Blk.ld (.row sz cs app) off=(cs[off]?).map fun x=> .c (.d x):=rfl
@[simp]theorem ld_box(cs:List C)(off:Nat):Blk.ld (.box cs) off=(cs[off]?).map .c:=rfl
@[simp]theorem ld_fbox(f:FuncId)(cs:List C):Blk.ld (.fbox f cs) 0=some (.clo f cs):=rfl
@[simp]theorem storeU_c(b off:Nat)(x:C)(st:St)(k:Blk):st.storeU b off (.c x) k=st.storeB b off [x] k:=rfl
@[simp]theorem jkY(b off:Nat)(xs:List C)(st:St)(k:Blk):st.storeU b off (.agg xs) k=st.storeB b off xs k:=rfl
@[simp]theorem jk6(b:Nat)(f:FuncId)(cs:List C)(st:St)(c:C):st.storeU b 0 (.clo f cs) (.box [c])=some (st.blk b (.fbox f cs)):=rfl
@[simp]theorem jkN(f:FuncId)(cs:List C):U.cells (.clo f cs)=[.bad]:=rfl
@[simp]theorem jld(x:Value):D.flat (.lit x)=true:=rfl
@[simp]theorem jk2:D.flat .any=true:=rfl
@[simp]theorem YS_eq:YS=1000000:=rfl
attribute [simp ↓] Xt Y3 C5
attribute [simp ↓] X3 jja jjZ jhd jgU jin jfC Zn jaT jah VL jhe jdb ji2
attribute [simp] Wx jbY jbi Y8
 jiI jic jje jj3 jcz XY WP jfQ jgK Yy jfc jbo jir X9 Wf jeY Wy jiK jjD jkh
 jfS jfF jc9 ifaceOf.eq_1 assertOf.eq_1 C.pure?.eq_1 C.pure?.eq_2 convC.eq_1 jjJ jaI Yq jfZ jgy jgL jia jgG VP jcx
 St.init BL A.toV St.ev St.put Xe jaM jaz Wc St.new St.purge AY St.on St.blk Do cVal.eq_1 vC V.on U.on C.on.eq_1 C.on.eq_2 Blk.on St.evC St.evI St.evB St.evU St.evUs St.evO lenC.eq_1 lenC.eq_2 lenC.eq_3 lenS.eq_1 Dv je0 Xf Lo NK
 WG Xx Y0 jgt jko jhI jcv jbl Xq Hd Ub vI vB cCell.eq_1 cCell.eq_2 cCell.eq_3 cCell.eq_4 cCell.eq_5 cCell.eq_6 binV.eq_1 binV.eq_2 binV.eq_4 binI.eq_1 binI.eq_2 binI.eq_3 binI.eq_4 binI.eq_5 binI.eq_6 binI.eq_7 binI.eq_8 binI.eq_9 binI.eq_10 binI.eq_11 binI.eq_12 binI.eq_13 binI.eq_14 binI.eq_15 DN Dw HX sliceV.eq_1 sliceV.eq_2 sliceV.eq_3 sliceS.eq_1 Fe St.load.eq_1 St.load.eq_2 St.store.eq_1 St.storeB build Blk.rd Blk.at DO mk TV Kg GU rep GC Fy Fw nilChk.eq_1 nilChk.eq_2 nilChk.eq_3 fldAddr.eq_1 fldAddr.eq_2 isRow idxSl.eq_1 idxSl.eq_2 idxArr.eq_1 idxArr.eq_2 idxAddr part fieldOf.eq_1 indexOf.eq_1 indexOf.eq_2 tupAt.eq_1 Nw pickV GX copyTo.eq_1 Ed St.appGo
 U.cells.eq_1 U.cells.eq_2 St.le Aw AA St.num St.shut St.cD toD Bu C.id?.eq_1 C.id?.eq_2 St.app.eq_1 St.app.eq_2 St.src.eq_1 St.src.eq_2 St.src.eq_3 Jj Uj jgH jib YZ Ox clo St.drop U.all St.argsW U.toA St.reachU DS Ee St.freezeK St.freeze St.sealW Nu fitV.eq_1 fitV.eq_2 fitU.eq_1 fitU.eq_2 fitC.eq_1 fitC.eq_2 fitC.eq_3 fitL.eq_1 fitL.eq_2 St.resU R.rows RU.rows RC.rows St.back R.flat RU.flat RC.flat D.flat.eq_1 D.flat.eq_2 D.flat.eq_3 R.imp RU.imp RC.imp
 IntKind.signed IntKind.bits shiftI.eq_1 shiftI.eq_2 KF ED EH Gg D9 Fx
section
variable {P:Program} {T:Au} {st:St} {k:Eff→Prop} {ops:List Oper} {d:Option Nat} {n:Nat} {ty:TypeId} {pos:String} {af:Array Edge} {g:Option (Nat×Bool)} {x y:Operand} {t:TypeId}
theorem jks(op:Op):C2 P T ops ⟨d,op,ty,pos,af,none⟩ st k=AV P T ⟨d,op,ty,pos,af,none⟩ st k:=rfl
def Uf(P:Program)(T:Au)(dj:Option Nat)(want:Bool)(o:Oper)(st:St)(k:Eff→Prop):Prop:=
 match dj with
 |some d=>BN want (lk d st.t) (AV P T o st k) (k (.val (.tup [])))
 |none=>False
theorem jg9(op:Op)(j:Nat)(want:Bool):C2 P T ops ⟨d,op,ty,pos,af,some (j,want)⟩ st k=Uf P T (Ht ops j) want ⟨d,op,ty,pos,af,some (j,want)⟩ st k:=rfl
theorem jgP(dj:Nat)(op:Op)(j:Nat)(want:Bool):Uf P T (some dj) want ⟨d,op,ty,pos,af,some (j,want)⟩ st k=BN want (lk dj st.t) (AV P T ⟨d,op,ty,pos,af,some (j,want)⟩ st k) (k (.val (.tup []))):=rfl
theorem Z7(want b:Bool)(k1 k2:Prop):BN want (some (.u (.c (.d (.bool b))))) k1 k2=((b=want→k1)∧(b= !want→k2)):=rfl
theorem jh3(want:Bool)(k1 k2:Prop):BN want (some (.tup [])) k1 k2=k2:=rfl
@[simp high]theorem gateE_tt(k1 k2:Prop):BN true (some (.u (.c (.d (.bool true))))) k1 k2=k1:=by simp[BN]
@[simp high]theorem gateE_tf(k1 k2:Prop):BN true (some (.u (.c (.d (.bool false))))) k1 k2=k2:=by simp[BN]
@[simp high]theorem gateE_ft(k1 k2:Prop):BN false (some (.u (.c (.d (.bool true))))) k1 k2=k2:=by simp[BN]
@[simp high]theorem gateE_ff(k1 k2:Prop):BN false (some (.u (.c (.d (.bool false))))) k1 k2=k1:=by simp[BN]
theorem jca(rest:List Oper)(S:St)(fin:List Oper→St→Prop):Bv P T ops [] rest S fin=fin rest S:=rfl
section
variable (rd nh bad ks:List Nat) (is:List DI) (o:Oper) (r:List Oper) (S:St) (fin:List Oper→St→Prop)
theorem Z5:Bv P T ops (⟨0,rd,nh,bad,ks⟩::is) (o::r) S fin=C2 P T ops o (B5 ⟨0,rd,nh,bad,ks⟩ S) (CB ⟨0,rd,nh,bad,ks⟩ o.dst S fun S'=>Bv P T ops is r S' fin):=if_neg (fun h:(_:Nat)=4=>by simp at h)
theorem jiP:Bv P T ops (⟨1,rd,nh,bad,ks⟩::is) (o::r) S fin=C2 P T ops o (B5 ⟨1,rd,nh,bad,ks⟩ S) (CB ⟨1,rd,nh,bad,ks⟩ o.dst S fun S'=>Bv P T ops is r S' fin):=if_neg (fun h:(_:Nat)=4=>by simp at h)
theorem jhO:Bv P T ops (⟨2,rd,nh,bad,ks⟩::is) (o::r) S fin=C2 P T ops o (B5 ⟨2,rd,nh,bad,ks⟩ S) (CB ⟨2,rd,nh,bad,ks⟩ o.dst S fun S'=>Bv P T ops is r S' fin):=if_neg (fun h:(_:Nat)=4=>by simp at h)
theorem jgA:Bv P T ops (⟨3,rd,nh,bad,ks⟩::is) (o::r) S fin=C2 P T ops o (B5 ⟨3,rd,nh,bad,ks⟩ S) (CB ⟨3,rd,nh,bad,ks⟩ o.dst S fun S'=>Bv P T ops is r S' fin):=if_neg (fun h:(_:Nat)=4=>by simp at h)
theorem Xg:Bv P T ops (⟨5,rd,nh,bad,ks⟩::is) (o::r) S fin=FI P o (B5 ⟨5,rd,nh,bad,ks⟩ S) (CB ⟨5,rd,nh,bad,ks⟩ o.dst S fun S'=>Bv P T ops is r S' fin):=(if_neg (show ¬((5:Nat)=4) by decide)).trans (if_pos rfl)
theorem YI:Bv P T ops (⟨4,rd,nh,bad,ks⟩::is) (o::r) S fin=DL T ops o (B5 ⟨4,rd,nh,bad,ks⟩ S) (CB ⟨4,rd,nh,bad,ks⟩ o.dst S fun S'=>Bv P T ops is r S' fin):=if_pos rfl
end
theorem Xm(len:Nat)(parts:List (Nat×Operand)):DL T ops ⟨some n,.buildSlice t len parts.toArray,ty,pos,af,none⟩ st k=
  Av ((T t).bind fun i=>i.sl.bind fun e=>(T e).bind fun j=>(st.evUs parts).bind fun l=>
  if len*j.size≤10000∧len≤10000 then (DO (GU j.size) (rep len j.zero) l).bind fun cs=>
   if j.size=1∧cs.any EL=true then none else
   if GD cs then (cs.mapM (toD (fun _=>false) st.h 4)).bind fun ds=>if ds.length=len*j.size then some (.dat (.slice len ds)) else none else none
  else none) k:=rfl
def UY(T:Au)(dj:Option Nat)(want:Bool)(o:Oper)(st:St)(k:Eff→Prop):Prop:=
 match dj with
 |some d=>BN want (lk d st.t) (Av (GT T o st) k) (k (.val (.tup [])))
 |none=>False
theorem jjX(op:Op)(j:Nat)(want:Bool):DL T ops ⟨d,op,ty,pos,af,some (j,want)⟩ st k=UY T (Ht ops j) want ⟨d,op,ty,pos,af,some (j,want)⟩ st k:=rfl
theorem jeg(dj:Nat)(op:Op)(j:Nat)(want:Bool):UY T (some dj) want ⟨d,op,ty,pos,af,some (j,want)⟩ st k=BN want (lk dj st.t) (DL T [] ⟨d,op,ty,pos,af,none⟩ st k) (k (.val (.tup []))):=rfl
theorem Wb(kk:Nat)(rd nh bad ks:List Nat)(d:Option Nat)(S:St)(K:St→Prop)(x:D):CB ⟨kk,rd,nh,bad,ks⟩ d S K (.dat x)=((kk==4)=true∧K (S.put d (vC (.d x)))):=rfl
theorem jhw(k:Nat)(rd nh bad ks:List Nat)(d:Option Nat)(S:St)(K:St→Prop)(v:V):CB ⟨k,rd,nh,bad,ks⟩ d S K (.val v)=(Ck bad v=true∧K (S.put d v)):=rfl
theorem jge(k:Nat)(rd nh bad ks:List Nat)(d:Nat)(S:St)(K:St→Prop)(b:Blk)(v:V):CB ⟨k,rd,nh,bad,ks⟩ (some d) S K (.new b v)=(((k==1||k==3||k==5)&&(Ck bad v&&Ei (d::bad) b))=true∧K ((S.blk d b).put (some d) v)):=rfl
theorem jdj(k:Nat)(rd nh bad ks:List Nat)(d:Option Nat)(S:St)(K:St→Prop)(i:Nat)(b:Blk):CB ⟨k,rd,nh,bad,ks⟩ d S K (.put i b)=((k==2&&(ks.contains i&&Ei bad b))=true∧K ((S.blk i b).put d (.tup []))):=rfl
theorem jiC(k:Nat)(rd nh bad ks:List Nat)(d:Nat)(S:St)(K:St→Prop)(i:Nat)(b:Blk)(v:V):CB ⟨k,rd,nh,bad,ks⟩ (some d) S K (.app i b v)=(((k==3||k==5)&&(ks.contains i&&(Ck bad v&&Ei (d::bad) b)))=true∧K (((S.drop i).blk d b).put (some d) v)):=rfl
theorem jj0(rest:List Oper)(K:St→Prop)(st:St):DX P T ops [] rest K st=K st:=rfl
theorem jdN(r:List Seg)(o:Oper)(rest:List Oper)(K:St→Prop)(st:St):DX P T ops (.one::r) (o::rest) K st=B3 P T ops o st (DX P T ops r rest K):=rfl
theorem jfE(ids ds:List Nat)(is:List DI)(r:List Seg)(rest:List Oper)(K:St→Prop)(st:St):
  DX P T ops (.any ids ds is::r) rest K st=Bv P T ops is rest (purges ds (st.freeze ids)) fun rest' s=>DX P T ops r rest' K s:=rfl
theorem Zf(s:St):purges [] s=s:=rfl
theorem jcO(i:Nat)(l:List Nat)(s:St):purges (i::l) s=purges l (s.purge i):=rfl
theorem jiy(v:V):Ck [] v=true:=rfl
theorem WH(l:List Nat)(x:D):Ck l (.u (.c (.d x)))=true:=jzy.2 fun _ _=>rfl
theorem jhv(l:List Nat):Ck l (.u (.c .nl))=true:=jzy.2 fun _ _=>rfl
theorem jjL(l:List Nat)(i o:Nat):Ck l (.u (.c (.ptr i o)))=l.all fun d=>i !=d:=by
 unfold Ck;congr 1
theorem ZN(l:List Nat)(i o n:Nat):Ck l (.u (.c (.sl i o n)))=l.all fun d=>i !=d:=by
 unfold Ck;congr 1
theorem jgd(l:List Nat)(cs:List C):Ck l (.u (.agg cs))=l.all fun d=> !cs.any (C.men d):=rfl
theorem jku(l:List Nat)(f:FuncId)(cs:List C):Ck l (.u (.clo f cs))=l.all fun d=> !cs.any (C.men d):=rfl
theorem jcS(l:List Nat)(us:List U):Ck l (.tup us)=l.all fun d=> !us.any (U.men d):=rfl
theorem jjy(l:List Nat)(sz:Nat)(cs:List D)(a:Bool):Ei l (.row sz cs a)=true:=jzy.2 fun _ _=>rfl
theorem jgm(l:List Nat)(cs:List C):Ei l (.box cs)=l.all fun d=> !cs.any (C.men d):=rfl
theorem jco(l:List Nat)(f:FuncId)(cs:List C):Ei l (.fbox f cs)=l.all fun d=> !cs.any (C.men d):=rfl
theorem jhS(l:List Nat)(x:Value)(ys:List (List A)):Ck l (.tr x ys)=true:=jzy.2 fun _ _=>rfl
theorem VR(d:Nat)(x:D):C.men d (.d x)=false:=rfl
theorem jjm(d:Nat):C.men d .nl=false:=rfl
theorem jg2(d:Nat):C.men d .bad=false:=rfl
theorem Ve(d i o n:Nat):C.men d (.sl i o n)=(i==d):=rfl
theorem je3(d i o:Nat):C.men d (.ptr i o)=(i==d):=rfl
theorem jjY(d:Nat)(c:C):U.men d (.c c)=C.men d c:=rfl
theorem jby(d:Nat)(cs:List C):U.men d (.agg cs)=cs.any (C.men d):=rfl
def selT(rd:List Nat):List (Nat×V)→List (Nat×V)
 |[]=>[]
 |(k,v)::r=>cond (rd.contains k) ((k,v)::selT rd r) (selT rd r)
theorem Ui(rd:List Nat): ∀l,selT rd l=l.filter fun e=>rd.contains e.1
 |[]=>rfl
 |(k,v)::r=>by
  rw[List.filter_cons,selT,Ui rd r]
  cases h:rd.contains k<;>simp[h]
def Gp:List Nat→Nat→Bool
 |[],_=>false
 |a::r,k=>cond (k==a) true (Gp r k)
theorem M3: ∀(l:List Nat) (k:Nat),l.contains k=Gp l k
 |[],_=>rfl
 |a::r,k=>by
  rw[List.contains_cons,Gp,M3 r k]
  cases k==a<;>rfl
theorem jf5(k:Nat)(rd nh bad ks:List Nat)(S:St):B5 ⟨k,rd,nh,bad,ks⟩ S=⟨selT rd S.t,IP nh S.h⟩:=by
 unfold B5;rw[Ui]
theorem jhP(rd:List Nat)(k:Nat)(v:V)(r:List (Nat×V)):selT rd ((k,v)::r)=cond (Gp rd k) ((k,v)::selT rd r) (selT rd r):=by
 rw[selT,M3]
theorem WU(h:List (Nat×Blk)):IP [] h=h:=rfl
theorem jd1(a:Nat)(r:List Nat)(h:List (Nat×Blk)):IP (a::r) h=h.filter fun e=> !Gp (a::r) e.1:=by
 have:(fun e:Nat×Blk=> !Gp (a::r) e.1)=fun e=> !(a::r).contains e.1:=by funext e;rw[M3]
 rw[this]
 rfl
theorem XZ:AV P T ⟨d,.move x,ty,pos,af,g⟩ st k=Av ((st.ev x).map .val) k:=rfl
theorem jdT:AV P T ⟨d,.assign (.const (.slice none 0 0)),ty,pos,af,g⟩ st k=Av (d.bind fun d=>(T ty).bind fun i=>i.sl.bind fun e=>(T e).map fun j=> .new (.row j.size [] true) (vC (.sl d 0 0))) k:=rfl
theorem jcY(i:Nat):AV P T ⟨d,.assign (.tmp i),ty,pos,af,g⟩ st k=Av ((lk i st.t).map .val) k:=rfl
theorem jbs(kd:IntKind)(n:Int):AV P T ⟨d,.assign (.const (.int kd n)),ty,pos,af,g⟩ st k=k (.val (vI kd n)):=C5 _ _
theorem ja8(b:Bool):AV P T ⟨d,.assign (.const (.bool b)),ty,pos,af,g⟩ st k=k (.val (vB b)):=C5 _ _
theorem jf4(cs:Array Value):AV P T ⟨d,.assign (.const (.agg cs)),ty,pos,af,g⟩ st k=Av ((cVal (.agg cs)).map .val) k:=rfl
theorem jis:AV P T ⟨d,.load t x,ty,pos,af,g⟩ st k=Av ((T t).bind fun i=>(st.evC x).bind fun c=>(st.load i c).map fun u=> .val (.u u)) k:=rfl
theorem Vy:AV P T ⟨d,.nilCheck x,ty,pos,af,g⟩ st k=Av ((st.evC x).bind fun c=>(nilChk c).map fun c=> .val (vC c)) k:=rfl
theorem jck(op:BinOp)(t':TypeId):AV P T ⟨d,.binOp op t x y t',ty,pos,af,g⟩ st k=Av ((st.ev x).bind fun a=>(st.ev y).bind fun b=>(binV T op t a b).map .val) k:=rfl
theorem jcp(f:Nat):AV P T ⟨d,.fieldAddr t x f,ty,pos,af,g⟩ st k=Av ((T t).bind fun i=>(st.evC x).bind fun c=>(i.flds[f]?).bind fun p=>(T p.2).bind fun j=>if j.size=0 then none else (fldAddr p.1 c).map fun c=> .val (vC c)) k:=rfl
theorem jbZ(i:Operand):AV P T ⟨d,.indexAddr t x i,ty,pos,af,g⟩ st k=Av ((T t).bind fun ti=>(st.evC x).bind fun c=>(st.evI i).bind fun n=>(idxAddr T st.h ti n.2 c).map fun c=> .val (vC c)) k:=rfl
theorem Xc(i:Nat):AV P T ⟨d,.extract x i,ty,pos,af,g⟩ st k=Av ((st.ev x).bind fun v=>(tupAt i v).map fun u=> .val (.u u)) k:=rfl
theorem jfD:AV P T ⟨d,.store t x y,ty,pos,af,g⟩ st k=Av ((T t).bind fun i=>(st.evC x).bind fun c=>(st.evU y).bind fun u=>effStore i c u st) k:=rfl
theorem jhp(f:Operand)(args:List Operand)(ts:Array TypeId):AV P T ⟨d,.call ⟨.value f,args.toArray,ts⟩,ty,pos,af,g⟩ st k=Av (st.evU f) (GN P d args st k):=rfl
theorem jhH(b:Builtin)(args:List Operand)(ts:List TypeId):AV P T ⟨d,.call ⟨.builtin b,args.toArray,ts.toArray⟩,ty,pos,af,g⟩ st k=Av (effBuiltin T b ts args d st) k:=rfl
theorem WX(a b c:Operand):AV P T ⟨d,.pick c a b,ty,pos,af,g⟩ st k=Av ((st.evB c).bind fun c=>(pickV c (st.ev a) (st.ev b)).map .val) k:=rfl
theorem jcw:AV P T ⟨d,.alloc t,ty,pos,af,g⟩ st k=Av ((T t).bind fun i=>d.map fun d=> .new (.box i.zero) (vC (.ptr d 0))) k:=rfl
theorem jhm:AV P T ⟨d,.box t x,ty,pos,af,g⟩ st k=Av ((T t).bind fun i=>(st.evU x).bind fun u=>if u.cells.length=i.size then d.map fun d=> .new (.box u.cells) (vC (.ptr d 0)) else none) k:=rfl
theorem jky(parts:List (Nat×Operand)):AV P T ⟨d,.build t parts.toArray,ty,pos,af,g⟩ st k=Av ((T t).bind fun i=>(st.evUs parts).bind fun l=>(build T i l).map fun u=> .val (.u u)) k:=rfl
theorem jfa(len:Nat)(parts:List (Nat×Operand)):AV P T ⟨d,.buildSlice t len parts.toArray,ty,pos,af,g⟩ st k=
  Av ((T t).bind fun i=>i.sl.bind fun e=>(T e).bind fun j=>(st.evUs parts).bind fun l=>d.bind fun d=>effBsl d j len st.h l) k:=rfl
theorem jeo:AV P T ⟨d,.makeSlice t x y,ty,pos,af,g⟩ st k=Av ((T t).bind fun i=>i.sl.bind fun e=>(T e).bind fun j=>(st.evI x).bind fun l=>(st.evI y).bind fun c=>d.bind fun d=>IU d j l.2 c.2) k:=rfl
theorem Y6(lo hi:Option Operand):AV P T ⟨d,.slice t x lo hi none,ty,pos,af,g⟩ st k=
  Av ((T t).bind fun i=>(st.evC x).bind fun c=>(st.evO lo).bind fun l=>(st.evO hi).bind fun h=>
   (match i.sl with|some e=>(T e).bind fun j=>sliceV st.h c l h j.size|none=>if Dv i then sliceS c l h else none).map fun v=> .val (vC v)) k:=rfl
theorem jb5(f:FuncId)(caps:List Operand):AV P T ⟨d,.makeFunc (.func f) #[] caps.toArray,ty,pos,af,g⟩ st k=Av ((caps.mapM st.evC).map fun cs=> .val (.u (clo [] f cs))) k:=rfl
theorem jdY:AV P T ⟨d,.unOp .not t x,ty,pos,af,g⟩ st k=Av ((st.evB x).map fun b=> .val (vB !b)) k:=rfl
theorem jb9:AV P T ⟨d,.unOp .neg t x,ty,pos,af,g⟩ st k=Av ((st.evI x).bind fun p=>(DN p.1 (0 - p.2)).map .val) k:=rfl
theorem XD(s:TypeId):AV P T ⟨d,.convert s t x,ty,pos,af,g⟩ st k=Av ((T s).bind fun j=>(T t).bind fun i=>(st.evC x).bind fun c=>(convC T st.h j i c).map .val) k:=rfl
theorem jhC(f:Nat):AV P T ⟨d,.field t x f,ty,pos,af,g⟩ st k=Av ((T t).bind fun i=>(st.evU x).bind fun u=>(fieldOf T i f u).map fun u=> .val (.u u)) k:=rfl
theorem jdz(i:Operand):AV P T ⟨d,.index t x i,ty,pos,af,g⟩ st k=Av ((T t).bind fun ti=>(st.evU x).bind fun u=>(st.evI i).bind fun n=>(indexOf T ti n.2 u).map fun u=> .val (.u u)) k:=rfl
theorem jcZ(f:Operand)(args:List Operand)(ts:Array TypeId):FI P ⟨d,.call ⟨.value f,args.toArray,ts⟩,ty,pos,af,none⟩ st k=Av (st.evU f) (Hk P d args st k):=rfl
theorem jij(args:List Operand)(h:FuncId):Hk P d args st k (.c (.d (.fn h [])))=Av (args.mapM st.evU) (TH P d st k h):=rfl
theorem jfh(args:List Operand)(h:FuncId)(caps:List D):GN P d args st k (.c (.d (.fn h caps)))=Av (args.mapM st.evU) (G6 P d st k h caps):=rfl
theorem Xr(args:List Operand)(h:FuncId)(cs:List C):GN P d args st k (.clo h cs)=Av (args.mapM st.evU) (L3 P d st k h cs):=rfl
theorem ZR(h:FuncId)(cs:List C)(us:List U):L3 P d st k h cs us=G6 P d st k h [] (us++cs.map .c):=rfl
theorem jjB(h:FuncId)(caps:List D)(us:List U):G6 P d st k h caps us=Av (st.argsW (st.reachU us) us caps) (fun as=>Hj P h as (Ny d us k)):=rfl
theorem jbg(us:List U)(res:R):Ny d us k res=((res.flat=true∨GJ us=true)∧k (EA d res)):=rfl
end
attribute [simp ↓] jks jg9 jgP jca Z5 jiP jhO jgA YI Xg jj0 jdN jfE
attribute [simp] Z7 jh3 jhw Wb Xm jjX jeg jge jdj jiC Zf jcO jiy WH jhv jjL ZN jgd jku jcS jjy jgm jco jhS VR jjm jg2 Ve je3 jjY jby
 jf5 selT.eq_1 jhP Gp WU jd1 XZ jdT jcY jbs ja8 jf4 jis Vy jck jcp jbZ Xc jfD jhp jhH WX jcw jhm jky jfa jeo Y6 jb5 jdY jb9 XD jhC jdz
 jcZ jij jfh Xr ZR jjB jbg EA GJ GD effStore effBsl Iv effApp.eq_1 effApp.eq_2 IU effBuiltin
end Go.Va
