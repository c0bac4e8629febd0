/- a part of the proof -/
import Derived.Test.YtkfdniccmcolgaaGreatQai
set_option linter.all false
namespace Go.Va
open Go.RowKit
section
variable {P:Program} {T:At} {ops:List Oper} {pl:List (List Nat)} {ds:List Nat}
theorem V0{fin:List Oper→St→Prop}: ∀(is:List DI) (rest:List Oper) (S:St),BI P T ops is rest S fin→
  ∃(xs:List Step) (S':St),xs.length=is.length∧is.length≤rest.length∧fin (rest.drop is.length) S'∧S'.fs=S.fs.run xs∧
   ∀p i,is[p]? =some i→ ∃o x,rest[p]? =some o∧xs[p]? =some ⟨o.dst,x⟩∧E1 i (o.dst.getD 0) x=true∧ ∃Sm:St,Sm.fs=S.fs.run (xs.take p)∧EB P T ops o (CY i Sm) x
 |[],rest,S,h=>⟨[],S,rfl,Nat.zero_le _,h,rfl,fun p i hp=>by simp at hp⟩
 |i::is,[],S,h=>h.elim
 |i::is,o::r,S,h=>by
  obtain⟨x,hx,hok,h⟩: ∃x,EB P T ops o (CY i S) x∧DE i o.dst S (fun S'=>BI P T ops is r S' fin) x:=by
   unfold BI at h;split at h
   ·exact jfR h
   ·split at h
    ·exact jhb h
    ·exact jfS h
  obtain⟨xs,S',h1,h2,h3,h4,h5⟩:=V0 is r _ h
  rw[Xv]at h4 h5
  refine⟨⟨o.dst,x⟩::xs,S',by simp[h1],by simpa using h2,by simpa using h3,h4,fun p j hp=> ?_⟩
  cases p with
  |zero=>
   simp only[List.getElem?_cons_zero,Option.some.injEq]at hp;subst hp;exact⟨o,x,rfl,rfl,hok,S,rfl,hx⟩
  |succ p=>
   obtain⟨o',x',g1,g2,g3,Sm,g4,g5⟩:=h5 p j (by simpa using hp)
   exact⟨o',x',by simpa using g1,by simpa using g2,g3,Sm,by rw[g4];rfl,g5⟩
theorem Xc(ds:List Nat)(st:St){d:Nat}(h:d∈ds):(purges ds st).fs.Clean d:=PX d ds st (.inl h)
theorem jaQ(hlt: ∀j i,BM pl j i=true→j<i){lo:Nat}{is:List DI}{st:St}{ids:List Nat}{K:St→Prop}(hfit:lo+is.length≤ops.length)(hcut:Kj ops pl (lo+is.length)=true)
  (hi:P0 ops pl ds lo is=true) {n:Nat} (h:BI P T ops is (ops.drop lo) (purges ds (st.freeze ids)) fun rest s=>rest=ops.drop (lo+is.length)→Ha P T ops (BM pl) n (lo+is.length) s K):
  Ha P T ops (BM pl) (n+1) lo st K:=by
 obtain⟨xs,S',hlen,_,hK,hS',hd⟩:=V0 is (ops.drop lo) _ h
 rw[List.drop_drop]at hK
 have hK:=hK rfl;generalize hF0:(purges ds (st.freeze ids)).fs=F0 at hS' hd;have hclean: ∀d,d∈ds→F0.Clean d:=fun d h=>hF0 ▸ Xc ds _ h
 let f:Nat→Step:=fun i=>if i<lo then ⟨none,.val (.tup [])⟩ else xs.getD (i - lo) default
 have flo: ∀i,i<lo→f i=⟨none,.val (.tup [])⟩:=fun i h=>if_pos h
 have fget: ∀p,p<is.length→ ∃o x,ops[lo+p]? =some o∧f (lo+p)=⟨o.dst,x⟩∧E1 is[p]! (o.dst.getD 0) x=true∧ ∃Sm:St,Sm.fs=F0.run (xs.take p)∧EB P T ops o (CY is[p]! Sm) x:=fun p hp=>by
  have hip:is[p]? =some is[p]! :=by rw[Ai hp,List.getElem!_of_getElem? (Ai hp)]
  obtain⟨o,x,g1,g2,g3,g4⟩:=hd p _ hip
  refine⟨o,x,by simpa [List.getElem?_drop]using g1,?_,g3,g4⟩
  show(if lo+p<lo then _ else xs.getD (lo+p - lo) default)=_
  rw[if_neg (by omega),Nat.add_sub_cancel_left,Ar,g2]
  rfl
 have frun: ∀p,p≤is.length→F0.run ((List.range (lo+p)).map f)=F0.run (xs.take p):=fun p hp=>by
  rw[List.range_add,List.map_append,FS.run_append,NR F0 ((List.range lo).map f)]
  ·congr 1
   apply List.ext_getElem?
   intro q;simp only[List.map_map,Bw,List.getElem?_take];by_cases hq:q<p
   ·rw[if_pos hq,List.getElem?_range hq]
    simp only[Option.map_some,Function.comp_apply,f];rw[if_neg (by omega),Nat.add_sub_cancel_left,Ar,Ai (by omega)]
    rfl
   ·rw[if_neg hq,BG (by simpa using hq)]
    rfl
  ·intro s hs;obtain⟨j,hj,rfl⟩:=jzk.1 hs;exact flo j (List.mem_range.1 hj)
 let Em:Nat→St:=fun i=>if h:lo≤i∧i<lo+is.length then CY is[i - lo]! (Classical.choose (fget (i - lo) (by omega)).choose_spec.choose_spec.2.2.2) else ⟨[],[]⟩
 have hE: ∀p,(hp:p<is.length)→ ∃o x,ops[lo+p]? =some o∧f (lo+p)=⟨o.dst,x⟩∧E1 is[p]! (o.dst.getD 0) x=true∧ ∃Sm:St,Sm.fs=F0.run (xs.take p)∧Em (lo+p)=CY is[p]! Sm∧EB P T ops o (CY is[p]! Sm) x:=fun p hp=>by
  have hsp:=(fget p hp).choose_spec.choose_spec;refine⟨_,_,hsp.1,hsp.2.1,hsp.2.2.1,Classical.choose hsp.2.2.2,(Classical.choose_spec hsp.2.2.2).1,?_,(Classical.choose_spec hsp.2.2.2).2⟩;have e:lo+p - lo=p:=Nat.add_sub_cancel_left ..;simp only[Em];rw[dif_pos ⟨Nat.le_add_right ..,by omega⟩]
  congr 1<;>simp only[e]
 have hE0: ∀i,i<lo→Em i=⟨[],[]⟩:=fun i h=>by simp only[Em];rw[dif_neg (by omega)]
 have hdst: ∀p,p<is.length→(f (lo+p)).d=Dr ops (lo+p):=fun p hp=>by
  obtain⟨o,x,g1,g2,_⟩:=fget p hp
  rw[g2]
  unfold Dr;rw[g1];rfl
 have hip: ∀p,p<is.length→(is[p]!,p)∈is.zipIdx:=fun p hp=>by
  rw[List.mem_zipIdx_iff_getElem?,Ai hp,List.getElem!_of_getElem? (Ai hp)]
 have hnew: ∀p,p<is.length→ ∀d∈Gk (Dr ops (lo+p)) is[p]!,d∈ds∧d∉is[p]!.ks:=fun p hp d hd=>by
  have:=jzy.1 hi _ (hip p hp)
  rw[Ax]at this
  have:=jzy.1 this.1 d hd
  simpa using this
 have hbeside: ∀p q,p<is.length→q<is.length→LT pl (lo+p) (Dr ops (lo+p)) is[p]! (lo+q) (Dr ops (lo+q)) is[q]! =true:=fun p q hp hq=>by
  have:=jzy.1 hi _ (hip p hp)
  rw[Ax]at this
  exact jzy.1 this.2 _ (hip q hq)
 have hinc: ∀p q,p<is.length→q<is.length→p≠q→BM pl (lo+p) (lo+q)=false→BM pl (lo+q) (lo+p)=false→
   (∀t,(f (lo+q)).d=some t→t∉is[p]!.rd∧(f (lo+p)).d≠some t)∧ ∀k,k∈DS (Dr ops (lo+q)) is[q]! →k∈is[p]!.nh∧k∉DS (Dr ops (lo+p)) is[p]! :=fun p q hp hq hne h1 h2=>by
  have:=hbeside p q hp hq
  unfold LT at this;have hb:O7 pl (lo+p) (lo+q)=true:=by unfold O7;simp[hne,h1,h2]
  rw[hb,Ax]at this
  have:=this.1
  simp only[Bool.not_true,Bool.false_or,Ax]at this;refine⟨fun t ht=> ?_,fun k hk=>⟨?_,?_⟩⟩
  ·rw[hdst q hq]at ht
   rw[hdst p hp]
   rw[ht]at this
   have:=this.1
   simp only[Ax,Bool.not_eq_true',bne_iff_ne,ne_eq]at this;exact⟨by simpa using this.1,this.2⟩
  ·have:=jzy.1 this.2.1 k hk
   simpa using this
  ·have:=jzy.1 this.2.2 k hk
   simpa using this
 have hhit: ∀p,p<is.length→ ∀k,(f (lo+p)).hits k→k∈DS (Dr ops (lo+p)) is[p]! :=fun p hp k hk=>by
  obtain⟨o,x,g1,g2,g3,_⟩:=fget p hp
  rw[←hdst p hp]
  exact Pu (s:=f (lo+p)) (by rw[g2];exact g3) hk
 have hcl: ∀p q,p<is.length→q<is.length→p≠q→BM pl (lo+q) (lo+p)=false→ ∀d∈Gk (Dr ops (lo+q)) is[q]!,(f (lo+p)).Clean d:=fun p q hp hq hne h1 d hd=>by
  have:=hbeside p q hp hq
  unfold LT at this;rw[Ax]at this;have:=this.2;rw[show(lo+p==lo+q)=false by simpa using hne,h1]at this
  simp only[Bool.false_or]at this;have:=jzy.1 this d hd;rw[Ax]at this;obtain⟨o,x,g1,g2,g3,_⟩:=fget p hp;refine jbP (s:=f (lo+p)) (i:=is[p]!) (by rw[g2];exact g3) (by simpa using this.1) ?_
  rw[hdst p hp]
  simpa using this.2
 have split: ∀i,i<lo+is.length→i<lo∨ ∃p,p<is.length∧i=lo+p:=fun i h=>by
  rcases Nat.lt_or_ge i lo with h1|h1
  ·exact .inl h1
  ·exact .inr ⟨i - lo,by omega,by omega⟩
 have idle: ∀k,¬(⟨none,.val (.tup [])⟩:Step).hits k:=fun k h=>by simp[Step.hits,Eff.b]at h
 right;right
 refine⟨lo+is.length,ids,ds,f,Em,Nat.le_add_right ..,hfit,Wr hcut,?_,flo,?_,S',?_,hK⟩
 ·rw[hF0]
  refine⟨hlt,fun i j hij hj hp=> ?_,fun i hi t v hv=> ?_,fun i hi k b hb=> ?_⟩
  ·rcases split j hj with h1|⟨q,hq,rfl⟩
   ·rw[flo j h1]
    exact⟨fun t ht=>(by cases ht),fun k hk=>absurd hk (idle k)⟩
   ·rcases split i (by omega)with h1|⟨p,hp',rfl⟩
    ·rw[flo i h1]
     exact⟨fun t _ h=>(by cases h),fun k _ hk=>absurd hk (idle k)⟩
    ·have hne:p≠q:=by omega
     have h2:BM pl (lo+q) (lo+p)=false:=by
      cases h:BM pl (lo+q) (lo+p)with
      |false=>rfl
      |true=>have:=hlt _ _ h;omega
     obtain⟨a1,a2⟩:=hinc p q hp' hq hne hp h2
     exact⟨fun t ht=>(a1 t ht).2,fun k hk hk'=>(a2 k (hhit q hq k hk)).2 (hhit p hp' k hk')⟩
  ·rcases split i hi with h1|⟨p,hp,rfl⟩
   ·rw[hE0 i h1]at hv;cases hv
   ·obtain⟨o,x,g1,g2,g3,Sm,g4,g5,_⟩:=hE p hp
    rw[g5]at hv
    obtain⟨e1,e2⟩:=Lc (fun t=>is[p]!.rd.contains t) t Sm.t v hv
    refine⟨?_,fun j hj hne hp1 hp2 hs=> ?_⟩
    ·rw[frun p (by omega),←g4];exact e1
    ·rcases split j hj with h1|⟨q,hq,rfl⟩
     ·rw[flo j h1]at hs;cases hs
     ·exact((hinc p q hp hq (by omega) hp2 hp1).1 t hs).1 (by simpa using e2)
  ·rcases split i hi with h1|⟨p,hp,rfl⟩
   ·rw[hE0 i h1]at hb;cases hb
   ·obtain⟨o,x,g1,g2,g3,Sm,g4,g5,_⟩:=hE p hp
    rw[g5]at hb
    obtain⟨e1,e2⟩:=jhm hb
    refine⟨?_,fun j hj hne hp1 hp2 hs=> ?_⟩
    ·rw[frun p (by omega),←g4];exact e1
    ·rcases split j hj with h1|⟨q,hq,rfl⟩
     ·rw[flo j h1]at hs;exact idle k hs
     ·have:=((hinc p q hp hq (by omega) hp2 hp1).2 k (hhit q hq k hs)).1
      exact absurd this (by simpa using e2)
 ·rw[hF0]
  intro i o hlo hhi ho L s hLi hc hsub hfs K' hK';obtain⟨p,rfl⟩: ∃p,i=lo+p:=⟨i - lo,by omega⟩
  have hp:p<is.length:=by omega
  obtain⟨o',x,g1,g2,g3,Sm,g4,g5,g6⟩:=hE p hp
  rw[ho]at g1
  cases g1;rw[g5]at hsub
  refine Zx g6 hsub ?_ (fun s' hs'=>hK' s' (by rw[hs',g2]))
  have key:(∀d,d∈Gk (Dr ops (lo+p)) is[p]! →s.fs.Clean d):=fun d hd=>by
   rw[hfs]
   refine WU _ _ (hclean d (hnew p hp d hd).1) fun s1 hs1=> ?_
   obtain⟨j,hj,rfl⟩:=jzk.1 hs1
   obtain⟨hj1,hj2⟩:=List.mem_filter.1 hj
   rcases split j (List.mem_range.1 hj1)with h1|⟨q,hq,rfl⟩
   ·rw[flo j h1];exact⟨rfl,fun k b hb=>by simp[Eff.b]at hb⟩
   ·have hne:q≠p:=fun e=>by rw[e,hLi]at hj2;cases hj2
    refine hcl q p hq hp hne ?_ d hd;cases h:BM pl (lo+p) (lo+q)with
    |false=>rfl
    |true=>have:=hc _ hj2 _ h;rw[hLi]at this;cases this
  have hod:o.dst=Dr ops (lo+p):=by unfold Dr;rw[ho];rfl
  cases x with
  |val v=>trivial
  |dat v=>
   simp only[E1,beq_iff_eq]at g3;refine key _ ?_;rw[←hod];unfold Gk;rw[if_pos (.inr (.inr (.inl g3)))];exact List.mem_cons_self ..
  |put k b=>trivial
  |new b v=>
   simp only[E1,Ax,Bool.or_eq_true,beq_iff_eq]at g3;refine⟨key _ ?_,JD g3.2.2 (List.mem_cons_self ..)⟩;rw[←hod];unfold Gk;rw[if_pos (g3.1.elim (fun h=>h.elim .inl fun h=> .inr (.inl h)) fun h=> .inr (.inr (.inr h)))]
   exact List.mem_cons_self ..
  |app k b v=>
   simp only[E1,Ax,Bool.or_eq_true,beq_iff_eq]at g3;refine⟨key _ ?_,JD g3.2.2.2 (List.mem_cons_self ..)⟩;rw[←hod];unfold Gk;rw[if_pos (g3.1.elim (fun h=> .inr (.inl h)) fun h=> .inr (.inr (.inr h)))]
   exact List.mem_cons_self ..
 ·rw[hF0,hS',frun _ (AA _),←hlen,AZ]
theorem Dy{α:Type}{x:Option α}{k k':α→Prop}(h: ∀y,k y→k' y)(hx:As x k):As x k':=by
 obtain⟨y,hy,hk⟩:=hx
 exact⟨y,hy,h y hk⟩
theorem jap{dst:Option Nat}{st:St}{K K':St→Prop}(h: ∀s,K s→K' s){g:FuncId}{caps:List D}{us:List U}(hw:J1 P dst st K g caps us):J1 P dst st K' g caps us:=by
 rcases hw with⟨ids,r,h1,h2,a,b,c,d,e⟩|⟨x,ys,rest,as,a,b,c,d⟩|⟨e,x,ys,rest,as,f,cl,zs,a,b,c,d,k⟩|(⟨e,us0,f,cs,as,ys,H,fz,ids,nw,a,b,c,d,k,m⟩|⟨e,us0,f0,k0,f,cs,as,ys,zs,H,fz,ids,nw,a,b,c,d,k,l,m,n,q⟩|⟨e,sz,m,d,cs',us',as,a,b,c,q,f⟩|⟨e,fz,k,n,sz,m,d,cs,cs',us',as,a,a',b,c,q,f,l⟩)|⟨e,k,n,sz,m,d,cs,cs',us',as,a,b,c,q,f,l⟩
 ·exact .inl ⟨ids,r,h1,h2,a,b,c,d,h _ e⟩
 ·exact .inr (.inl ⟨x,ys,rest,as,a,b,c,h _ d⟩)
 ·exact .inr (.inr (.inl ⟨e,x,ys,rest,as,f,cl,zs,a,b,c,d,h _ k⟩))
 ·exact .inr (.inr (.inr (.inl (.inl ⟨e,us0,f,cs,as,ys,H,fz,ids,nw,a,b,c,d,k,h _ m⟩))))
 ·exact .inr (.inr (.inr (.inl (.inr (.inl ⟨e,us0,f0,k0,f,cs,as,ys,zs,H,fz,ids,nw,a,b,c,d,k,l,m,n,h _ q⟩)))))
 ·exact .inr (.inr (.inr (.inl (.inr (.inr (.inl ⟨e,sz,m,d,cs',us',as,a,b,c,q,h _ f⟩))))))
 ·exact .inr (.inr (.inr (.inl (.inr (.inr (.inr ⟨e,fz,k,n,sz,m,d,cs,cs',us',as,a,a',b,c,q,f,h _ l⟩))))))
 ·exact .inr (.inr (.inr (.inr ⟨e,k,n,sz,m,d,cs,cs',us',as,a,b,c,q,f,h _ l⟩)))
theorem V2{dst:Option Nat}{st:St}{K K':St→Prop}(h: ∀s,K s→K' s){g:FuncId}{caps:List D}{us:List U}(hw:Ga P dst st K g caps us):Ga P dst st K' g caps us:=by
 rcases hw with⟨as,a,res,b,c⟩|hw
 ·exact .inl ⟨as,a,res,b,h _ c⟩
 ·exact .inr (jap h hw)
theorem Q3{o:Oper}{st:St}{K K':St→Prop}(h: ∀s,K s→K' s)(hw:wpOp P T o st K):wpOp P T o st K':=by
 unfold wpOp at hw ⊢
 revert hw
 split<;>intro hw
 ·refine Dy (fun u hu=> ?_) hw
  unfold FD at hu ⊢
  revert hu
  split<;>intro hu
  ·exact Dy (fun us hus=>V2 h hus) hu
  ·exact Dy (fun us hus=>V2 h hus) hu
  ·exact Dy (fun us ⟨as,rest,a,b,c⟩=>⟨as,rest,a,b,h _ c⟩) hu
  ·exact hu.elim
 ·exact Dy h hw
theorem XA{o:Oper}{st:St}{K K':St→Prop}(h: ∀s,K s→K' s)(hw:CK P T ops o st K):CK P T ops o st K':=by
 unfold CK at hw ⊢
 revert hw
 split<;>intro hw
 ·exact Q3 h hw
 ·revert hw
  split<;>intro hw
  ·unfold EC at hw ⊢
   revert hw
   split<;>intro hw
   ·exact⟨fun hb=>Q3 h (hw.1 hb),fun hb=>h _ (hw.2 hb)⟩
   ·exact h _ hw
   ·exact hw.elim
  ·exact hw.elim
theorem QR{o:Oper}{E:St}{k k':Eff→Prop}(h: ∀x,k x→k' x)(hw:Bb P T o E k):Bb P T o E k':=by
 unfold Bb at hw ⊢
 revert hw
 split<;>intro hw
 ·refine Dy (fun u hu=> ?_) hw
  unfold HY at hu ⊢
  revert hu
  split<;>intro hu
  ·exact Dy (fun us hus=>Dy (fun as ⟨res,b1,b2,b3⟩=>⟨res,b1,b2,h _ b3⟩) hus) hu
  ·exact Dy (fun us hus=>Dy (fun as ⟨res,b1,b2,b3⟩=>⟨res,b1,b2,h _ b3⟩) hus) hu
  ·exact hu.elim
 ·exact Dy h hw
theorem jbe{o:Oper}{E:St}{k k':Eff→Prop}(h: ∀x,k x→k' x)(hw:Fc T ops o E k):Fc T ops o E k':=by
 unfold Fc at hw ⊢
 revert hw
 split<;>intro hw
 ·exact Dy h hw
 ·revert hw
  split<;>intro hw
  ·unfold Cp at hw ⊢
   revert hw
   split<;>intro hw
   ·exact⟨fun hb=>Dy h (hw.1 hb),fun hb=>h _ (hw.2 hb)⟩
   ·exact h _ hw
   ·exact hw.elim
  ·exact hw.elim
theorem ja0{o:Oper}{E:St}{k k':Eff→Prop}(h: ∀x,k x→k' x)(hw:Ep P T ops o E k):Ep P T ops o E k':=by
 unfold Ep at hw ⊢
 revert hw
 split<;>intro hw
 ·exact QR h hw
 ·revert hw
  split<;>intro hw
  ·unfold Cp at hw ⊢
   revert hw
   split<;>intro hw
   ·exact⟨fun hb=>QR h (hw.1 hb),fun hb=>h _ (hw.2 hb)⟩
   ·exact h _ hw
   ·exact hw.elim
  ·exact hw.elim
theorem ID{fin fin':List Oper→St→Prop}(h: ∀r s,fin r s→fin' r s): ∀{is:List DI} {rest:List Oper} {S:St},BI P T ops is rest S fin→BI P T ops is rest S fin'
 |[],_,_,hw=>h _ _ hw
 |_::_,[],_,hw=>hw.elim
 |i::_,_::_,_,hw=>by
  unfold BI at hw ⊢;split
  ·rename_i hi
   rw[if_pos hi]at hw
   exact jbe (fun _ ⟨h1,h2⟩=>⟨h1,ID h h2⟩) hw
  ·rename_i hi
   rw[if_neg hi]at hw
   split
   ·rename_i h5
    rw[if_pos h5]at hw
    unfold HM at hw ⊢
    revert hw
    split
    ·intro hw;refine Dy (fun u hu=> ?_) hw
     unfold JQ at hu ⊢
     revert hu
     split
     ·exact fun hu=>Dy (fun us hh=>hh.imp (fun⟨b,n,sz,m,d,cs,cs',us',as,a1,a2,a3,a4,a5,a6,a7⟩=>⟨b,n,sz,m,d,cs,cs',us',as,a1,a2,a3,a4,a5,a6,ID h a7⟩) fun⟨sz,m,d,cs',us',as,a1,a2,a3,a4,a5,a6⟩=>⟨sz,m,d,cs',us',as,a1,a2,a3,a4,a5,ID h a6⟩) hu
     ·exact fun hu=>hu.elim
    ·exact fun hw=>hw.elim
   ·rename_i h5
    rw[if_neg h5]at hw
    exact ja0 (fun _ ⟨h1,h2⟩=>⟨h1,ID h h2⟩) hw
theorem Nk(hlt: ∀j i,BM pl j i=true→j<i){K:St→Prop}: ∀(segs:List Seg) (lo:Nat) (st:St),lo≤ops.length→HB ops pl lo segs=true→FR P T ops segs (ops.drop lo) K st→
  Ha P T ops (BM pl) segs.length lo st K
 |[],lo,st,_,hb,h=>⟨by simpa [HB]using hb,h⟩
 | .one::r,lo,st,hle,hb,h=>by
  simp only[HB,Ax]at hb;cases hd:ops.drop lo with
  |nil=>rw[hd]at h;exact h.elim
  |cons o rest=>
   rw[hd]at h
   have hlo:lo<ops.length:=by
    have:=congrArg List.length hd
    simp at this;omega
   have ho:ops[lo]? =some o:=by
    have:=congrArg (·[0]?) hd
    simpa using this
   have hrest:rest=ops.drop (lo+1):=by
    have:=congrArg (List.drop 1) hd
    simpa using this.symm
   right;left
   refine⟨o,ho,Wr hb.1,?_⟩
   rw[hrest]at h
   exact XA (fun s hs=>Nk hlt r (lo+1) s (by omega) hb.2 hs) h
 | .any ids ds is::r,lo,st,hle,hb,h=>by
  simp only[HB,Ax,decide_eq_true_eq]at hb;exact jaQ hlt hb.1 hb.2.1 hb.2.2.1 (ID (fun rest s hs he=>Nk hlt r _ s hb.1 hb.2.2.2 (he ▸ hs)) h)
theorem Af{st:St}{K:St→Prop}(pl:List (List Nat))(segs:List Seg)(h1:VJ ops pl segs=true)(h2:FR P T ops segs ops K st):Kg P T ops st K:=by
 simp only[VJ,Ax]at h1;have hlt: ∀j i,BM pl j i=true→j<i:=ZO h1.2.1;exact⟨BM pl,segs.length,jef h1.1,hlt,Nk hlt segs 0 st (Nat.zero_le _) h1.2.2 h2⟩
end
theorem Ac{m n:Nat}(h:m.ble n=true):m≤n:=Nat.le_of_ble_eq_true h
@[simp]def Ao(l:List (List Nat)):List DI:=l.map fun x=>⟨0,x,[],[],[]⟩
def Aj(l:List Nat):List (List Nat):=l.map fun m=>(List.range 64).filter fun i=>m/2^i%2==1
theorem Aa{P:Program}{g:FuncId}{as:List A}{r:R}{k:R→Prop}{X:Prop}(h:CallsF P g as r)(hk:k r):HN P g as k∨X:= .inl ⟨r,h,hk⟩
theorem Al{P:Program}{g:FuncId}{as:List A}{r:R}{k:R→Prop}(h:CallsF P g as r)(hk:k r):HN P g as k:=⟨r,h,hk⟩
end Go.Va
namespace Go.Va
section
variable {P:Program} {T:At} {st:St} {Q:Bn} {K:St→Prop} {ops:List Oper}
theorem jhL:Bo P T .skip st Q=Q .normal st:=rfl
theorem jfC(i:Nat)(l:List Oper):Bo P T (.region i l.toArray false) st Q=Gc P T l l st (Jv Q):=by simp[Bo,Mm]
theorem jfs(i:Nat)(l:List Oper):Bo P T (.region i l.toArray true) st Q=Kg P T l st (Jv Q):=by simp[Bo,Mm]
theorem jg3(a b:Code):Bo P T (.seq a b) st Q=Bo P T a st (Fo (Bo P T b) Q):=rfl
theorem jhu(c:Operand)(x y:Code):Bo P T (.cond c x y) st Q=Gd (st.evB c) st (Bo P T x) (Bo P T y) Q:=rfl
theorem jdP(i:Nat)(c:Code):Bo P T (.block i c) st Q=Bo P T c st (G4 i Q):=rfl
theorem jaH(c:Code):Bo P T (.loop c) st Q=Kq (Bo P T c) st Q:=rfl
theorem jbN(i:Nat):Bo P T (.exit i) st Q=Q (.exit i) st:=rfl
theorem jgx:Bo P T .ret st Q=Q .ret st:=rfl
theorem jc0:Gc P T ops [] st K=K st:=rfl
theorem jav(o:Oper)(r:List Oper):Gc P T ops (o::r) st K=CK P T ops o st (LZ (Gc P T ops r) K):=rfl
variable (d:Option Nat) (ty:TypeId) (pos:String) (af:Array Edge) (g:Option (Nat×Bool))
theorem jeG(op:Op):CK P T ops ⟨d,op,ty,pos,af,none⟩ st K=wpOp P T ⟨d,op,ty,pos,af,none⟩ st K:=rfl
def Ig(ops:List Oper)(j:Nat):Option Nat:=(ops[j]?).bind (·.dst)
def Vb(P:Program)(T:At)(dj:Option Nat)(want:Bool)(o:Oper)(st:St)(K:St→Prop):Prop:=
 match dj with
 |some d=>EC d want (lk d st.t) st (wpOp P T o) (JM o.dst) K
 |none=>False
theorem jdK(op:Op)(j:Nat)(want:Bool):CK P T ops ⟨d,op,ty,pos,af,some (j,want)⟩ st K=Vb P T (Ig ops j) want ⟨d,op,ty,pos,af,some (j,want)⟩ st K:=rfl
theorem jc8(dj:Nat)(op:Op)(j:Nat)(want:Bool):Vb P T (some dj) want ⟨d,op,ty,pos,af,some (j,want)⟩ st K=
 EC dj want (lk dj st.t) st (wpOp P T ⟨d,op,ty,pos,af,some (j,want)⟩) (JM d) K:=rfl
theorem Xs(o:Oper)(r:List Oper):Ig (o::r) 0=o.dst:=rfl
theorem jcc(o:Oper)(r:List Oper)(n:Nat):Ig (o::r) (n+1)=Ig r n:=rfl
theorem jf9(dst:Option Nat):JM dst st K=K (st.put dst (.tup [])):=rfl
theorem jhh(dst:Option Nat)(ids:List Nat)(res:R):KL dst ids K st res=K (st.back dst ids res):=rfl
variable (x y z:Operand) (t:TypeId)
theorem je9:wpOp P T ⟨d,.move x,ty,pos,af,g⟩ st K=As ((st.ev x).map fun v=>st.put d v) K:=rfl
theorem jcH:wpOp P T ⟨d,.assign (.const (.slice none 0 0)),ty,pos,af,g⟩ st K=As (GW T ty d st) K:=rfl
theorem jd1(i:Nat):wpOp P T ⟨d,.assign (.tmp i),ty,pos,af,g⟩ st K=As ((lk i st.t).map fun v=>st.put d v) K:=rfl
theorem jfB(k:IntKind)(n:Int):wpOp P T ⟨d,.assign (.const (.int k n)),ty,pos,af,g⟩ st K=K (st.put d (vI k n)):=DM _ _
theorem jfu(b:Bool):wpOp P T ⟨d,.assign (.const (.bool b)),ty,pos,af,g⟩ st K=K (st.put d (vB b)):=DM _ _
theorem jab(b:ByteArray):wpOp P T ⟨d,.assign (.const (.string b)),ty,pos,af,g⟩ st K=K (st.put d (vC (.d (.str b)))):=DM _ _
theorem jf2:wpOp P T ⟨d,.assign (.const .nilFunc),ty,pos,af,g⟩ st K=K (st.put d (vC (.d .nilFn))):=DM _ _
theorem jeu(cs:Array Value):wpOp P T ⟨d,.assign (.const (.agg cs)),ty,pos,af,g⟩ st K=As ((cVal (.agg cs)).map fun v=>st.put d v) K:=rfl
theorem ZL(f:FuncId):wpOp P T ⟨d,.assign (.func f),ty,pos,af,g⟩ st K=As ((st.ev (.func f)).map fun v=>st.put d v) K:=rfl
theorem jbV:wpOp P T ⟨d,.pick x y z,ty,pos,af,g⟩ st K=As ((st.evB x).bind fun c=>(pickV c (st.ev y) (st.ev z)).map fun v=>st.put d v) K:=rfl
theorem Xb:wpOp P T ⟨d,.alloc t,ty,pos,af,g⟩ st K=As ((T t).bind fun i=>mk d st (.box i.zero) fun d=> .ptr d 0) K:=rfl
theorem jhg:wpOp P T ⟨d,.box t x,ty,pos,af,g⟩ st K=As ((T t).bind fun i=>(st.evU x).bind fun u=>if u.cells.length=i.size then mk d st (.box u.cells) (fun d=> .ptr d 0) else none) K:=rfl
theorem jeE(l:List (Nat×Operand)):wpOp P T ⟨d,.build t l.toArray,ty,pos,af,g⟩ st K=As ((T t).bind fun i=>(st.evUs l).bind fun l=>(build T i l).map fun u=>st.put d (.u u)) K:=rfl
theorem jb3(len:Nat)(l:List (Nat×Operand)):wpOp P T ⟨d,.buildSlice t len l.toArray,ty,pos,af,g⟩ st K=
  As ((T t).bind fun i=>i.sl.bind fun e=>(T e).bind fun j=>(st.evUs l).bind (Gi j len d st)) K:=rfl
theorem jaz:wpOp P T ⟨d,.load t x,ty,pos,af,g⟩ st K=As ((T t).bind fun i=>(st.evC x).bind fun c=>(st.load i c).map fun u=>st.put d (.u u)) K:=rfl
theorem jgb:wpOp P T ⟨d,.store t x y,ty,pos,af,g⟩ st K=As ((T t).bind fun i=>(st.evC x).bind fun c=>(st.evU y).bind fun u=>(st.store i c u).map fun s=>s.put d (.tup [])) K:=rfl
theorem XW:wpOp P T ⟨d,.nilCheck x,ty,pos,af,g⟩ st K=As ((st.evC x).bind fun c=>(nilChk c).map fun c=>st.put d (vC c)) K:=rfl
theorem jgW(op:BinOp)(t':TypeId):wpOp P T ⟨d,.binOp op t x y t',ty,pos,af,g⟩ st K=As ((st.ev x).bind fun a=>(st.ev y).bind fun b=>(binV T op t a b).map fun v=>st.put d v) K:=rfl
theorem jeQ:wpOp P T ⟨d,.unOp .not t x,ty,pos,af,g⟩ st K=As ((st.evB x).map fun b=>st.put d (vB !b)) K:=rfl
theorem jdv:wpOp P T ⟨d,.unOp .neg t x,ty,pos,af,g⟩ st K=As ((st.evI x).bind fun p=>(Eo p.1 (0 - p.2)).map fun v=>st.put d v) K:=rfl
theorem jee(t':TypeId):wpOp P T ⟨d,.convert t t' x,ty,pos,af,g⟩ st K=As ((T t).bind fun _=>(T t').bind fun i=>(st.evI x).bind fun p=>(GU i p.2).map fun v=>st.put d v) K:=rfl
theorem Xd:wpOp P T ⟨d,.makeSlice t x y,ty,pos,af,g⟩ st K=As ((T t).bind fun i=>i.sl.bind fun e=>(T e).bind fun j=>(st.evI x).bind fun l=>(st.evI y).bind fun c=>Gz j d st l.2 c.2) K:=rfl
theorem jam(lo hi:Option Operand):wpOp P T ⟨d,.slice t x lo hi none,ty,pos,af,g⟩ st K=
  As ((T t).bind fun i=>(st.evC x).bind fun c=>(st.evO lo).bind fun l=>(st.evO hi).bind fun h=>
   (match i.sl with|some e=>(T e).bind fun j=>sliceV st.h c l h j.size|none=>if E5 i then sliceS c l h else none).map fun v=>st.put d (vC v)) K:=rfl
theorem jdH(f:Nat):wpOp P T ⟨d,.fieldAddr t x f,ty,pos,af,g⟩ st K=As ((T t).bind fun i=>(st.evC x).bind fun c=>(i.flds[f]?).bind fun p=>(T p.2).bind fun j=>if j.size=0 then none else (fldAddr p.1 c).map fun c=>st.put d (vC c)) K:=rfl
theorem W9(f:Nat):wpOp P T ⟨d,.field t x f,ty,pos,af,g⟩ st K=As ((T t).bind fun i=>(st.evU x).bind fun u=>(fieldOf T i f u).map fun u=>st.put d (.u u)) K:=rfl
theorem jbD:wpOp P T ⟨d,.indexAddr t x y,ty,pos,af,g⟩ st K=As ((T t).bind fun ti=>(st.evC x).bind fun c=>(st.evI y).bind fun n=>(idxAddr T st.h ti n.2 c).map fun c=>st.put d (vC c)) K:=rfl
theorem jhP:wpOp P T ⟨d,.index t x y,ty,pos,af,g⟩ st K=As ((T t).bind fun ti=>(st.evU x).bind fun u=>(st.evI y).bind fun n=>(indexOf T ti n.2 u).map fun u=>st.put d (.u u)) K:=rfl
theorem jcM(i:Nat):wpOp P T ⟨d,.extract x i,ty,pos,af,g⟩ st K=As ((st.ev x).bind fun v=>(tupAt i v).map fun u=>st.put d (.u u)) K:=rfl
theorem XT(f:FuncId)(caps:List Operand):wpOp P T ⟨d,.makeFunc (.func f) #[] caps.toArray,ty,pos,af,g⟩ st K=
  As ((caps.mapM st.evC).map fun cs=>st.put d (.u (clo st.h f cs))) K:=rfl
theorem YZ(b:Builtin)(args:List Operand)(ts:List TypeId):wpOp P T ⟨d,.call ⟨.builtin b,args.toArray,ts.toArray⟩,ty,pos,af,g⟩ st K=
  As (Gq T b ts args d st) K:=rfl
theorem X9(f:Operand)(args:List Operand)(ts:Array TypeId):wpOp P T ⟨d,.call ⟨.value f,args.toArray,ts⟩,ty,pos,af,g⟩ st K=
  As (st.evU f) (FD P d args st K):=rfl
end
def St.num(st:St)(t:Nat):Int:=
 match lk t st.t with
 |some (.u (.c (.d (.int _ n))))=>n
 |_=>0
def JX{α:Type}(f:α→St)(p:α→Prop)(μ:α→Nat)(s:St)(n:Nat):Prop:= ∃x,s=f x∧p x∧μ x=n
theorem BA{α:Type}(rs:List (Nat×Nat))(f:α→St)(p:α→Prop)(μ:α→Nat)(x0:α){body:St→Bn→Prop}{st:St}{Q:Bn}(h0:(f x0).le (rns rs st))(hp:p x0)
  (h: ∀x,p x→body (f x) (Fo (IJ (JX f p μ) rs (μ x)) Q)):Kq body st Q:=
 ⟨JX f p μ,rs,⟨_,_,h0,x0,rfl,hp,rfl⟩,fun _ _ ⟨x,h1,h2,h3⟩=>h1 ▸ h3 ▸ h x h2⟩
theorem Av{α:Type}(f:α→St)(p:α→Prop)(μ:α→Nat)(x0:α){body:St→Bn→Prop}{st:St}{Q:Bn}(h0:(f x0).le st)(hp:p x0)
  (h: ∀x,p x→body (f x) (Fo (IJ (JX f p μ) [] (μ x)) Q)):Kq body st Q:=BA [] f p μ x0 h0 hp h
@[simp]theorem jiC{α:Type}(f:α→St)(p:α→Prop)(μ:α→Nat)(rs:List (Nat×Nat))(n:Nat)(s:St)(Q:Bn):IJ (JX f p μ) rs n s Q↔ ∃y,(f y).le (rns rs s)∧p y∧μ y<n:=
 ⟨fun⟨_,_,h1,⟨y,h2,h3,h4⟩,h5⟩=>⟨y,h2 ▸ h1,h3,h4 ▸ h5⟩,fun⟨y,h1,h2,h3⟩=>⟨_,_,h1,⟨y,rfl,h2,rfl⟩,h3⟩⟩
@[simp]theorem rns_nil(s:St):rns [] s=s:=rfl
@[simp]theorem rns_cons(i j:Nat)(r:List (Nat×Nat))(s:St):rns ((i,j)::r) s=rns r (s.rn i j):=rfl
def ji4(i j:Nat)(st:St)(b:Option Blk):St:=
 match b with
 |none=>st
 |some b=>{ st.on (Hq i j)with h:=(i,b.on (Hq i j))::rm i (rm j (st.on (Hq i j)).h) }
@[simp]theorem rn_eq(i j:Nat)(st:St):st.rn i j=if i=j then st else ji4 i j st (lk j st.h):=by
 unfold St.rn ji4;rfl
@[simp]theorem rnB_none(i j:Nat)(st:St):ji4 i j st none=st:=rfl
@[simp]theorem rnB_some(i j:Nat)(st:St)(b:Blk):ji4 i j st (some b)={ st.on (Hq i j)with h:=(i,b.on (Hq i j))::rm i (rm j (st.on (Hq i j)).h) }:=rfl
section
variable (st:St) (k1 k2:St→Bn→Prop) (Q:Bn)
@[simp high]theorem jiX:Gd (some true) st k1 k2 Q=k1 st Q:=by simp[Gd]
@[simp high]theorem jia:Gd (some false) st k1 k2 Q=k2 st Q:=by simp[Gd]
end
section
variable (d:Nat) (st:St) (k1 k2:St→(St→Prop)→Prop) (K:St→Prop)
@[simp high]theorem gateV_tt:EC d true (some (.u (.c (.d (.bool true))))) st k1 k2 K=k1 (st.put (some d) (vB true)) K:=by simp[HU]
@[simp high]theorem gateV_tf:EC d true (some (.u (.c (.d (.bool false))))) st k1 k2 K=k2 (st.put (some d) (vB false)) K:=by simp[HU]
@[simp high]theorem gateV_ft:EC d false (some (.u (.c (.d (.bool true))))) st k1 k2 K=k2 (st.put (some d) (vB true)) K:=by simp[HU]
@[simp high]theorem gateV_ff:EC d false (some (.u (.c (.d (.bool false))))) st k1 k2 K=k1 (st.put (some d) (vB false)) K:=by simp[HU]
end
@[simp]theorem splice_z{α:Type}(l:List α):splice 0 [] l=l:=by simp[splice]
@[simp]theorem jiE{α:Type}(a b:α)(r l:List α):splice 0 (a::r) (b::l)=a::splice 0 r l:=by simp[splice]
@[simp]theorem splice_s{α:Type}(n:Nat)(b:α)(r l:List α):splice (n+1) r (b::l)=b::splice n r l:=by simp[splice,Nat.add_right_comm]
@[simp]theorem to_sl(i k o n:Nat):C.to i (.sl k o n)= .sl i o n:=rfl
@[simp]theorem to_ptr(i k o:Nat):C.to i (.ptr k o)= .ptr i o:=rfl
@[simp]theorem i64_min:IntKind.i64.min= -9223372036854775808:=by decide
theorem Ye{α:Type}(k:Nat):lk k ([]:List (Nat×α))=none:=rfl
theorem jaK{α:Type}(k j:Nat)(v:α)(r:List (Nat×α)):lk k ((j,v)::r)=cond (j==k) (some v) (lk k r):=by
 by_cases h:j=k
 ·simp[lk,h]
 ·simp[lk,h,show(j==k)=false by simpa using h]
theorem jbM{α:Type}(k:Nat):rm k ([]:List (Nat×α))=[]:=rfl
theorem jd6{α:Type}(k j:Nat)(v:α)(r:List (Nat×α)):rm k ((j,v)::r)=cond (j==k) (rm k r) ((j,v)::rm k r):=by
 by_cases h:j=k
 ·simp[rm,h]
 ·simp[rm,h,show(j==k)=false by simpa using h]
@[simp]theorem binV_add(T:At)(t:TypeId)(k k':IntKind)(a b:Int):binV T .add t (.u (.c (.d (.int k a)))) (.u (.c (.d (.int k' b))))=if k=k' then binI .add k a b else none:=rfl
@[simp]theorem binV_sub(T:At)(t:TypeId)(k k':IntKind)(a b:Int):binV T .sub t (.u (.c (.d (.int k a)))) (.u (.c (.d (.int k' b))))=if k=k' then binI .sub k a b else none:=rfl
@[simp]theorem binV_mul(T:At)(t:TypeId)(k k':IntKind)(a b:Int):binV T .mul t (.u (.c (.d (.int k a)))) (.u (.c (.d (.int k' b))))=if k=k' then binI .mul k a b else none:=rfl
@[simp]theorem binV_quo(T:At)(t:TypeId)(k k':IntKind)(a b:Int):binV T .quo t (.u (.c (.d (.int k a)))) (.u (.c (.d (.int k' b))))=if k=k' then binI .quo k a b else none:=rfl
@[simp]theorem binV_rem(T:At)(t:TypeId)(k k':IntKind)(a b:Int):binV T .rem t (.u (.c (.d (.int k a)))) (.u (.c (.d (.int k' b))))=if k=k' then binI .rem k a b else none:=rfl
@[simp]theorem binV_and(T:At)(t:TypeId)(k k':IntKind)(a b:Int):binV T .and t (.u (.c (.d (.int k a)))) (.u (.c (.d (.int k' b))))=if k=k' then binI .and k a b else none:=rfl
@[simp]theorem binV_or(T:At)(t:TypeId)(k k':IntKind)(a b:Int):binV T .or t (.u (.c (.d (.int k a)))) (.u (.c (.d (.int k' b))))=if k=k' then binI .or k a b else none:=rfl
@[simp]theorem binV_xor(T:At)(t:TypeId)(k k':IntKind)(a b:Int):binV T .xor t (.u (.c (.d (.int k a)))) (.u (.c (.d (.int k' b))))=if k=k' then binI .xor k a b else none:=rfl
@[simp]theorem ji3(T:At)(t:TypeId)(k k':IntKind)(a b:Int):binV T .andNot t (.u (.c (.d (.int k a)))) (.u (.c (.d (.int k' b))))=if k=k' then binI .andNot k a b else none:=rfl
@[simp]theorem binV_eql(T:At)(t:TypeId)(k k':IntKind)(a b:Int):binV T .eql t (.u (.c (.d (.int k a)))) (.u (.c (.d (.int k' b))))=if k=k' then binI .eql k a b else none:=rfl
@[simp]theorem binV_neq(T:At)(t:TypeId)(k k':IntKind)(a b:Int):binV T .neq t (.u (.c (.d (.int k a)))) (.u (.c (.d (.int k' b))))=if k=k' then binI .neq k a b else none:=rfl
@[simp]theorem binV_lss(T:At)(t:TypeId)(k k':IntKind)(a b:Int):binV T .lss t (.u (.c (.d (.int k a)))) (.u (.c (.d (.int k' b))))=if k=k' then binI .lss k a b else none:=rfl
@[simp]theorem binV_leq(T:At)(t:TypeId)(k k':IntKind)(a b:Int):binV T .leq t (.u (.c (.d (.int k a)))) (.u (.c (.d (.int k' b))))=if k=k' then binI .leq k a b else none:=rfl
@[simp]theorem binV_gtr(T:At)(t:TypeId)(k k':IntKind)(a b:Int):binV T .gtr t (.u (.c (.d (.int k a)))) (.u (.c (.d (.int k' b))))=if k=k' then binI .gtr k a b else none:=rfl
@[simp]theorem binV_geq(T:At)(t:TypeId)(k k':IntKind)(a b:Int):binV T .geq t (.u (.c (.d (.int k a)))) (.u (.c (.d (.int k' b))))=if k=k' then binI .geq k a b else none:=rfl
@[simp]theorem jii(T:At)(op:BinOp)(t:TypeId)(a b:Bool):binV T op t (.u (.c (.d (.bool a)))) (.u (.c (.d (.bool b))))=(T t).bind fun i=>(FZ i (.u (.c (.d (.bool a)))) (.u (.c (.d (.bool b))))).bind (Hu op):=rfl
@[simp]theorem binV_agg(T:At)(op:BinOp)(t:TypeId)(a b:List C):binV T op t (.u (.agg a)) (.u (.agg b))=(T t).bind fun i=>(FZ i (.u (.agg a)) (.u (.agg b))).bind (Hu op):=rfl
@[simp]theorem binV_fn(T:At)(op:BinOp)(t:TypeId)(f:FuncId)(l:List D):binV T op t (.u (.c (.d (.fn f l)))) (.u (.c (.d .nilFn)))=(T t).bind fun i=>(FZ i (.u (.c (.d (.fn f l)))) (.u (.c (.d .nilFn)))).bind (Hu op):=rfl
@[simp]theorem jim(T:At)(op:BinOp)(t:TypeId):binV T op t (.u (.c (.d .nilFn))) (.u (.c (.d .nilFn)))=(T t).bind fun i=>(FZ i (.u (.c (.d .nilFn))) (.u (.c (.d .nilFn)))).bind (Hu op):=rfl
@[simp]theorem cVal_int(k:IntKind)(n:Int):cVal (.int k n)=some (.u (.c (.d (.int k n)))):=rfl
@[simp]theorem jiB(b:Bool):cVal (.bool b)=some (.u (.c (.d (.bool b)))):=rfl
@[simp]theorem cVal_str(s:ByteArray):cVal (.string s)=some (.u (.c (.d (.str s)))):=rfl
@[simp]theorem cVal_nl:cVal (.slice none 0 0)=some (.u (.c .nl)):=rfl
@[simp]theorem jiS:cVal (.pointer none)=some (.u (.c (.d .nilPtr))):=rfl
@[simp]theorem jip:cVal .nilFunc=some (.u (.c (.d .nilFn))):=rfl
@[simp]theorem onC_d(g:Nat→C→C)(x:D):C.on g (.d x)= .d x:=rfl
@[simp]theorem onC_nl(g:Nat→C→C):C.on g .nl= .nl:=rfl
@[simp]theorem onC_bad(g:Nat→C→C):C.on g .bad= .bad:=rfl
@[simp]theorem idC_d(x:D):C.id? (.d x)=none:=rfl
@[simp]theorem idC_nl:C.id? .nl=none:=rfl
@[simp]theorem idC_bad:C.id? .bad=none:=rfl
@[simp]theorem jiz(k:IntKind)(n:Int):D.flat (.int k n)=true:=rfl
@[simp]theorem jic(b:Bool):D.flat (.bool b)=true:=rfl
@[simp]theorem jiU(s:ByteArray):D.flat (.str s)=true:=rfl
@[simp]theorem jix:D.flat .nilFn=true:=rfl
@[simp]theorem jiP:D.flat .nilPtr=true:=rfl
@[simp]theorem res_nil(T:At)(st:St):st.res T []=some (.tup []):=rfl
@[simp]theorem res_one(T:At)(st:St)(a:ResultVar):st.res T [a]=(st.resU T a).map .u:=rfl
@[simp]theorem isPtr_d(x:D):FB (.d x)=false:=rfl
@[simp]theorem isPtr_nl:FB .nl=false:=rfl
@[simp]theorem jiu:FB .bad=false:=rfl
@[simp]theorem isPtr_sl(i o n:Nat):FB (.sl i o n)=false:=rfl
@[simp]theorem jiD(i o:Nat):FB (.ptr i o)=true:=rfl
@[simp]theorem res_two(T:At)(st:St)(a b:ResultVar)(r:List ResultVar):st.res T (a::b::r)=((a::b::r).mapM (st.resU T)).map .tup:=rfl
@[simp]theorem onC_sl(g:Nat→C→C)(i o n:Nat):C.on g (.sl i o n)=g i (.sl i o n):=rfl
@[simp]theorem onC_ptr(g:Nat→C→C)(i o:Nat):C.on g (.ptr i o)=g i (.ptr i o):=rfl
@[simp]theorem ld_row(sz:Nat)(cs:List D)(app:Bool)(off:Nat):Blk.ld (.row sz cs app) off=(cs[off]?).map fun x=> .c (.d x):=rfl
@[simp]theorem ld_box(cs:List C)(off:Nat):Blk.ld (.box cs) off=(cs[off]?).map .c:=rfl
@[simp]theorem ld_fbox(f:FuncId)(cs:List C):Blk.ld (.fbox f cs) 0=some (.clo f cs):=rfl
@[simp]theorem storeU_c(b off:Nat)(x:C)(st:St)(k:Blk):st.storeU b off (.c x) k=st.storeB b off [x] k:=rfl
@[simp]theorem jie(b off:Nat)(xs:List C)(st:St)(k:Blk):st.storeU b off (.agg xs) k=st.storeB b off xs k:=rfl
@[simp]theorem jiK(b:Nat)(f:FuncId)(cs:List C)(st:St)(c:C):st.storeU b 0 (.clo f cs) (.box [c])=some (st.blk b (.fbox f cs)):=rfl
@[simp]theorem jiw(f:FuncId)(cs:List C):U.cells (.clo f cs)=[.bad]:=rfl
@[simp]theorem jit(x:Value):D.flat (.lit x)=true:=rfl
@[simp]theorem jiG:D.flat .any=true:=rfl
@[simp]theorem YS_eq:YS=1000000:=rfl
attribute [simp ↓] jah jf3 DM
attribute [simp ↓] jhL jfC jfs jg3 jhu jdP jaH jbN jgx jc0 jav jeG jdK jc8
attribute [simp] Xs jcc jf9 jhh
 je9 jcH jd1 jfB jfu jab jf2 jeu ZL jbV Xb jhg jeE jb3 jaz jgb XW jgW jeQ jdv
 jee Xd jam jdH W9 jbD jhP jcM XT YZ X9
 St.init B8 A.toV St.ev St.put jbM jd6 Ye jaK St.new St.purge Bd St.on St.blk Hq cVal.eq_1 vC V.on U.on C.on.eq_1 C.on.eq_2 Blk.on St.evC St.evI St.evB St.evU St.evUs St.evO lenC.eq_1 lenC.eq_2 lenC.eq_3 lenS.eq_1 E5 jhA jfK NG On
 jhx jg6 jcS jbm jgO jh4 YG XG jbw HU TA vI vB cCell.eq_1 cCell.eq_2 cCell.eq_3 cCell.eq_4 cCell.eq_5 cCell.eq_6 binV.eq_1 binV.eq_2 binV.eq_4 binI.eq_1 binI.eq_2 binI.eq_3 binI.eq_4 binI.eq_5 binI.eq_6 binI.eq_7 binI.eq_8 binI.eq_9 binI.eq_10 binI.eq_11 binI.eq_12 binI.eq_13 binI.eq_14 binI.eq_15 Eo Eu IE sliceV.eq_1 sliceV.eq_2 sliceV.eq_3 sliceS.eq_1 D5 St.load.eq_1 St.load.eq_2 St.store.eq_1 St.storeB build Blk.rd Blk.at ED mk TK Ld Ho rep GW Gi Gz nilChk.eq_1 nilChk.eq_2 nilChk.eq_3 fldAddr.eq_1 fldAddr.eq_2 isRow idxSl.eq_1 idxSl.eq_2 idxArr.eq_1 idxArr.eq_2 idxAddr part fieldOf.eq_1 indexOf.eq_1 indexOf.eq_2 tupAt.eq_1 GU pickV HF copyTo.eq_1 EN St.appGo
 U.cells.eq_1 U.cells.eq_2 St.le An Ay St.num St.shut St.cD toD A6 C.id?.eq_1 C.id?.eq_2 St.app.eq_1 St.app.eq_2 St.src.eq_1 St.src.eq_2 St.src.eq_3 K7 U7 jbk jdW jae Pw clo St.drop U.all St.argsW U.toA St.reachU EM Fi St.freezeK St.freeze St.sealW NC fitV.eq_1 fitV.eq_2 fitU.eq_1 fitU.eq_2 fitC.eq_1 fitC.eq_2 fitC.eq_3 fitL.eq_1 fitL.eq_2 St.resU R.rows RU.rows RC.rows St.back R.flat RU.flat RC.flat D.flat.eq_1 D.flat.eq_2 D.flat.eq_3 R.imp RU.imp RC.imp
 IntKind.signed IntKind.bits shiftI.eq_1 shiftI.eq_2 K9 Fj FZ Hu EK Gq
section
variable {P:Program} {T:At} {st:St} {k:Eff→Prop} {ops:List Oper} {d:Option Nat} {n:Nat} {ty:TypeId} {pos:String} {af:Array Edge} {g:Option (Nat×Bool)} {x y:Operand} {t:TypeId}
theorem jbI(op:Op):Ep P T ops ⟨d,op,ty,pos,af,none⟩ st k=Bb P T ⟨d,op,ty,pos,af,none⟩ st k:=rfl
def TQ(P:Program)(T:At)(dj:Option Nat)(want:Bool)(o:Oper)(st:St)(k:Eff→Prop):Prop:=
 match dj with
 |some d=>Cp want (lk d st.t) (Bb P T o st k) (k (.val (.tup [])))
 |none=>False
theorem Xy(op:Op)(j:Nat)(want:Bool):Ep P T ops ⟨d,op,ty,pos,af,some (j,want)⟩ st k=TQ P T (Ig ops j) want ⟨d,op,ty,pos,af,some (j,want)⟩ st k:=rfl
theorem jek(dj:Nat)(op:Op)(j:Nat)(want:Bool):TQ P T (some dj) want ⟨d,op,ty,pos,af,some (j,want)⟩ st k=Cp want (lk dj st.t) (Bb P T ⟨d,op,ty,pos,af,some (j,want)⟩ st k) (k (.val (.tup []))):=rfl
theorem jbZ(want b:Bool)(k1 k2:Prop):Cp want (some (.u (.c (.d (.bool b))))) k1 k2=((b=want→k1)∧(b= !want→k2)):=rfl
theorem jc5(want:Bool)(k1 k2:Prop):Cp want (some (.tup [])) k1 k2=k2:=rfl
@[simp high]theorem gateE_tt(k1 k2:Prop):Cp true (some (.u (.c (.d (.bool true))))) k1 k2=k1:=by simp[Cp]
@[simp high]theorem gateE_tf(k1 k2:Prop):Cp true (some (.u (.c (.d (.bool false))))) k1 k2=k2:=by simp[Cp]
@[simp high]theorem gateE_ft(k1 k2:Prop):Cp false (some (.u (.c (.d (.bool true))))) k1 k2=k2:=by simp[Cp]
@[simp high]theorem gateE_ff(k1 k2:Prop):Cp false (some (.u (.c (.d (.bool false))))) k1 k2=k1:=by simp[Cp]
theorem YM(rest:List Oper)(S:St)(fin:List Oper→St→Prop):BI P T ops [] rest S fin=fin rest S:=rfl
section
variable (rd nh bad ks:List Nat) (is:List DI) (o:Oper) (r:List Oper) (S:St) (fin:List Oper→St→Prop)
theorem YW:BI P T ops (⟨0,rd,nh,bad,ks⟩::is) (o::r) S fin=Ep P T ops o (CY ⟨0,rd,nh,bad,ks⟩ S) (DE ⟨0,rd,nh,bad,ks⟩ o.dst S fun S'=>BI P T ops is r S' fin):=if_neg (fun h:(_:Nat)=4=>by simp at h)
theorem jgE:BI P T ops (⟨1,rd,nh,bad,ks⟩::is) (o::r) S fin=Ep P T ops o (CY ⟨1,rd,nh,bad,ks⟩ S) (DE ⟨1,rd,nh,bad,ks⟩ o.dst S fun S'=>BI P T ops is r S' fin):=if_neg (fun h:(_:Nat)=4=>by simp at h)
theorem je5:BI P T ops (⟨2,rd,nh,bad,ks⟩::is) (o::r) S fin=Ep P T ops o (CY ⟨2,rd,nh,bad,ks⟩ S) (DE ⟨2,rd,nh,bad,ks⟩ o.dst S fun S'=>BI P T ops is r S' fin):=if_neg (fun h:(_:Nat)=4=>by simp at h)
theorem jc1:BI P T ops (⟨3,rd,nh,bad,ks⟩::is) (o::r) S fin=Ep P T ops o (CY ⟨3,rd,nh,bad,ks⟩ S) (DE ⟨3,rd,nh,bad,ks⟩ o.dst S fun S'=>BI P T ops is r S' fin):=if_neg (fun h:(_:Nat)=4=>by simp at h)
theorem Xm:BI P T ops (⟨5,rd,nh,bad,ks⟩::is) (o::r) S fin=HM P o (CY ⟨5,rd,nh,bad,ks⟩ S) (DE ⟨5,rd,nh,bad,ks⟩ o.dst S fun S'=>BI P T ops is r S' fin):=(if_neg (show ¬((5:Nat)=4) by decide)).trans (if_pos rfl)
theorem Yx:BI P T ops (⟨4,rd,nh,bad,ks⟩::is) (o::r) S fin=Fc T ops o (CY ⟨4,rd,nh,bad,ks⟩ S) (DE ⟨4,rd,nh,bad,ks⟩ o.dst S fun S'=>BI P T ops is r S' fin):=if_pos rfl
end
theorem ja7(len:Nat)(parts:List (Nat×Operand)):Fc T ops ⟨some n,.buildSlice t len parts.toArray,ty,pos,af,none⟩ st k=
  As ((T t).bind fun i=>i.sl.bind fun e=>(T e).bind fun j=>(st.evUs parts).bind fun l=>
  if len*j.size≤10000∧len≤10000 then (ED (Ho j.size) (rep len j.zero) l).bind fun cs=>
   if j.size=1∧cs.any FB=true then none else
   if Hl cs then (cs.mapM (toD (fun _=>false) st.h 4)).bind fun ds=>if ds.length=len*j.size then some (.dat (.slice len ds)) else none else none
  else none) k:=rfl
def Tm(T:At)(dj:Option Nat)(want:Bool)(o:Oper)(st:St)(k:Eff→Prop):Prop:=
 match dj with
 |some d=>Cp want (lk d st.t) (As (I9 T o st) k) (k (.val (.tup [])))
 |none=>False
theorem je4(op:Op)(j:Nat)(want:Bool):Fc T ops ⟨d,op,ty,pos,af,some (j,want)⟩ st k=Tm T (Ig ops j) want ⟨d,op,ty,pos,af,some (j,want)⟩ st k:=rfl
theorem jgJ(dj:Nat)(op:Op)(j:Nat)(want:Bool):Tm T (some dj) want ⟨d,op,ty,pos,af,some (j,want)⟩ st k=Cp want (lk dj st.t) (Fc T [] ⟨d,op,ty,pos,af,none⟩ st k) (k (.val (.tup []))):=rfl
theorem jeD(kk:Nat)(rd nh bad ks:List Nat)(d:Option Nat)(S:St)(K:St→Prop)(x:D):DE ⟨kk,rd,nh,bad,ks⟩ d S K (.dat x)=((kk==4)=true∧K (S.put d (vC (.d x)))):=rfl
theorem jct(k:Nat)(rd nh bad ks:List Nat)(d:Option Nat)(S:St)(K:St→Prop)(v:V):DE ⟨k,rd,nh,bad,ks⟩ d S K (.val v)=(CQ bad v=true∧K (S.put d v)):=rfl
theorem jgp(k:Nat)(rd nh bad ks:List Nat)(d:Nat)(S:St)(K:St→Prop)(b:Blk)(v:V):DE ⟨k,rd,nh,bad,ks⟩ (some d) S K (.new b v)=(((k==1||k==3||k==5)&&(CQ bad v&&Fp (d::bad) b))=true∧K ((S.blk d b).put (some d) v)):=rfl
theorem ja6(k:Nat)(rd nh bad ks:List Nat)(d:Option Nat)(S:St)(K:St→Prop)(i:Nat)(b:Blk):DE ⟨k,rd,nh,bad,ks⟩ d S K (.put i b)=((k==2&&(ks.contains i&&Fp bad b))=true∧K ((S.blk i b).put d (.tup []))):=rfl
theorem Xj(k:Nat)(rd nh bad ks:List Nat)(d:Nat)(S:St)(K:St→Prop)(i:Nat)(b:Blk)(v:V):DE ⟨k,rd,nh,bad,ks⟩ (some d) S K (.app i b v)=(((k==3||k==5)&&(ks.contains i&&(CQ bad v&&Fp (d::bad) b)))=true∧K (((S.drop i).blk d b).put (some d) v)):=rfl
theorem ZV(rest:List Oper)(K:St→Prop)(st:St):FR P T ops [] rest K st=K st:=rfl
theorem jet(r:List Seg)(o:Oper)(rest:List Oper)(K:St→Prop)(st:St):FR P T ops (.one::r) (o::rest) K st=CK P T ops o st (FR P T ops r rest K):=rfl
theorem ZJ(ids ds:List Nat)(is:List DI)(r:List Seg)(rest:List Oper)(K:St→Prop)(st:St):
  FR P T ops (.any ids ds is::r) rest K st=BI P T ops is rest (purges ds (st.freeze ids)) fun rest' s=>FR P T ops r rest' K s:=rfl
theorem jci(s:St):purges [] s=s:=rfl
theorem jce(i:Nat)(l:List Nat)(s:St):purges (i::l) s=purges l (s.purge i):=rfl
theorem jd9(v:V):CQ [] v=true:=rfl
theorem XC(l:List Nat)(x:D):CQ l (.u (.c (.d x)))=true:=jzy.2 fun _ _=>rfl
theorem jhW(l:List Nat):CQ l (.u (.c .nl))=true:=jzy.2 fun _ _=>rfl
theorem jcI(l:List Nat)(i o:Nat):CQ l (.u (.c (.ptr i o)))=l.all fun d=>i !=d:=by
 unfold CQ;congr 1
theorem jcV(l:List Nat)(i o n:Nat):CQ l (.u (.c (.sl i o n)))=l.all fun d=>i !=d:=by
 unfold CQ;congr 1
theorem XZ(l:List Nat)(cs:List C):CQ l (.u (.agg cs))=l.all fun d=> !cs.any (C.men d):=rfl
theorem jhw(l:List Nat)(f:FuncId)(cs:List C):CQ l (.u (.clo f cs))=l.all fun d=> !cs.any (C.men d):=rfl
theorem Z4(l:List Nat)(us:List U):CQ l (.tup us)=l.all fun d=> !us.any (U.men d):=rfl
theorem jfc(l:List Nat)(sz:Nat)(cs:List D)(a:Bool):Fp l (.row sz cs a)=true:=jzy.2 fun _ _=>rfl
theorem jho(l:List Nat)(cs:List C):Fp l (.box cs)=l.all fun d=> !cs.any (C.men d):=rfl
theorem YY(l:List Nat)(f:FuncId)(cs:List C):Fp l (.fbox f cs)=l.all fun d=> !cs.any (C.men d):=rfl
theorem jar(l:List Nat)(x:Value)(ys:List (List A)):CQ l (.tr x ys)=true:=jzy.2 fun _ _=>rfl
theorem jcj(d:Nat)(x:D):C.men d (.d x)=false:=rfl
theorem jeO(d:Nat):C.men d .nl=false:=rfl
theorem jaC(d:Nat):C.men d .bad=false:=rfl
theorem jhi(d i o n:Nat):C.men d (.sl i o n)=(i==d):=rfl
theorem jfQ(d i o:Nat):C.men d (.ptr i o)=(i==d):=rfl
theorem Z9(d:Nat)(c:C):U.men d (.c c)=C.men d c:=rfl
theorem W4(d:Nat)(cs:List C):U.men d (.agg cs)=cs.any (C.men d):=rfl
def selT(rd:List Nat):List (Nat×V)→List (Nat×V)
 |[]=>[]
 |(k,v)::r=>cond (rd.contains k) ((k,v)::selT rd r) (selT rd r)
theorem Sh(rd:List Nat): ∀l,selT rd l=l.filter fun e=>rd.contains e.1
 |[]=>rfl
 |(k,v)::r=>by
  rw[List.filter_cons,selT,Sh rd r]
  cases h:rd.contains k<;>simp[h]
def G2:List Nat→Nat→Bool
 |[],_=>false
 |a::r,k=>cond (k==a) true (G2 r k)
theorem NA: ∀(l:List Nat) (k:Nat),l.contains k=G2 l k
 |[],_=>rfl
 |a::r,k=>by
  rw[List.contains_cons,G2,NA r k]
  cases k==a<;>rfl
theorem jfM(k:Nat)(rd nh bad ks:List Nat)(S:St):CY ⟨k,rd,nh,bad,ks⟩ S=⟨selT rd S.t,JH nh S.h⟩:=by
 unfold CY;rw[Sh]
theorem Xo(rd:List Nat)(k:Nat)(v:V)(r:List (Nat×V)):selT rd ((k,v)::r)=cond (G2 rd k) ((k,v)::selT rd r) (selT rd r):=by
 rw[selT,NA]
theorem jeq(h:List (Nat×Blk)):JH [] h=h:=rfl
theorem jdm(a:Nat)(r:List Nat)(h:List (Nat×Blk)):JH (a::r) h=h.filter fun e=> !G2 (a::r) e.1:=by
 have:(fun e:Nat×Blk=> !G2 (a::r) e.1)=fun e=> !(a::r).contains e.1:=by funext e;rw[NA]
 rw[this]
 rfl
theorem ja4:Bb P T ⟨d,.move x,ty,pos,af,g⟩ st k=As ((st.ev x).map .val) k:=rfl
theorem jh3:Bb P T ⟨d,.assign (.const (.slice none 0 0)),ty,pos,af,g⟩ st k=As (d.bind fun d=>(T ty).bind fun i=>i.sl.bind fun e=>(T e).map fun j=> .new (.row j.size [] true) (vC (.sl d 0 0))) k:=rfl
theorem Ya(i:Nat):Bb P T ⟨d,.assign (.tmp i),ty,pos,af,g⟩ st k=As ((lk i st.t).map .val) k:=rfl
theorem jb5(kd:IntKind)(n:Int):Bb P T ⟨d,.assign (.const (.int kd n)),ty,pos,af,g⟩ st k=k (.val (vI kd n)):=DM _ _
theorem jf0(b:Bool):Bb P T ⟨d,.assign (.const (.bool b)),ty,pos,af,g⟩ st k=k (.val (vB b)):=DM _ _
theorem jbQ(cs:Array Value):Bb P T ⟨d,.assign (.const (.agg cs)),ty,pos,af,g⟩ st k=As ((cVal (.agg cs)).map .val) k:=rfl
theorem jes:Bb P T ⟨d,.load t x,ty,pos,af,g⟩ st k=As ((T t).bind fun i=>(st.evC x).bind fun c=>(st.load i c).map fun u=> .val (.u u)) k:=rfl
theorem YP:Bb P T ⟨d,.nilCheck x,ty,pos,af,g⟩ st k=As ((st.evC x).bind fun c=>(nilChk c).map fun c=> .val (vC c)) k:=rfl
theorem jd3(op:BinOp)(t':TypeId):Bb P T ⟨d,.binOp op t x y t',ty,pos,af,g⟩ st k=As ((st.ev x).bind fun a=>(st.ev y).bind fun b=>(binV T op t a b).map .val) k:=rfl
theorem jbx(f:Nat):Bb P T ⟨d,.fieldAddr t x f,ty,pos,af,g⟩ st k=As ((T t).bind fun i=>(st.evC x).bind fun c=>(i.flds[f]?).bind fun p=>(T p.2).bind fun j=>if j.size=0 then none else (fldAddr p.1 c).map fun c=> .val (vC c)) k:=rfl
theorem jbf(i:Operand):Bb P T ⟨d,.indexAddr t x i,ty,pos,af,g⟩ st k=As ((T t).bind fun ti=>(st.evC x).bind fun c=>(st.evI i).bind fun n=>(idxAddr T st.h ti n.2 c).map fun c=> .val (vC c)) k:=rfl
theorem jf8(i:Nat):Bb P T ⟨d,.extract x i,ty,pos,af,g⟩ st k=As ((st.ev x).bind fun v=>(tupAt i v).map fun u=> .val (.u u)) k:=rfl
theorem Yj:Bb P T ⟨d,.store t x y,ty,pos,af,g⟩ st k=As ((T t).bind fun i=>(st.evC x).bind fun c=>(st.evU y).bind fun u=>effStore i c u st) k:=rfl
theorem jgP(f:Operand)(args:List Operand)(ts:Array TypeId):Bb P T ⟨d,.call ⟨.value f,args.toArray,ts⟩,ty,pos,af,g⟩ st k=As (st.evU f) (HY P d args st k):=rfl
theorem Zl(b:Builtin)(args:List Operand)(ts:List TypeId):Bb P T ⟨d,.call ⟨.builtin b,args.toArray,ts.toArray⟩,ty,pos,af,g⟩ st k=As (effBuiltin T b ts args d st) k:=rfl
theorem jfJ(a b c:Operand):Bb P T ⟨d,.pick c a b,ty,pos,af,g⟩ st k=As ((st.evB c).bind fun c=>(pickV c (st.ev a) (st.ev b)).map .val) k:=rfl
theorem jcT:Bb P T ⟨d,.alloc t,ty,pos,af,g⟩ st k=As ((T t).bind fun i=>d.map fun d=> .new (.box i.zero) (vC (.ptr d 0))) k:=rfl
theorem jea:Bb P T ⟨d,.box t x,ty,pos,af,g⟩ st k=As ((T t).bind fun i=>(st.evU x).bind fun u=>if u.cells.length=i.size then d.map fun d=> .new (.box u.cells) (vC (.ptr d 0)) else none) k:=rfl
theorem Yw(parts:List (Nat×Operand)):Bb P T ⟨d,.build t parts.toArray,ty,pos,af,g⟩ st k=As ((T t).bind fun i=>(st.evUs parts).bind fun l=>(build T i l).map fun u=> .val (.u u)) k:=rfl
theorem Xh(len:Nat)(parts:List (Nat×Operand)):Bb P T ⟨d,.buildSlice t len parts.toArray,ty,pos,af,g⟩ st k=
  As ((T t).bind fun i=>i.sl.bind fun e=>(T e).bind fun j=>(st.evUs parts).bind fun l=>d.bind fun d=>effBsl d j len st.h l) k:=rfl
theorem W7:Bb P T ⟨d,.makeSlice t x y,ty,pos,af,g⟩ st k=As ((T t).bind fun i=>i.sl.bind fun e=>(T e).bind fun j=>(st.evI x).bind fun l=>(st.evI y).bind fun c=>d.bind fun d=>Jx d j l.2 c.2) k:=rfl
theorem jb8(lo hi:Option Operand):Bb P T ⟨d,.slice t x lo hi none,ty,pos,af,g⟩ st k=
  As ((T t).bind fun i=>(st.evC x).bind fun c=>(st.evO lo).bind fun l=>(st.evO hi).bind fun h=>
   (match i.sl with|some e=>(T e).bind fun j=>sliceV st.h c l h j.size|none=>if E5 i then sliceS c l h else none).map fun v=> .val (vC v)) k:=rfl
theorem jhS(f:FuncId)(caps:List Operand):Bb P T ⟨d,.makeFunc (.func f) #[] caps.toArray,ty,pos,af,g⟩ st k=As ((caps.mapM st.evC).map fun cs=> .val (.u (clo [] f cs))) k:=rfl
theorem jb0:Bb P T ⟨d,.unOp .not t x,ty,pos,af,g⟩ st k=As ((st.evB x).map fun b=> .val (vB !b)) k:=rfl
theorem Zg:Bb P T ⟨d,.unOp .neg t x,ty,pos,af,g⟩ st k=As ((st.evI x).bind fun p=>(Eo p.1 (0 - p.2)).map .val) k:=rfl
theorem jgl(s:TypeId):Bb P T ⟨d,.convert s t x,ty,pos,af,g⟩ st k=As ((T s).bind fun _=>(T t).bind fun i=>(st.evI x).bind fun p=>(GU i p.2).map .val) k:=rfl
theorem XE(f:Nat):Bb P T ⟨d,.field t x f,ty,pos,af,g⟩ st k=As ((T t).bind fun i=>(st.evU x).bind fun u=>(fieldOf T i f u).map fun u=> .val (.u u)) k:=rfl
theorem jdE(i:Operand):Bb P T ⟨d,.index t x i,ty,pos,af,g⟩ st k=As ((T t).bind fun ti=>(st.evU x).bind fun u=>(st.evI i).bind fun n=>(indexOf T ti n.2 u).map fun u=> .val (.u u)) k:=rfl
theorem jfy(f:Operand)(args:List Operand)(ts:Array TypeId):HM P ⟨d,.call ⟨.value f,args.toArray,ts⟩,ty,pos,af,none⟩ st k=As (st.evU f) (JQ P d args st k):=rfl
theorem PG(args:List Operand)(h:FuncId):JQ P d args st k (.c (.d (.fn h [])))=As (args.mapM st.evU) (VG P d st k h):=rfl
theorem jeh(args:List Operand)(h:FuncId)(caps:List D):HY P d args st k (.c (.d (.fn h caps)))=As (args.mapM st.evU) (Jz P d st k h caps):=rfl
theorem YB(args:List Operand)(h:FuncId)(cs:List C):HY P d args st k (.clo h cs)=As (args.mapM st.evU) (OP P d st k h cs):=rfl
theorem jhD(h:FuncId)(cs:List C)(us:List U):OP P d st k h cs us=Jz P d st k h [] (us++cs.map .c):=rfl
theorem jbG(h:FuncId)(caps:List D)(us:List U):Jz P d st k h caps us=As (st.argsW (st.reachU us) us caps) (fun as=>HN P h as (Mz d us k)):=rfl
theorem jfd(us:List U)(res:R):Mz d us k res=((res.flat=true∨HJ us=true)∧k (Gb d res)):=rfl
end
attribute [simp ↓] jbI Xy jek YM YW jgE je5 jc1 Yx Xm ZV jet ZJ
attribute [simp] jbZ jc5 jct jeD ja7 je4 jgJ jgp ja6 Xj jci jce jd9 XC jhW jcI jcV XZ jhw Z4 jfc jho YY jar jcj jeO jaC jhi jfQ Z9 W4
 jfM selT.eq_1 Xo G2 jeq jdm ja4 jh3 Ya jb5 jf0 jbQ jes YP jd3 jbx jbf jf8 Yj jgP Zl jfJ jcT jea Yw Xh W7 jb8 jhS jb0 Zg jgl XE jdE
 jfy PG jeh YB jhD jbG jfd Gb HJ Hl effStore effBsl Jp effApp.eq_1 effApp.eq_2 Jx effBuiltin
end Go.Va
