/- a part of the proof -/
import Derived.Test.YtlgoebgnbkhmmaaGreatDoorZaj
set_option linter.all false
namespace Go.Va
open Go.RowKit
section
variable {P:Program} {T:AH} {ops:List Oper} {pl:List (List Nat)} {ds:List Nat}
theorem CH{α:Type}{x:Option α}{k k':α→Prop}(h: ∀y,k y→k' y)(hx:AI x k):AI x k':=by
 obtain⟨y,hy,hk⟩:=hx
 exact⟨y,hy,h y hk⟩
theorem jhD{dst:Option Nat}{st:St}{K K':St→Prop}(h: ∀s,K s→K' s){g:FuncId}{caps:List D}{us:List U}(hw:Kl P dst st K g caps us):Kl P dst st K' g caps us:=by
 rcases hw with⟨ids,r,h1,h2,a,b,c,d,e⟩|⟨x,ys,rest,as,a,b,c,d⟩|⟨e,x,ys,rest,as,f,cl,zs,a,b,c,d,k⟩|(⟨e,us0,f,cs,as,ys,H,fz,ids,nw,a,b,c,d,k,m⟩|⟨e,us0,f0,k0,f,cs,as,ys,zs,H,fz,ids,nw,a,b,c,d,k,l,m,n,q⟩|⟨e,sz,m,d,cs',us',as,a,b,c,q,f⟩|⟨e,fz,k,n,sz,m,d,cs,cs',us',as,a,a',b,c,q,f,l⟩|⟨e,fz,sz,m,d,cs',us',as,a,b,c,q,f⟩|⟨e,us',h1,h2,v,ids,nw,ks,a,b,c,k⟩)|⟨e,k,n,sz,m,d,cs,cs',us',as,a,b,c,q,f,l⟩
 ·exact .inl ⟨ids,r,h1,h2,a,b,c,d,h _ e⟩
 ·exact .inr (.inl ⟨x,ys,rest,as,a,b,c,h _ d⟩)
 ·exact .inr (.inr (.inl ⟨e,x,ys,rest,as,f,cl,zs,a,b,c,d,h _ k⟩))
 ·exact .inr (.inr (.inr (.inl (.inl ⟨e,us0,f,cs,as,ys,H,fz,ids,nw,a,b,c,d,k,h _ m⟩))))
 ·exact .inr (.inr (.inr (.inl (.inr (.inl ⟨e,us0,f0,k0,f,cs,as,ys,zs,H,fz,ids,nw,a,b,c,d,k,l,m,n,h _ q⟩)))))
 ·exact .inr (.inr (.inr (.inl (.inr (.inr (.inl ⟨e,sz,m,d,cs',us',as,a,b,c,q,h _ f⟩))))))
 ·exact .inr (.inr (.inr (.inl (.inr (.inr (.inr (.inl ⟨e,fz,k,n,sz,m,d,cs,cs',us',as,a,a',b,c,q,f,h _ l⟩)))))))
 ·exact .inr (.inr (.inr (.inl (.inr (.inr (.inr (.inr (.inl ⟨e,fz,sz,m,d,cs',us',as,a,b,c,q,h _ f⟩))))))))
 ·exact .inr (.inr (.inr (.inl (.inr (.inr (.inr (.inr (.inr ⟨e,us',h1,h2,v,ids,nw,ks,a,b,c,h _ k⟩))))))))
 ·exact .inr (.inr (.inr (.inr ⟨e,k,n,sz,m,d,cs,cs',us',as,a,b,c,q,f,h _ l⟩)))
theorem Uy{dst:Option Nat}{st:St}{K K':St→Prop}(h: ∀s,K s→K' s){g:FuncId}{caps:List D}{us:List U}(hw:DM P dst st K g caps us):DM P dst st K' g caps us:=by
 rcases hw with⟨as,a,res,b,c⟩|hw
 ·exact .inl ⟨as,a,res,b,h _ c⟩
 ·exact .inr (jhD h hw)
theorem Np{o:Oper}{st:St}{K K':St→Prop}(h: ∀s,K s→K' s)(hw:wpOp P T o st K):wpOp P T o st K':=by
 unfold wpOp at hw ⊢
 revert hw
 split<;>intro hw
 ·refine CH (fun u hu=> ?_) hw
  unfold Eh at hu ⊢
  revert hu
  split<;>intro hu
  ·grind[CH,Uy]
  ·exact CH (fun us hus=>Uy h hus) hu
  ·exact CH (fun us ⟨as,rest,a,b,c⟩=>⟨as,rest,a,b,h _ c⟩) hu
  ·exact hu.elim
 ·exact CH h hw
theorem OA{o:Oper}{E:St}{d sz len:Nat}{ds:List D}(hd:o.dst=some d)(hl:ds.length=len*sz)(h:EH P T o E (.new (.row sz ds true) (vC (.sl d 0 len)))):EH P T o E (.dat (.slice len ds)):=fun s hs hf K hK=>by
 rw[hd]at hf
 refine Np (K:=Frz fun s1=>K (s1.freeze [d])) (fun s' ⟨l,hl'⟩=>⟨l++[[d]],by grind⟩) (h s hs (by rw[hd];exact⟨hf,rfl⟩) _ fun s' hs'=>hK _ ?_)
 rw[hd]at hs' ⊢
 exact UL hl hf hs'
theorem Vg{ops:List Oper}{o:Oper}{E:St}{k:Eff→Prop}{x:Eff}(h:CL P T ops o E x)(hk:JN o.dst k x): ∃x,CL P T ops o E x∧k x:=by
 unfold JN at hk;split at hk
 ·rename_i sz ds e len
  obtain⟨⟨hd,hl⟩,hk⟩:=hk
  refine⟨_,?_,hk⟩
  unfold CL at h ⊢;split
  ·rename_i hg
   rw[hg]at h
   exact OA hd hl h
  ·rename_i j want hg
   rw[hg]at h
   dsimp only at h
   split
   ·rename_i d' hd'
    rw[hd']at h
    rcases h with⟨b,h1,⟨h2,h3⟩|⟨_,h3⟩⟩|⟨_,h3⟩
    ·exact .inl ⟨b,h1,.inl ⟨h2,OA hd hl h3⟩⟩
    ·cases h3
    ·cases h3
   grind
 ·grind
 ·exact hk.elim
theorem Qz{fin:List Oper→St→Prop}: ∀(is:List DI) (rest:List Oper) (S:St),BH P T ops is rest S fin→
  ∃(xs:List Step) (S':St),xs.length=is.length∧is.length≤rest.length∧fin (rest.drop is.length) S'∧S'.fs=S.fs.run xs∧
   ∀p i,is[p]? =some i→ ∃o x,rest[p]? =some o∧xs[p]? =some ⟨o.dst,x⟩∧DF i (o.dst.getD 0) x=true∧ ∃Sm:St,Sm.fs=S.fs.run (xs.take p)∧CL P T ops o (seen i Sm) x
 |[],rest,S,h=>⟨[],S,rfl,Nat.zero_le _,h,rfl,(by simp)⟩
 |i::is,[],S,h=>h.elim
 |i::is,o::r,S,h=>by
  obtain⟨x,hx,hok,h⟩: ∃x,CL P T ops o (seen i S) x∧Cu i o.dst S (fun S'=>BH P T ops is r S' fin) x:=by
   unfold BH at h;split at h
   ·exact jdR h
   ·split at h
    ·exact jhJ h
    grind[Tn,Vg]
  obtain⟨xs,S',h1,h2,h3,h4,h5⟩:=Qz is r _ h
  rw[jag]at h4 h5
  refine⟨⟨o.dst,x⟩::xs,S',by simp[h1],by simpa using h2,by simpa using h3,h4,fun p j hp=> ?_⟩
  cases p with
  |zero=>
   simp only[List.getElem?_cons_zero,Option.some.injEq]at hp;subst hp;exact⟨o,x,rfl,rfl,hok,S,rfl,hx⟩
  |succ p=>
   obtain⟨o',x',g1,g2,g3,Sm,g4,g5⟩:=h5 p j (by simpa using hp)
   exact⟨o',x',by simpa using g1,by simpa using g2,g3,Sm,by rw[g4];rfl,g5⟩
theorem jeT(ds:List Nat)(st:St){d:Nat}(h:d∈ds):(purges ds st).fs.Clean d:=SH d ds st (.inl h)
theorem jh0(hlt: ∀j i,BU pl j i=true→j<i){lo:Nat}{is:List DI}{st:St}{ids:List Nat}{K:St→Prop}(hfit:lo+is.length≤ops.length)(hcut:Kn ops pl (lo+is.length)=true)
  (hi:QW ops pl ds lo is=true) {n:Nat} (h:BH P T ops is (ops.drop lo) (purges ds (st.freeze ids)) fun rest s=>rest=ops.drop (lo+is.length)→FW P T ops (BU pl) n (lo+is.length) s K):
  FW P T ops (BU pl) (n+1) lo st K:=by
 obtain⟨xs,S',hlen,_,hK,hS',hd⟩:=Qz is (ops.drop lo) _ h
 rw[List.drop_drop]at hK
 have hK:=hK rfl;generalize hF0:(purges ds (st.freeze ids)).fs=F0 at hS' hd;have hclean: ∀d,d∈ds→F0.Clean d:=fun d h=>hF0 ▸ jeT ds _ h
 let f:Nat→Step:=fun i=>if i<lo then ⟨none,.val (.tup [])⟩ else xs.getD (i - lo) default
 have flo: ∀i,i<lo→f i=⟨none,.val (.tup [])⟩:=fun i h=>if_pos h
 have fget: ∀p,p<is.length→ ∃o x,ops[lo+p]? =some o∧f (lo+p)=⟨o.dst,x⟩∧DF is[p]! (o.dst.getD 0) x=true∧ ∃Sm:St,Sm.fs=F0.run (xs.take p)∧CL P T ops o (seen is[p]! Sm) x:=fun p hp=>by
  have hip:is[p]? =some is[p]! :=by rw[AD hp,List.getElem!_of_getElem? (AD hp)]
  obtain⟨o,x,g1,g2,g3,g4⟩:=hd p _ hip
  refine⟨o,x,by simpa [List.getElem?_drop]using g1,?_,g3,g4⟩
  show(if lo+p<lo then _ else xs.getD (lo+p - lo) default)=_
  rw[if_neg (by omega),Nat.add_sub_cancel_left,AL,g2]
  rfl
 have frun: ∀p,p≤is.length→F0.run ((List.range (lo+p)).map f)=F0.run (xs.take p):=fun p hp=>by
  rw[List.range_add,List.map_append,FS.run_append,Nq F0 ((List.range lo).map f)]
  ·congr 1
   apply List.ext_getElem?
   intro q;simp only[List.map_map,Bf,List.getElem?_take];by_cases hq:q<p
   ·rw[if_pos hq,List.getElem?_range hq]
    simp only[Option.map_some,Function.comp_apply,f];rw[if_neg (by omega),Nat.add_sub_cancel_left,AL,AD (by omega)]
    rfl
   ·rw[if_neg hq,B9 (by simpa using hq)]
    rfl
  ·intro s hs;obtain⟨j,hj,rfl⟩:=jzk.1 hs;exact flo j (List.mem_range.1 hj)
 let Em:Nat→St:=fun i=>if h:lo≤i∧i<lo+is.length then seen is[i - lo]! (Classical.choose (fget (i - lo) (by omega)).choose_spec.choose_spec.2.2.2) else ⟨[],[]⟩
 have hE: ∀p,(hp:p<is.length)→ ∃o x,ops[lo+p]? =some o∧f (lo+p)=⟨o.dst,x⟩∧DF is[p]! (o.dst.getD 0) x=true∧ ∃Sm:St,Sm.fs=F0.run (xs.take p)∧Em (lo+p)=seen is[p]! Sm∧CL P T ops o (seen is[p]! Sm) x:=fun p hp=>by
  have hsp:=(fget p hp).choose_spec.choose_spec;refine⟨_,_,hsp.1,hsp.2.1,hsp.2.2.1,Classical.choose hsp.2.2.2,(Classical.choose_spec hsp.2.2.2).1,?_,(Classical.choose_spec hsp.2.2.2).2⟩;have e:lo+p - lo=p:=Nat.add_sub_cancel_left ..;simp only[Em];rw[dif_pos ⟨Nat.le_add_right ..,by omega⟩]
  congr 1<;>simp only[e]
 have hE0: ∀i,i<lo→Em i=⟨[],[]⟩:=(by grind)
 have hdst: ∀p,p<is.length→(f (lo+p)).d=CK ops (lo+p):=fun p hp=>by
  obtain⟨o,x,g1,g2,_⟩:=fget p hp
  rw[g2]
  unfold CK;rw[g1];rfl
 have hip: ∀p,p<is.length→(is[p]!,p)∈is.zipIdx:=(by grind)
 have hnew: ∀p,p<is.length→ ∀d∈FL (CK ops (lo+p)) is[p]!,d∈ds∧d∉is[p]!.ks:=fun p hp d hd=>by
  have:=jzy.1 hi _ (hip p hp)
  grind
 have hbeside: ∀p q,p<is.length→q<is.length→JP pl (lo+p) (CK ops (lo+p)) is[p]! (lo+q) (CK ops (lo+q)) is[q]! =true:=fun p q hp hq=>by
  have:=jzy.1 hi _ (hip p hp)
  grind
 have hinc: ∀p q,p<is.length→q<is.length→p≠q→BU pl (lo+p) (lo+q)=false→BU pl (lo+q) (lo+p)=false→
   (∀t,(f (lo+q)).d=some t→t∉is[p]!.rd∧(f (lo+p)).d≠some t)∧ ∀k,k∈CU (CK ops (lo+q)) is[q]! →k∈is[p]!.nh∧k∉CU (CK ops (lo+p)) is[p]! :=fun p q hp hq hne h1 h2=>by
  have:=hbeside p q hp hq
  unfold JP at this;have hb:LK pl (lo+p) (lo+q)=true:=by grind[LK]
  rw[hb,AR]at this
  have:=this.1
  simp only[Bool.not_true,Bool.false_or,AR]at this;refine⟨fun t ht=> ?_,fun k hk=>⟨?_,?_⟩⟩
  ·grind
  ·grind
  ·have:=jzy.1 this.2.2 k hk
   simpa using this
 have hhit: ∀p,p<is.length→ ∀k,(f (lo+p)).hits k→k∈CU (CK ops (lo+p)) is[p]! :=fun p hp k hk=>by
  obtain⟨o,x,g1,g2,g3,_⟩:=fget p hp
  rw[←hdst p hp]
  exact Ox (s:=f (lo+p)) (by rw[g2];exact g3) hk
 have hcl: ∀p q,p<is.length→q<is.length→p≠q→BU pl (lo+q) (lo+p)=false→ ∀d∈FL (CK ops (lo+q)) is[q]!,(f (lo+p)).Clean d:=fun p q hp hq hne h1 d hd=>by
  have:=hbeside p q hp hq
  unfold JP at this;rw[AR]at this;have:=this.2;rw[show(lo+p==lo+q)=false by simpa using hne,h1]at this
  simp only[Bool.false_or]at this;have:=jzy.1 this d hd;rw[AR]at this;obtain⟨o,x,g1,g2,g3,_⟩:=fget p hp;refine VC (s:=f (lo+p)) (i:=is[p]!) (by rw[g2];exact g3) (by simpa using this.1) ?_
  grind
 have split: ∀i,i<lo+is.length→i<lo∨ ∃p,p<is.length∧i=lo+p:=(by grind)
 have idle: ∀k,¬(⟨none,.val (.tup [])⟩:Step).hits k:=(by grind[Step.hits,Eff.b])
 right;right;left
 refine⟨lo+is.length,ids,ds,f,Em,Nat.le_add_right ..,hfit,U2 hcut,?_,flo,?_,S',?_,hK⟩
 ·rw[hF0]
  refine⟨hlt,fun i j hij hj hp=> ?_,fun i hi t v hv=> ?_,fun i hi k b hb=> ?_⟩
  ·rcases split j hj with h1|⟨q,hq,rfl⟩
   ·rw[flo j h1]
    exact⟨(by simp),(by grind)⟩
   ·rcases split i (by omega)with h1|⟨p,hp',rfl⟩
    ·rw[flo i h1]
     exact⟨(by simp),(by grind)⟩
    ·have hne:p≠q:=by omega
     have h2:BU pl (lo+q) (lo+p)=false:=by
      grind
     obtain⟨a1,a2⟩:=hinc p q hp' hq hne hp h2
     exact⟨(by grind),(by grind)⟩
  ·rcases split i hi with h1|⟨p,hp,rfl⟩
   ·rw[hE0 i h1]at hv;cases hv
   ·obtain⟨o,x,g1,g2,g3,Sm,g4,g5,_⟩:=hE p hp
    rw[g5]at hv
    obtain⟨e1,e2⟩:=Jl (fun t=>is[p]!.rd.contains t) t Sm.t v hv
    refine⟨?_,fun j hj hne hp1 hp2 hs=> ?_⟩
    ·rw[frun p (by omega),←g4];exact e1
    ·rcases split j hj with h1|⟨q,hq,rfl⟩
     ·rw[flo j h1]at hs;cases hs
     ·exact((hinc p q hp hq (by omega) hp2 hp1).1 t hs).1 (by simpa using e2)
  ·rcases split i hi with h1|⟨p,hp,rfl⟩
   ·rw[hE0 i h1]at hb;cases hb
   ·obtain⟨o,x,g1,g2,g3,Sm,g4,g5,_⟩:=hE p hp
    rw[g5]at hb
    obtain⟨e1,e2⟩:=XT hb
    refine⟨?_,fun j hj hne hp1 hp2 hs=> ?_⟩
    ·rw[frun p (by omega),←g4];exact e1
    grind
 ·rw[hF0]
  intro i o hlo hhi ho L s hLi hc hsub hfs K' hK';obtain⟨p,rfl⟩: ∃p,i=lo+p:=(by grind)
  have hp:p<is.length:=by omega
  obtain⟨o',x,g1,g2,g3,Sm,g4,g5,g6⟩:=hE p hp
  rw[ho]at g1
  cases g1;rw[g5]at hsub
  refine jcS g6 hsub ?_ (fun s' hs'=>hK' s' (by rw[hs',g2]))
  have key:(∀d,d∈FL (CK ops (lo+p)) is[p]! →s.fs.Clean d):=fun d hd=>by
   rw[hfs]
   refine Pk _ _ (by grind) fun s1 hs1=> ?_
   obtain⟨j,hj,rfl⟩:=jzk.1 hs1
   obtain⟨hj1,hj2⟩:=List.mem_filter.1 hj
   rcases split j (List.mem_range.1 hj1)with h1|⟨q,hq,rfl⟩
   ·rw[flo j h1];exact⟨rfl,(by grind[Eff.b])⟩
   grind
  have hod:o.dst=CK ops (lo+p):=by grind
  cases x with
  |val v=>trivial
  |dat v=>
   simp only[DF,Bool.or_eq_true,beq_iff_eq]at g3;refine key _ ?_;rw[←hod];unfold FL
   grind
  |put k b=>trivial
  |new b v=>
   simp only[DF,AR,Bool.or_eq_true,beq_iff_eq]at g3;refine⟨key _ ?_,IE g3.2.2 (by simp)⟩
   rw[←hod]
   unfold FL;rw[if_pos (g3.1.elim (fun h=>h.elim .inl fun h=> .inr (.inl h)) fun h=> .inr (.inr (.inr (.inl h))))]
   exact List.mem_cons_self ..
  |app k b v=>
   simp only[DF,AR,Bool.or_eq_true,beq_iff_eq]at g3;refine⟨key _ ?_,IE g3.2.2.2 (by simp)⟩
   rw[←hod]
   unfold FL;rw[if_pos (g3.1.elim (fun h=> .inr (.inl h)) fun h=> .inr (.inr (.inr (.inl h))))]
   exact List.mem_cons_self ..
 grind
theorem jkw{o:Oper}{st:St}{K K':St→Prop}(h: ∀s,K s→K' s)(hw:Ca P T ops o st K):Ca P T ops o st K':=by
 unfold Ca at hw ⊢
 revert hw
 split<;>intro hw
 ·exact Np h hw
 ·revert hw
  split<;>intro hw
  ·unfold EW at hw ⊢
   revert hw
   split<;>intro hw
   ·exact⟨(by grind[Np]),fun hb=>h _ (hw.2 hb)⟩
   ·exact h _ hw
   ·exact hw.elim
  ·exact hw.elim
theorem Sl{o:Oper}{E:St}{k k':Eff→Prop}(h: ∀x,k x→k' x)(hw:Bo P T o E k):Bo P T o E k':=by
 unfold Bo at hw ⊢
 revert hw
 split<;>intro hw
 ·refine CH (fun u hu=> ?_) hw
  unfold Gl at hu ⊢
  revert hu
  split<;>intro hu
  ·exact CH (fun us hus=>CH (fun as ⟨res,b1,b2,b3⟩=>⟨res,b1,b2,h _ b3⟩) hus) hu
  ·exact CH (fun us hus=>CH (fun as ⟨res,b1,b2,b3⟩=>⟨res,b1,b2,h _ b3⟩) hus) hu
  ·exact hu.elim
 ·exact CH h hw
theorem jbD{o:Oper}{E:St}{k k':Eff→Prop}(h: ∀x,k x→k' x)(hw:Dx T ops o E k):Dx T ops o E k':=by
 unfold Dx at hw ⊢
 revert hw
 split<;>intro hw
 ·exact CH h hw
 ·revert hw
  split<;>intro hw
  ·unfold CS at hw ⊢
   grind[CH]
  ·exact hw.elim
theorem S9{o:Oper}{E:St}{k k':Eff→Prop}(h: ∀x,k x→k' x)(hw:CN P T ops o E k):CN P T ops o E k':=by
 unfold CN at hw ⊢
 revert hw
 split<;>intro hw
 ·exact Sl h hw
 ·revert hw
  split<;>intro hw
  ·unfold CS at hw ⊢
   grind[Sl]
  ·exact hw.elim
theorem F9{fin fin':List Oper→St→Prop}(h: ∀r s,fin r s→fin' r s): ∀{is:List DI} {rest:List Oper} {S:St},BH P T ops is rest S fin→BH P T ops is rest S fin'
 |[],_,_,hw=>h _ _ hw
 |_::_,[],_,hw=>hw.elim
 |i::_,_::_,_,hw=>by
  unfold BH at hw ⊢;split
  ·rename_i hi
   rw[if_pos hi]at hw
   exact jbD (fun _ ⟨h1,h2⟩=>⟨h1,F9 h h2⟩) hw
  ·rename_i hi
   rw[if_neg hi]at hw
   split
   ·rename_i h5
    rw[if_pos h5]at hw
    unfold Fb at hw ⊢
    revert hw
    split
    ·intro hw;refine CH (fun u hu=> ?_) hw
     unfold Qm at hu ⊢
     revert hu
     split
     ·exact fun hu=>CH (fun us hh=>hh.imp (fun⟨b,n,sz,m,d,cs,cs',us',as,a1,a2,a3,a4,a5,a6,a7⟩=>⟨b,n,sz,m,d,cs,cs',us',as,a1,a2,a3,a4,a5,a6,F9 h a7⟩) fun⟨sz,m,d,cs',us',as,a1,a2,a3,a4,a5,a6⟩=>⟨sz,m,d,cs',us',as,a1,a2,a3,a4,a5,F9 h a6⟩) hu
     simp
    simp
   ·rename_i h5
    rw[if_neg h5]at hw
    split
    ·rename_i h6
     rw[if_pos h6]at hw
     refine S9 (fun x hx=> ?_) hw
     unfold JN at hx ⊢
     revert hx
     split
     ·exact fun⟨h0,h1,h2⟩=>⟨h0,h1,F9 h h2⟩
     ·exact fun⟨h1,h2⟩=>⟨h1,F9 h h2⟩
     simp
    ·rename_i h6
     rw[if_neg h6]at hw
     exact S9 (fun _ ⟨h1,h2⟩=>⟨h1,F9 h h2⟩) hw
theorem Nz{seg:List Oper}{q:List (List Nat)}{K K':St→Prop}(h: ∀s,K s→K' s): ∀(n:Nat) (L:List Nat) (st:St),E3 P T ops seg q n L st K→E3 P T ops seg q n L st K'
 |0,_,_,hk=>h _ hk
 |n+1,L,st,hk=>fun i o h1 h2 h3=>jkw (fun s hs=>Nz h n _ s hs) (hk i o h1 h2 h3)
theorem Ki{lo:Nat}{q:List (List Nat)}{K:St→Prop}(hq:(q.zipIdx.all fun(l,p)=>l.all fun j=>BU pl (lo+j) (lo+p))=true): ∀(n:Nat) (L:List Nat) (L':Nat→Bool) (st:St),(∀j,L' j=true↔j<lo∨(lo≤j∧j - lo∈L))→
  E3 P T ops ((ops.drop lo).take q.length) q n L st K→GX P T ops (BU pl) (lo+q.length) n L' st K
 |0,_,_,_,_,h=>h
 |n+1,L,L',st,hL,h=>fun i o hi ho hl hp=>by
  have hlo:lo≤i∧i - lo∉L:=by
   grind
  refine jkw (fun s hs=>Ki hq n ((i - lo)::L) _ s (fun j=> ?_) hs) (h (i - lo) o ?_ (by simpa using hlo.2) ?_)
  ·grind
  ·grind
  ·rw[jzy]
   intro j hj;have h2:(q.getD (i - lo) [],i - lo)∈q.zipIdx:=by
    grind
   grind
theorem LH(hlt: ∀j i,BU pl j i=true→j<i){K:St→Prop}: ∀(segs:List Seg) (lo:Nat) (st:St),lo≤ops.length→DT ops pl lo segs=true→DY P T ops segs (ops.drop lo) K st→
  FW P T ops (BU pl) segs.length lo st K
 |[],lo,st,_,hb,h=>⟨by simpa [DT]using hb,h⟩
 | .one::r,lo,st,hle,hb,h=>by
  simp only[DT,AR]at hb;cases hd:ops.drop lo with
  |nil=>rw[hd]at h;exact h.elim
  |cons o rest=>
   rw[hd]at h
   have hlo:lo<ops.length:=by
    have:=congrArg List.length hd
    simp at this;omega
   have ho:ops[lo]? =some o:=by
    have:=congrArg (·[0]?) hd
    simpa using this
   have hrest:rest=ops.drop (lo+1):=by
    have:=congrArg (List.drop 1) hd
    simpa using this.symm
   right;left
   refine⟨o,ho,U2 hb.1,?_⟩
   rw[hrest]at h
   exact jkw (fun s hs=>LH hlt r (lo+1) s (by omega) hb.2 hs) h
 | .rn l::r,lo,st,hle,hb,h=> .inr (.inr (.inr (.inl ⟨l,LH hlt r lo (rns l st) hle hb h⟩)))
 | .all q::r,lo,st,hle,hb,h=>by
  simp only[DT,AR,decide_eq_true_eq]at hb;refine .inr (.inr (.inr (.inr ⟨lo+q.length,by omega,hb.1,U2 hb.2.1,?_⟩)))
  rw[Nat.add_sub_cancel_left]
  refine Ki (lo:=lo) hb.2.2.1 q.length [] _ st (fun j=>by simp) (Nz (fun s ⟨s0,h1,h2⟩=>⟨s0,h1,LH hlt r _ s0 hb.1 hb.2.2.2 (by rwa [List.drop_drop]at h2)⟩) _ _ _ h)
 | .any ids ds is::r,lo,st,hle,hb,h=>by
  simp only[DT,AR,decide_eq_true_eq]at hb;exact jh0 hlt hb.1 hb.2.1 hb.2.2.1 (F9 (fun rest s hs he=>LH hlt r _ s hb.1 hb.2.2.2 (he ▸ hs)) h)
theorem AA{st:St}{K:St→Prop}(pl:List (List Nat))(segs:List Seg)(h1:Jy ops pl segs=true)(h2:DY P T ops segs ops K st):Kz P T ops st K:=by
 simp only[Jy,AR]at h1;have hlt: ∀j i,BU pl j i=true→j<i:=Z6 h1.2.1;exact⟨BU pl,segs.length,jfa h1.1,hlt,(by simp_all[LH,Nat.zero_le])⟩
end
theorem Al{m n:Nat}(h:m.ble n=true):m≤n:=Nat.le_of_ble_eq_true h
@[simp]def Aq(l:List (List Nat)):List DI:=l.map fun x=>⟨0,x,[],[],[]⟩
@[simp]def AG(z:List Nat)(l:List (List Nat)):List DI:=l.map fun x=>⟨0,x,[],z,[]⟩
def Ah(l:List Nat):List (List Nat):=l.map fun m=>(List.range 64).filter fun i=>m/2^i%2==1
theorem Ac{P:Program}{g:FuncId}{bs:List A}{r:R}{k:R→Prop}{X:Prop}(h:CallsF P g bs r)(hk:k r):G9 P g bs k∨X:= .inl ⟨r,h,hk⟩
theorem Ae{P:Program}{g:FuncId}{bs:List A}{r:R}{k:R→Prop}(h:CallsF P g bs r)(hk:k r):G9 P g bs k:=⟨r,h,hk⟩
end Go.Va
namespace Go.Va
section
variable {P:Program} {T:AH} {st:St} {Q:Bk} {K:St→Prop} {ops:List Oper}
theorem V0:Bl P T .skip st Q=Q .normal st:=rfl
theorem Zk(i:Nat)(l:List Oper):Bl P T (.region i l.toArray false) st Q=EV P T l l st (IG Q):=by simp[Bl,JS]
theorem jkk(i:Nat)(l:List Oper):Bl P T (.region i l.toArray true) st Q=Kz P T l st (IG Q):=by simp[Bl,JS]
theorem jcp(a b:Code):Bl P T (.seq a b) st Q=Bl P T a st (DO (Bl P T b) Q):=rfl
theorem jgU(c:Operand)(x y:Code):Bl P T (.cond c x y) st Q=Ie (st.evB c) st (Bl P T x) (Bl P T y) Q:=rfl
theorem Yi(i:Nat)(c:Code):Bl P T (.block i c) st Q=Bl P T c st (Gf i Q):=rfl
theorem jeA(c:Code):Bl P T (.loop c) st Q=HN (Bl P T c) st Q:=rfl
theorem jeh(i:Nat):Bl P T (.exit i) st Q=Q (.exit i) st:=rfl
theorem jaU:Bl P T .ret st Q=Q .ret st:=rfl
theorem jha:EV P T ops [] st K=K st:=rfl
theorem jft(o:Oper)(r:List Oper):EV P T ops (o::r) st K=Ca P T ops o st (JB (EV P T ops r) K):=rfl
variable (d:Option Nat) (ty:TypeId) (pos:String) (af:Array Edge) (g:Option (Nat×Bool))
theorem jcC(op:Op):Ca P T ops ⟨d,op,ty,pos,af,none⟩ st K=wpOp P T ⟨d,op,ty,pos,af,none⟩ st K:=rfl
def Hl(ops:List Oper)(j:Nat):Option Nat:=(ops[j]?).bind (·.dst)
def Tu(P:Program)(T:AH)(dj:Option Nat)(want:Bool)(o:Oper)(st:St)(K:St→Prop):Prop:=
 match dj with
 |some d=>EW d want (lk d st.t) st (wpOp P T o) (Gr o.dst) K
 |none=>False
theorem jeO(op:Op)(j:Nat)(want:Bool):Ca P T ops ⟨d,op,ty,pos,af,some (j,want)⟩ st K=Tu P T (Hl ops j) want ⟨d,op,ty,pos,af,some (j,want)⟩ st K:=rfl
theorem Xq(dj:Nat)(op:Op)(j:Nat)(want:Bool):Tu P T (some dj) want ⟨d,op,ty,pos,af,some (j,want)⟩ st K=
 EW dj want (lk dj st.t) st (wpOp P T ⟨d,op,ty,pos,af,some (j,want)⟩) (Gr d) K:=rfl
theorem jiU(o:Oper)(r:List Oper):Hl (o::r) 0=o.dst:=rfl
theorem ZT(o:Oper)(r:List Oper)(n:Nat):Hl (o::r) (n+1)=Hl r n:=rfl
theorem jhG(dst:Option Nat):Gr dst st K=K (st.put dst (.tup [])):=rfl
theorem jkM(dst:Option Nat)(ids:List Nat)(res:R):Jc dst ids K st res=K (st.back dst ids res):=rfl
variable (x y z:Operand) (t:TypeId)
theorem jjU:wpOp P T ⟨d,.move x,ty,pos,af,g⟩ st K=AI ((st.ev x).map fun v=>st.put d v) K:=rfl
theorem ji9:wpOp P T ⟨d,.assign (.const (.slice none 0 0)),ty,pos,af,g⟩ st K=AI (GH T ty d st) K:=rfl
theorem jj0(i:Nat):wpOp P T ⟨d,.assign (.tmp i),ty,pos,af,g⟩ st K=AI ((lk i st.t).map fun v=>st.put d v) K:=rfl
theorem je6(k:IntKind)(n:Int):wpOp P T ⟨d,.assign (.const (.int k n)),ty,pos,af,g⟩ st K=K (st.put d (vI k n)):=CR _ _
theorem ji7(b:Bool):wpOp P T ⟨d,.assign (.const (.bool b)),ty,pos,af,g⟩ st K=K (st.put d (vB b)):=CR _ _
theorem YI(b:ByteArray):wpOp P T ⟨d,.assign (.const (.string b)),ty,pos,af,g⟩ st K=K (st.put d (vC (.d (.str b)))):=CR _ _
theorem Y5:wpOp P T ⟨d,.assign (.const .nilFunc),ty,pos,af,g⟩ st K=K (st.put d (vC (.d .nilFn))):=CR _ _
theorem jb1(cs:Array Value):wpOp P T ⟨d,.assign (.const (.agg cs)),ty,pos,af,g⟩ st K=AI ((cVal (.agg cs)).map fun v=>st.put d v) K:=rfl
theorem jiN(f:FuncId):wpOp P T ⟨d,.assign (.func f),ty,pos,af,g⟩ st K=AI ((st.ev (.func f)).map fun v=>st.put d v) K:=rfl
theorem jfb:wpOp P T ⟨d,.pick x y z,ty,pos,af,g⟩ st K=AI ((st.evB x).bind fun c=>(pickV c (st.ev y) (st.ev z)).map fun v=>st.put d v) K:=rfl
theorem jaK:wpOp P T ⟨d,.alloc t,ty,pos,af,g⟩ st K=AI ((T t).bind fun i=>mk d st (.box i.zero) fun d=> .ptr d 0) K:=rfl
theorem jb7:wpOp P T ⟨d,.box t x,ty,pos,af,g⟩ st K=AI ((T t).bind fun i=>(st.evU x).bind fun u=>if u.cells.length=i.size then mk d st (Fq u) (fun d=> .ptr d 0) else none) K:=rfl
@[simp]theorem jkX(c:Code)(st:St)(Q:Bk):Bl P T (.scope c) st Q=Bl P T c st (Hr Q):=rfl
@[simp]theorem jk0(l:Nat)(st:St)(Q:Bk):Bl P T (.label l) st Q=Q .normal st:=rfl
@[simp]theorem jkO(Q:Bk)(s:St):Hr Q .normal s=Q .normal s:=rfl
@[simp]theorem jlb(Q:Bk)(s:St):Hr Q .ret s=Q .ret s:=rfl
@[simp]theorem jk9(Q:Bk)(i:Nat)(s:St):Hr Q (.exit i) s=Q (.exit i) s:=rfl
@[simp]theorem boxOf_c(x:C):Fq (.c x)= .box [x]:=rfl
@[simp]theorem jlc(cs:List C):Fq (.agg cs)= .box cs:=rfl
@[simp]theorem jkQ(f:FuncId)(cs:List C):Fq (.clo f cs)= .fbox f cs:=rfl
theorem jgV(l:List (Nat×Operand)):wpOp P T ⟨d,.build t l.toArray,ty,pos,af,g⟩ st K=AI ((T t).bind fun i=>(st.evUs l).bind fun l=>(build T i l).map fun u=>st.put d (.u u)) K:=rfl
theorem ja8(len:Nat)(l:List (Nat×Operand)):wpOp P T ⟨d,.buildSlice t len l.toArray,ty,pos,af,g⟩ st K=
  AI ((T t).bind fun i=>i.sl.bind fun e=>(T e).bind fun j=>(st.evUs l).bind (FG j len d st)) K:=rfl
theorem XB:wpOp P T ⟨d,.load t x,ty,pos,af,g⟩ st K=AI ((T t).bind fun i=>(st.evC x).bind fun c=>(st.load i c).map fun u=>st.put d (.u u)) K:=rfl
theorem jaC:wpOp P T ⟨d,.store t x y,ty,pos,af,g⟩ st K=AI ((T t).bind fun i=>(st.evC x).bind fun c=>(st.evU y).bind fun u=>(st.store i c u).map fun s=>s.put d (.tup [])) K:=rfl
theorem jgY:wpOp P T ⟨d,.nilCheck x,ty,pos,af,g⟩ st K=AI ((st.evC x).bind fun c=>(nilChk c).map fun c=>st.put d (vC c)) K:=rfl
theorem VB(op:BinOp)(t':TypeId)(k:Nat):wpOp P T ⟨d,.binOp op t x (.tmp k) t',ty,pos,af,g⟩ st K=AI ((st.ev x).bind fun a=>(st.ev (.tmp k)).bind fun b=>(binV T op t a b).map fun v=>st.put d v) K:=rfl
theorem WA(op:BinOp)(t':TypeId)(k:IntKind)(n:Int):wpOp P T ⟨d,.binOp op t x (.const (.int k n)) t',ty,pos,af,g⟩ st K=AI ((st.ev x).bind fun a=>(st.ev (.const (.int k n))).bind fun b=>(binV T op t a b).map fun v=>st.put d v) K:=rfl
theorem jaX(op:BinOp)(t':TypeId)(s:ByteArray):wpOp P T ⟨d,.binOp op t x (.const (.string s)) t',ty,pos,af,g⟩ st K=AI ((st.ev x).bind fun a=>(st.ev (.const (.string s))).bind fun b=>(binV T op t a b).map fun v=>st.put d v) K:=rfl
theorem Um(op:BinOp)(t':TypeId)(b:Bool):wpOp P T ⟨d,.binOp op t x (.const (.bool b)) t',ty,pos,af,g⟩ st K=AI ((st.ev x).bind fun a=>(st.ev (.const (.bool b))).bind fun b=>(binV T op t a b).map fun v=>st.put d v) K:=rfl
theorem Wv(op:BinOp)(t':TypeId):wpOp P T ⟨d,.binOp op t x (.const .nilFunc) t',ty,pos,af,g⟩ st K=AI ((st.ev x).bind fun a=>(st.ev (.const .nilFunc)).bind fun b=>(binV T op t a b).map fun v=>st.put d v) K:=rfl
theorem jcr(op:BinOp)(t':TypeId)(q:Option Addr):wpOp P T ⟨d,.binOp op t x (.const (.pointer q)) t',ty,pos,af,g⟩ st K=AI ((st.ev x).bind fun a=>(st.ev (.const (.pointer q))).bind fun b=>(binV T op t a b).map fun v=>st.put d v) K:=rfl
theorem Wp(op:BinOp)(t':TypeId)(q:Option Addr)(m c:Nat):wpOp P T ⟨d,.binOp op t x (.const (.slice q m c)) t',ty,pos,af,g⟩ st K=AI ((st.ev x).bind fun a=>(st.ev (.const (.slice q m c))).bind fun b=>(binV T op t a b).map fun v=>st.put d v) K:=rfl
theorem Y0(op:BinOp)(t':TypeId):wpOp P T ⟨d,.binOp op t x (.const .nilIface) t',ty,pos,af,g⟩ st K=AI ((st.evC x).bind fun c=>(FO T op t c).map fun v=>st.put d v) K:=rfl
theorem ZG:wpOp P T ⟨d,.unOp .not t x,ty,pos,af,g⟩ st K=AI ((st.evB x).map fun b=>st.put d (vB !b)) K:=rfl
theorem jfY:wpOp P T ⟨d,.unOp .neg t x,ty,pos,af,g⟩ st K=AI ((st.evI x).bind fun p=>(DJ p.1 (0 - p.2)).map fun v=>st.put d v) K:=rfl
theorem jjx(t':TypeId):wpOp P T ⟨d,.convert t t' x,ty,pos,af,g⟩ st K=AI ((T t).bind fun j=>(T t').bind fun i=>(st.evC x).bind fun c=>(convC T st.h j i c).map fun v=>st.put d v) K:=rfl
theorem jkf:wpOp P T ⟨d,.makeInterface t x,ty,pos,af,g⟩ st K=AI ((T t).bind fun i=>(st.evU x).bind fun u=>(ifaceOf i t u).map fun c=>st.put d (vC c)) K:=rfl
theorem ZS(xt:TypeId):wpOp P T ⟨d,.typeAssert x xt t true,ty,pos,af,g⟩ st K=AI ((T t).bind fun i=>(st.evC x).bind fun c=>(assertOf i t c).map fun v=>st.put d v) K:=rfl
theorem jcF:wpOp P T ⟨d,.makeSlice t x y,ty,pos,af,g⟩ st K=AI ((T t).bind fun i=>i.sl.bind fun e=>(T e).bind fun j=>(st.evI x).bind fun l=>(st.evI y).bind fun c=>FC j d st l.2 c.2) K:=rfl
theorem YF(lo hi:Option Operand):wpOp P T ⟨d,.slice t x lo hi none,ty,pos,af,g⟩ st K=
  AI ((T t).bind fun i=>(st.evC x).bind fun c=>(st.evO lo).bind fun l=>(st.evO hi).bind fun h=>
   (match i.sl with|some e=>(T e).bind fun j=>sliceV st.h c l h j.size|none=>if Ce i then sliceS c l h else none).map fun v=>st.put d (vC v)) K:=rfl
theorem jgs(f:Nat):wpOp P T ⟨d,.fieldAddr t x f,ty,pos,af,g⟩ st K=AI ((T t).bind fun i=>(st.evC x).bind fun c=>(i.flds[f]?).bind fun p=>(T p.2).bind fun j=>if j.size=0 then none else (fldAddr p.1 c).map fun c=>st.put d (vC c)) K:=rfl
theorem W9(f:Nat):wpOp P T ⟨d,.field t x f,ty,pos,af,g⟩ st K=AI ((T t).bind fun i=>(st.evU x).bind fun u=>(fieldOf T i f u).map fun u=>st.put d (.u u)) K:=rfl
theorem jbe:wpOp P T ⟨d,.indexAddr t x y,ty,pos,af,g⟩ st K=AI ((T t).bind fun ti=>(st.evC x).bind fun c=>(st.evI y).bind fun n=>(idxAddr T st.h ti n.2 c).map fun c=>st.put d (vC c)) K:=rfl
theorem jku:wpOp P T ⟨d,.index t x y,ty,pos,af,g⟩ st K=AI ((T t).bind fun ti=>(st.evU x).bind fun u=>(st.evI y).bind fun n=>(indexOf T ti n.2 u).map fun u=>st.put d (.u u)) K:=rfl
theorem Yg:wpOp P T ⟨d,.makeMap t none,ty,pos,af,g⟩ st K=AI ((T t).bind fun i=>if i.mp then mk d st (.mp (.mp [])) fun d=> .mp false d else none) K:=rfl
theorem jfT(c:Bool):wpOp P T ⟨d,.lookup t x y c,ty,pos,af,g⟩ st K=AI ((T t).bind fun i=>if i.mp then (st.evC x).bind fun m=>(st.evC y).bind fun k=>Hh st d c i.mpi m k else none) K:=rfl
theorem XO(z:Operand):wpOp P T ⟨d,.mapUpdate t x y z,ty,pos,af,g⟩ st K=AI ((T t).bind fun i=>if i.mp then (st.evC x).bind fun m=>(st.evC y).bind fun k=>(st.evC z).bind fun x=>G7 st d i.mpi m k x else none) K:=rfl
theorem jhf:wpOp P T ⟨d,.range t x,ty,pos,af,g⟩ st K=AI ((T t).bind fun i=>if Ce i=true then (st.evC x).bind fun c=>c.str?.bind fun s=>mk d st (.mp (.it s 0)) fun d=> .mp true d else none) K:=rfl
theorem jg0:wpOp P T ⟨d,.next x true,ty,pos,af,g⟩ st K=AI ((st.evC x).bind fun c=>GN st d c) K:=rfl
theorem Xs(i:Nat):wpOp P T ⟨d,.extract x i,ty,pos,af,g⟩ st K=AI ((st.ev x).bind fun v=>(tupAt i v).map fun u=>st.put d (.u u)) K:=rfl
theorem jcZ(f:FuncId)(caps:List Operand):wpOp P T ⟨d,.makeFunc (.func f) #[] caps.toArray,ty,pos,af,g⟩ st K=
  AI ((caps.mapM st.evC).map fun cs=>st.put d (.u (clo st.h f cs))) K:=rfl
theorem jiI(b:Builtin)(args:List Operand)(ts:List TypeId):wpOp P T ⟨d,.call ⟨.builtin b,args.toArray,ts.toArray⟩,ty,pos,af,g⟩ st K=
  AI (FK T b ts args d st) K:=rfl
theorem Yu(f:Operand)(args:List Operand)(ts:Array TypeId):wpOp P T ⟨d,.call ⟨.value f,args.toArray,ts⟩,ty,pos,af,g⟩ st K=
  AI (st.evU f) (Eh P d args st K):=rfl
end
def St.num(st:St)(t:Nat):Int:=
 match lk t st.t with
 |some (.u (.c (.d (.int _ n))))=>n
 |_=>0
def Mm{α:Type}(f:α→St)(p:α→Prop)(μ:α→Nat)(s:St)(n:Nat):Prop:= ∃x,s=f x∧p x∧μ x=n
theorem CE{α:Type}(rs:List (Nat×Nat))(f:α→St)(p:α→Prop)(μ:α→Nat)(x0:α){body:St→Bk→Prop}{st:St}{Q:Bk}(h0:(f x0).le (rns rs st))(hp:p x0)
  (h: ∀x,p x→body (f x) (DO (Kw (Mm f p μ) rs (μ x)) Q)):HN body st Q:=
 ⟨Mm f p μ,rs,⟨_,_,h0,x0,rfl,hp,rfl⟩,fun _ _ ⟨x,h1,h2,h3⟩=>(by grind)⟩
theorem AV{α:Type}(f:α→St)(p:α→Prop)(μ:α→Nat)(x0:α){body:St→Bk→Prop}{st:St}{Q:Bk}(h0:(f x0).le st)(hp:p x0)
  (h: ∀x,p x→body (f x) (DO (Kw (Mm f p μ) [] (μ x)) Q)):HN body st Q:=CE [] f p μ x0 h0 hp h
@[simp]theorem jnK{α:Type}(f:α→St)(p:α→Prop)(μ:α→Nat)(rs:List (Nat×Nat))(n:Nat)(s:St)(Q:Bk):Kw (Mm f p μ) rs n s Q↔ ∃y,(f y).le (rns rs s)∧p y∧μ y<n:=
 ⟨fun⟨_,_,h1,⟨y,h2,h3,h4⟩,h5⟩=>⟨y,h2 ▸ h1,h3,h4 ▸ h5⟩,fun⟨y,h1,h2,h3⟩=>⟨_,_,h1,⟨y,rfl,h2,rfl⟩,h3⟩⟩
@[simp]theorem rns_nil(s:St):rns [] s=s:=rfl
@[simp]theorem rns_cons(i j:Nat)(r:List (Nat×Nat))(s:St):rns ((i,j)::r) s=rns r (s.rn i j):=rfl
def JY(i j:Nat)(st:St)(b:Option Blk):St:=
 match b with
 |none=>st
 |some b=>{ st.on (C0 i j)with h:=(i,b.on (C0 i j))::rm i (rm j (st.on (C0 i j)).h) }
@[simp]theorem rn_eq(i j:Nat)(st:St):st.rn i j=if i=j then st else JY i j st (lk j st.h):=by
 rfl
@[simp]theorem rnB_none(i j:Nat)(st:St):JY i j st none=st:=rfl
@[simp]theorem rnB_some(i j:Nat)(st:St)(b:Blk):JY i j st (some b)={ st.on (C0 i j)with h:=(i,b.on (C0 i j))::rm i (rm j (st.on (C0 i j)).h) }:=rfl
section
variable (st:St) (k1 k2:St→Bk→Prop) (Q:Bk)
@[simp high]theorem jnL:Ie (some true) st k1 k2 Q=k1 st Q:=by simp[Ie]
@[simp high]theorem jnB:Ie (some false) st k1 k2 Q=k2 st Q:=by simp[Ie]
end
section
variable (d:Nat) (st:St) (k1 k2:St→(St→Prop)→Prop) (K:St→Prop)
@[simp high]theorem gateV_tt:EW d true (some (.u (.c (.d (.bool true))))) st k1 k2 K=k1 (st.put (some d) (vB true)) K:=by simp[PP]
@[simp high]theorem gateV_tf:EW d true (some (.u (.c (.d (.bool false))))) st k1 k2 K=k2 (st.put (some d) (vB false)) K:=by simp[PP]
@[simp high]theorem gateV_ft:EW d false (some (.u (.c (.d (.bool true))))) st k1 k2 K=k2 (st.put (some d) (vB true)) K:=by simp[PP]
@[simp high]theorem gateV_ff:EW d false (some (.u (.c (.d (.bool false))))) st k1 k2 K=k1 (st.put (some d) (vB false)) K:=by simp[PP]
end
@[simp]theorem splice_z{α:Type}(l:List α):splice 0 [] l=l:=by simp[splice]
@[simp]theorem jnF{α:Type}(a b:α)(r l:List α):splice 0 (a::r) (b::l)=a::splice 0 r l:=by simp[splice]
@[simp]theorem splice_s{α:Type}(n:Nat)(b:α)(r l:List α):splice (n+1) r (b::l)=b::splice n r l:=by simp[splice,Nat.add_right_comm]
@[simp]theorem to_sl(i k o n:Nat):C.to i (.sl k o n)= .sl i o n:=rfl
@[simp]theorem to_ptr(i k o:Nat):C.to i (.ptr k o)= .ptr i o:=rfl
@[simp]theorem i64_min:IntKind.i64.min= -9223372036854775808:=by decide
theorem jcj{α:Type}(k:Nat):lk k ([]:List (Nat×α))=none:=rfl
theorem jka{α:Type}(k j:Nat)(v:α)(r:List (Nat×α)):lk k ((j,v)::r)=cond (j==k) (some v) (lk k r):=by
 grind[lk]
theorem jdS{α:Type}(k:Nat):rm k ([]:List (Nat×α))=[]:=rfl
theorem jdx{α:Type}(k j:Nat)(v:α)(r:List (Nat×α)):rm k ((j,v)::r)=cond (j==k) (rm k r) ((j,v)::rm k r):=by
 grind[rm]
@[simp]theorem binV_add(T:AH)(t:TypeId)(k k':IntKind)(a b:Int):binV T .add t (.u (.c (.d (.int k a)))) (.u (.c (.d (.int k' b))))=if k=k' then binI .add k a b else none:=rfl
@[simp]theorem binV_sub(T:AH)(t:TypeId)(k k':IntKind)(a b:Int):binV T .sub t (.u (.c (.d (.int k a)))) (.u (.c (.d (.int k' b))))=if k=k' then binI .sub k a b else none:=rfl
@[simp]theorem binV_mul(T:AH)(t:TypeId)(k k':IntKind)(a b:Int):binV T .mul t (.u (.c (.d (.int k a)))) (.u (.c (.d (.int k' b))))=if k=k' then binI .mul k a b else none:=rfl
@[simp]theorem binV_quo(T:AH)(t:TypeId)(k k':IntKind)(a b:Int):binV T .quo t (.u (.c (.d (.int k a)))) (.u (.c (.d (.int k' b))))=if k=k' then binI .quo k a b else none:=rfl
@[simp]theorem binV_rem(T:AH)(t:TypeId)(k k':IntKind)(a b:Int):binV T .rem t (.u (.c (.d (.int k a)))) (.u (.c (.d (.int k' b))))=if k=k' then binI .rem k a b else none:=rfl
@[simp]theorem binV_and(T:AH)(t:TypeId)(k k':IntKind)(a b:Int):binV T .and t (.u (.c (.d (.int k a)))) (.u (.c (.d (.int k' b))))=if k=k' then binI .and k a b else none:=rfl
@[simp]theorem binV_or(T:AH)(t:TypeId)(k k':IntKind)(a b:Int):binV T .or t (.u (.c (.d (.int k a)))) (.u (.c (.d (.int k' b))))=if k=k' then binI .or k a b else none:=rfl
@[simp]theorem binV_xor(T:AH)(t:TypeId)(k k':IntKind)(a b:Int):binV T .xor t (.u (.c (.d (.int k a)))) (.u (.c (.d (.int k' b))))=if k=k' then binI .xor k a b else none:=rfl
@[simp]theorem jk5(T:AH)(t:TypeId)(k k':IntKind)(a b:Int):binV T .andNot t (.u (.c (.d (.int k a)))) (.u (.c (.d (.int k' b))))=if k=k' then binI .andNot k a b else none:=rfl
@[simp]theorem binV_eql(T:AH)(t:TypeId)(k k':IntKind)(a b:Int):binV T .eql t (.u (.c (.d (.int k a)))) (.u (.c (.d (.int k' b))))=if k=k' then binI .eql k a b else none:=rfl
@[simp]theorem binV_neq(T:AH)(t:TypeId)(k k':IntKind)(a b:Int):binV T .neq t (.u (.c (.d (.int k a)))) (.u (.c (.d (.int k' b))))=if k=k' then binI .neq k a b else none:=rfl
@[simp]theorem binV_lss(T:AH)(t:TypeId)(k k':IntKind)(a b:Int):binV T .lss t (.u (.c (.d (.int k a)))) (.u (.c (.d (.int k' b))))=if k=k' then binI .lss k a b else none:=rfl
@[simp]theorem binV_leq(T:AH)(t:TypeId)(k k':IntKind)(a b:Int):binV T .leq t (.u (.c (.d (.int k a)))) (.u (.c (.d (.int k' b))))=if k=k' then binI .leq k a b else none:=rfl
@[simp]theorem binV_gtr(T:AH)(t:TypeId)(k k':IntKind)(a b:Int):binV T .gtr t (.u (.c (.d (.int k a)))) (.u (.c (.d (.int k' b))))=if k=k' then binI .gtr k a b else none:=rfl
@[simp]theorem binV_geq(T:AH)(t:TypeId)(k k':IntKind)(a b:Int):binV T .geq t (.u (.c (.d (.int k a)))) (.u (.c (.d (.int k' b))))=if k=k' then binI .geq k a b else none:=rfl
@[simp]theorem jkR(T:AH)(op:BinOp)(t:TypeId)(a b:Bool):binV T op t (.u (.c (.d (.bool a)))) (.u (.c (.d (.bool b))))=(T t).bind fun i=>(EJ i (.u (.c (.d (.bool a)))) (.u (.c (.d (.bool b))))).bind (GC op):=rfl
@[simp]theorem binV_agg(T:AH)(op:BinOp)(t:TypeId)(a b:List C):binV T op t (.u (.agg a)) (.u (.agg b))=(T t).bind fun i=>(EJ i (.u (.agg a)) (.u (.agg b))).bind (GC op):=rfl
@[simp]theorem binV_fn(T:AH)(op:BinOp)(t:TypeId)(f:FuncId)(l:List D):binV T op t (.u (.c (.d (.fn f l)))) (.u (.c (.d .nilFn)))=(T t).bind fun i=>(EJ i (.u (.c (.d (.fn f l)))) (.u (.c (.d .nilFn)))).bind (GC op):=rfl
@[simp]theorem jkZ(T:AH)(op:BinOp)(t:TypeId):binV T op t (.u (.c (.d .nilFn))) (.u (.c (.d .nilFn)))=(T t).bind fun i=>(EJ i (.u (.c (.d .nilFn))) (.u (.c (.d .nilFn)))).bind (GC op):=rfl
@[simp]theorem cVal_int(k:IntKind)(n:Int):cVal (.int k n)=some (.u (.c (.d (.int k n)))):=rfl
@[simp]theorem jkP(b:Bool):cVal (.bool b)=some (.u (.c (.d (.bool b)))):=rfl
@[simp]theorem cVal_str(s:ByteArray):cVal (.string s)=some (.u (.c (.d (.str s)))):=rfl
@[simp]theorem cVal_nl:cVal (.slice none 0 0)=some (.u (.c .nl)):=rfl
@[simp]theorem jld:cVal (.pointer none)=some (.u (.c (.d .nilPtr))):=rfl
@[simp]theorem jk7:cVal .nilFunc=some (.u (.c (.d .nilFn))):=rfl
@[simp]theorem onC_d(g:Nat→C→C)(x:D):C.on g (.d x)= .d x:=rfl
@[simp]theorem onC_nl(g:Nat→C→C):C.on g .nl= .nl:=rfl
@[simp]theorem onC_bad(g:Nat→C→C):C.on g .bad= .bad:=rfl
@[simp]theorem idC_d(x:D):C.id? (.d x)=none:=rfl
@[simp]theorem idC_nl:C.id? .nl=none:=rfl
@[simp]theorem idC_bad:C.id? .bad=none:=rfl
@[simp]theorem jlj(k:IntKind)(n:Int):D.flat (.int k n)=true:=rfl
@[simp]theorem jk8(b:Bool):D.flat (.bool b)=true:=rfl
@[simp]theorem jkU(s:ByteArray):D.flat (.str s)=true:=rfl
@[simp]theorem jlg:D.flat .nilFn=true:=rfl
@[simp]theorem jla:D.flat .nilPtr=true:=rfl
@[simp]theorem res_nil(T:AH)(st:St):st.res T []=some (.tup []):=rfl
@[simp]theorem res_one(T:AH)(st:St)(a:ResultVar):st.res T [a]=(st.resU T a).map .u:=rfl
@[simp]theorem isPtr_d(x:D):EU (.d x)=false:=rfl
@[simp]theorem isPtr_nl:EU .nl=false:=rfl
@[simp]theorem jkV:EU .bad=false:=rfl
@[simp]theorem isPtr_sl(i o n:Nat):EU (.sl i o n)=false:=rfl
@[simp]theorem jli(i o:Nat):EU (.ptr i o)=true:=rfl
@[simp]theorem res_two(T:AH)(st:St)(a b:ResultVar)(r:List ResultVar):st.res T (a::b::r)=((a::b::r).mapM (st.resU T)).map .tup:=rfl
@[simp]theorem onC_sl(g:Nat→C→C)(i o n:Nat):C.on g (.sl i o n)=g i (.sl i o n):=rfl
@[simp]theorem onC_ptr(g:Nat→C→C)(i o:Nat):C.on g (.ptr i o)=g i (.ptr i o):=rfl
@[simp]theorem onC_mp(g:Nat→C→C)(q:Bool)(i:Nat):C.on g (.mp q i)=g i (.mp q i):=rfl
@[simp]theorem idC_mp(q:Bool)(i:Nat):C.id? (.mp q i)=some i:=rfl
@[simp]theorem toC_mp(q:Bool)(i j:Nat):C.to i (.mp q j)= .mp q i:=rfl
@[simp]theorem ld_row(sz:Nat)(cs:List D)(app:Bool)(off:Nat):Blk.ld (.row sz cs app) off=(cs[off]?).map fun x=> .c (.d x):=rfl
@[simp]theorem ld_box(cs:List C)(off:Nat):Blk.ld (.box cs) off=(cs[off]?).map .c:=rfl
@[simp]theorem ld_fbox(f:FuncId)(cs:List C):Blk.ld (.fbox f cs) 0=some (.clo f cs):=rfl
@[simp]theorem storeU_c(b off:Nat)(x:C)(st:St)(k:Blk):st.storeU b off (.c x) k=st.storeB b off [x] k:=rfl
@[simp]theorem jle(b off:Nat)(xs:List C)(st:St)(k:Blk):st.storeU b off (.agg xs) k=st.storeB b off xs k:=rfl
@[simp]theorem jk3(b:Nat)(f:FuncId)(cs:List C)(st:St)(c:C):st.storeU b 0 (.clo f cs) (.box [c])=some (st.blk b (.fbox f cs)):=rfl
@[simp]theorem jk6(f:FuncId)(cs:List C):U.cells (.clo f cs)=[.bad]:=rfl
@[simp]theorem jk1(x:Value):D.flat (.lit x)=true:=rfl
@[simp]theorem jlf:D.flat .any=true:=rfl
@[simp]theorem YS_eq:YS=1000000:=rfl
attribute [simp ↓] Yt jgR CR
attribute [simp ↓] V0 Zk jkk jcp jgU Yi jeA jeh jaU jha jft jcC jeO Xq
attribute [simp] jiU ZT jhG jkM
 jjU ji9 jj0 je6 ji7 YI Y5 jb1 jiN jfb jaK jb7 jgV ja8 XB jaC jgY VB WA jaX Um Wv jcr Wp Y0 FO ZG jfY
 jjx jkf ZS ifaceOf.eq_1 assertOf.eq_1 C.pure?.eq_1 C.pure?.eq_2 convC.eq_1 jcF YF jgs W9 jbe jku Yg jfT XO jhf jg0 HO Hh G7 KL GN Va.found C.str? Xs jcZ jiI Yu
 St.init CJ A.toV St.ev St.put jdS jdx jcj jka St.new St.purge Bm St.on St.blk C0 cVal.eq_1 vC V.on U.on C.on.eq_1 C.on.eq_2 Blk.on St.evC St.evI St.evB St.evU St.evUs St.evO lenC.eq_1 lenC.eq_2 lenC.eq_3 lenS.eq_1 Ce jao jkG Mg M0
 jhH YG YE jjY jct jho jg4 Wu jbI PP Rm vI vB cCell.eq_1 cCell.eq_2 cCell.eq_3 cCell.eq_4 cCell.eq_5 cCell.eq_6 binV.eq_1 binV.eq_2 binV.eq_4 binI.eq_1 binI.eq_2 binI.eq_3 binI.eq_4 binI.eq_5 binI.eq_6 binI.eq_7 binI.eq_8 binI.eq_9 binI.eq_10 binI.eq_11 binI.eq_12 binI.eq_13 binI.eq_14 binI.eq_15 DJ Dz HW sliceV.eq_1 sliceV.eq_2 sliceV.eq_3 sliceS.eq_1 Gb St.load.eq_1 St.load.eq_2 St.store.eq_1 St.storeB build Blk.rd Blk.at DE mk Qy Kk F3 rep GH FG FC nilChk.eq_1 nilChk.eq_2 nilChk.eq_3 fldAddr.eq_1 fldAddr.eq_2 isRow idxSl.eq_1 idxSl.eq_2 idxArr.eq_1 idxArr.eq_2 idxAddr part fieldOf.eq_1 indexOf.eq_1 indexOf.eq_2 tupAt.eq_1 LY pickV G3 copyTo.eq_1 CP St.appGo
 U.cells.eq_1 U.cells.eq_2 St.le AW AP St.num St.shut St.cD toD DZ C.id?.eq_1 C.id?.eq_2 St.app.eq_1 St.app.eq_2 St.src.eq_1 St.src.eq_2 St.src.eq_3 KV Oz Yk jbQ jeF jfi clo St.drop U.all St.argsW U.toA St.reachU Du Ds St.freezeK St.freeze St.sealW HU fitV.eq_1 fitV.eq_2 fitU.eq_1 fitU.eq_2 fitC.eq_1 fitC.eq_2 fitC.eq_3 fitL.eq_1 fitL.eq_2 St.resU R.rows RU.rows RC.rows St.back R.flat RU.flat RC.flat D.flat.eq_1 D.flat.eq_2 D.flat.eq_3 R.imp RU.imp RC.imp
 IntKind.signed IntKind.bits shiftI.eq_1 shiftI.eq_2 JM Ey EJ GC DL FK
section
variable {P:Program} {T:AH} {st:St} {k:Eff→Prop} {ops:List Oper} {d:Option Nat} {n:Nat} {ty:TypeId} {pos:String} {af:Array Edge} {g:Option (Nat×Bool)} {x y:Operand} {t:TypeId}
theorem jeZ(op:Op):CN P T ops ⟨d,op,ty,pos,af,none⟩ st k=Bo P T ⟨d,op,ty,pos,af,none⟩ st k:=rfl
def PL(P:Program)(T:AH)(dj:Option Nat)(want:Bool)(o:Oper)(st:St)(k:Eff→Prop):Prop:=
 match dj with
 |some d=>CS want (lk d st.t) (Bo P T o st k) (k (.val (.tup [])))
 |none=>False
theorem jb9(op:Op)(j:Nat)(want:Bool):CN P T ops ⟨d,op,ty,pos,af,some (j,want)⟩ st k=PL P T (Hl ops j) want ⟨d,op,ty,pos,af,some (j,want)⟩ st k:=rfl
theorem jep(dj:Nat)(op:Op)(j:Nat)(want:Bool):PL P T (some dj) want ⟨d,op,ty,pos,af,some (j,want)⟩ st k=CS want (lk dj st.t) (Bo P T ⟨d,op,ty,pos,af,some (j,want)⟩ st k) (k (.val (.tup []))):=rfl
theorem jdY(want b:Bool)(k1 k2:Prop):CS want (some (.u (.c (.d (.bool b))))) k1 k2=((b=want→k1)∧(b= !want→k2)):=rfl
theorem WJ(want:Bool)(k1 k2:Prop):CS want (some (.tup [])) k1 k2=k2:=rfl
@[simp high]theorem gateE_ft(k1 k2:Prop):CS false (some (.u (.c (.d (.bool true))))) k1 k2=k2:=by simp[CS]
@[simp high]theorem gateE_ff(k1 k2:Prop):CS false (some (.u (.c (.d (.bool false))))) k1 k2=k1:=by simp[CS]
theorem jiv(rest:List Oper)(S:St)(fin:List Oper→St→Prop):BH P T ops [] rest S fin=fin rest S:=rfl
section
variable (rd nh bad ks:List Nat) (is:List DI) (o:Oper) (r:List Oper) (S:St) (fin:List Oper→St→Prop)
theorem jfy:BH P T ops (⟨0,rd,nh,bad,ks⟩::is) (o::r) S fin=CN P T ops o (seen ⟨0,rd,nh,bad,ks⟩ S) (Cu ⟨0,rd,nh,bad,ks⟩ o.dst S fun S'=>BH P T ops is r S' fin):=(by rfl)
theorem V4:BH P T ops (⟨1,rd,nh,bad,ks⟩::is) (o::r) S fin=CN P T ops o (seen ⟨1,rd,nh,bad,ks⟩ S) (Cu ⟨1,rd,nh,bad,ks⟩ o.dst S fun S'=>BH P T ops is r S' fin):=(by rfl)
theorem jg3:BH P T ops (⟨2,rd,nh,bad,ks⟩::is) (o::r) S fin=CN P T ops o (seen ⟨2,rd,nh,bad,ks⟩ S) (Cu ⟨2,rd,nh,bad,ks⟩ o.dst S fun S'=>BH P T ops is r S' fin):=(by rfl)
theorem jd9:BH P T ops (⟨3,rd,nh,bad,ks⟩::is) (o::r) S fin=CN P T ops o (seen ⟨3,rd,nh,bad,ks⟩ S) (Cu ⟨3,rd,nh,bad,ks⟩ o.dst S fun S'=>BH P T ops is r S' fin):=(by rfl)
theorem jiP:BH P T ops (⟨5,rd,nh,bad,ks⟩::is) (o::r) S fin=Fb P o (seen ⟨5,rd,nh,bad,ks⟩ S) (Cu ⟨5,rd,nh,bad,ks⟩ o.dst S fun S'=>BH P T ops is r S' fin):=(by rfl)
theorem V1:BH P T ops (⟨4,rd,nh,bad,ks⟩::is) (o::r) S fin=Dx T ops o (seen ⟨4,rd,nh,bad,ks⟩ S) (Cu ⟨4,rd,nh,bad,ks⟩ o.dst S fun S'=>BH P T ops is r S' fin):=if_pos rfl
end
theorem Ym(len:Nat)(parts:List (Nat×Operand)):Dx T ops ⟨some n,.buildSlice t len parts.toArray,ty,pos,af,none⟩ st k=
  AI ((T t).bind fun i=>i.sl.bind fun e=>(T e).bind fun j=>(st.evUs parts).bind fun l=>
  if len*j.size≤10000∧len≤10000 then (DE (F3 j.size) (rep len j.zero) l).bind fun cs=>
   if j.size=1∧cs.any EU=true then none else
   if GD cs then (cs.mapM (toD (fun _=>false) st.h 4)).bind fun ds=>if ds.length=len*j.size then some (.dat (.slice len ds)) else none else none
  else none) k:=rfl
def R4(T:AH)(dj:Option Nat)(want:Bool)(o:Oper)(st:St)(k:Eff→Prop):Prop:=
 match dj with
 |some d=>CS want (lk d st.t) (AI (GG T o st) k) (k (.val (.tup [])))
 |none=>False
theorem XJ(op:Op)(j:Nat)(want:Bool):Dx T ops ⟨d,op,ty,pos,af,some (j,want)⟩ st k=R4 T (Hl ops j) want ⟨d,op,ty,pos,af,some (j,want)⟩ st k:=rfl
theorem jgO(dj:Nat)(op:Op)(j:Nat)(want:Bool):R4 T (some dj) want ⟨d,op,ty,pos,af,some (j,want)⟩ st k=CS want (lk dj st.t) (Dx T [] ⟨d,op,ty,pos,af,none⟩ st k) (k (.val (.tup []))):=rfl
theorem ja5(kk:Nat)(rd nh bad ks:List Nat)(d:Option Nat)(S:St)(K:St→Prop)(x:D):Cu ⟨kk,rd,nh,bad,ks⟩ d S K (.dat x)=((kk==4||kk==6)=true∧K (S.put d (vC (.d x)))):=rfl
theorem WP(k:Nat)(rd nh bad ks:List Nat)(d:Option Nat)(S:St)(K:St→Prop)(v:V):Cu ⟨k,rd,nh,bad,ks⟩ d S K (.val v)=(B7 bad v=true∧K (S.put d v)):=rfl
theorem jhC(k:Nat)(rd nh bad ks:List Nat)(d:Nat)(S:St)(K:St→Prop)(b:Blk)(v:V):Cu ⟨k,rd,nh,bad,ks⟩ (some d) S K (.new b v)=(((k==1||k==3||k==5)&&(B7 bad v&&DS (d::bad) b))=true∧K ((S.blk d b).put (some d) v)):=rfl
theorem jhe(k:Nat)(rd nh bad ks:List Nat)(d:Option Nat)(S:St)(K:St→Prop)(i:Nat)(b:Blk):Cu ⟨k,rd,nh,bad,ks⟩ d S K (.put i b)=((k==2&&(ks.contains i&&DS bad b))=true∧K ((S.blk i b).put d (.tup []))):=rfl
theorem jas(k:Nat)(rd nh bad ks:List Nat)(d:Nat)(S:St)(K:St→Prop)(i:Nat)(b:Blk)(v:V):Cu ⟨k,rd,nh,bad,ks⟩ (some d) S K (.app i b v)=(((k==3||k==5)&&(ks.contains i&&(B7 bad v&&DS (d::bad) b)))=true∧K (((S.drop i).blk d b).put (some d) v)):=rfl
theorem jjT(rest:List Oper)(K:St→Prop)(st:St):DY P T ops [] rest K st=K st:=rfl
theorem jik(r:List Seg)(o:Oper)(rest:List Oper)(K:St→Prop)(st:St):DY P T ops (.one::r) (o::rest) K st=Ca P T ops o st (DY P T ops r rest K):=rfl
theorem ja2(ids ds:List Nat)(is:List DI)(r:List Seg)(rest:List Oper)(K:St→Prop)(st:St):
  DY P T ops (.any ids ds is::r) rest K st=BH P T ops is rest (purges ds (st.freeze ids)) fun rest' s=>DY P T ops r rest' K s:=rfl
theorem jjQ(s:St):purges [] s=s:=rfl
theorem WF(i:Nat)(l:List Nat)(s:St):purges (i::l) s=purges l (s.purge i):=rfl
theorem V6(v:V):B7 [] v=true:=rfl
theorem jkF(l:List Nat)(x:D):B7 l (.u (.c (.d x)))=true:=jzy.2 fun _ _=>rfl
theorem jgF(l:List Nat):B7 l (.u (.c .nl))=true:=jzy.2 fun _ _=>rfl
theorem jiq(l:List Nat)(i o:Nat):B7 l (.u (.c (.ptr i o)))=l.all fun d=>i !=d:=by
 rfl
theorem jce(l:List Nat)(i o n:Nat):B7 l (.u (.c (.sl i o n)))=l.all fun d=>i !=d:=by
 rfl
theorem jfU(l:List Nat)(cs:List C):B7 l (.u (.agg cs))=l.all fun d=> !cs.any (C.men d):=rfl
theorem jhY(l:List Nat)(f:FuncId)(cs:List C):B7 l (.u (.clo f cs))=l.all fun d=> !cs.any (C.men d):=rfl
theorem WV(l:List Nat)(us:List U):B7 l (.tup us)=l.all fun d=> !us.any (U.men d):=rfl
theorem U6(l:List Nat)(sz:Nat)(cs:List D)(a:Bool):DS l (.row sz cs a)=true:=jzy.2 fun _ _=>rfl
theorem YW(l:List Nat)(cs:List C):DS l (.box cs)=l.all fun d=> !cs.any (C.men d):=rfl
theorem jh5(l:List Nat)(f:FuncId)(cs:List C):DS l (.fbox f cs)=l.all fun d=> !cs.any (C.men d):=rfl
theorem jaZ(l:List Nat)(x:Value)(ys:List (List A)):B7 l (.tr x ys)=true:=jzy.2 fun _ _=>rfl
theorem jbz(d:Nat)(x:D):C.men d (.d x)=false:=rfl
theorem jbH(d:Nat):C.men d .nl=false:=rfl
theorem VG(d:Nat):C.men d .bad=false:=rfl
theorem Xr(d i o n:Nat):C.men d (.sl i o n)=(i==d):=rfl
theorem jiE(d:Nat)(q:Bool)(i:Nat):C.men d (.mp q i)=(i==d):=rfl
theorem jdO(l:List Nat)(x:Ob):DS l (.mp x)=true:=jzy.2 fun _ _=>rfl
theorem Z4(l:List Nat)(q:Bool)(i:Nat):B7 l (.u (.c (.mp q i)))=l.all fun d=>i !=d:=by
 rfl
theorem jeP(d i o:Nat):C.men d (.ptr i o)=(i==d):=rfl
theorem jjF(d:Nat)(c:C):U.men d (.c c)=C.men d c:=rfl
theorem jdQ(d:Nat)(cs:List C):U.men d (.agg cs)=cs.any (C.men d):=rfl
def selT(rd:List Nat):List (Nat×V)→List (Nat×V)
 |[]=>[]
 |(k,v)::r=>cond (rd.contains k) ((k,v)::selT rd r) (selT rd r)
theorem R1(rd:List Nat): ∀l,selT rd l=l.filter fun e=>rd.contains e.1
 |[]=>rfl
 |(k,v)::r=>by
  rw[List.filter_cons,selT,R1 rd r]
  simp
def Gh:List Nat→Nat→Bool
 |[],_=>false
 |a::r,k=>cond (k==a) true (Gh r k)
theorem Lo: ∀(l:List Nat) (k:Nat),l.contains k=Gh l k
 |[],_=>rfl
 |a::r,k=>by
  rw[List.contains_cons,Gh,Lo r k]
  rfl
theorem jbd(k:Nat)(rd nh bad ks:List Nat)(S:St):seen ⟨k,rd,nh,bad,ks⟩ S=⟨selT rd S.t,Ia nh S.h⟩:=by
 unfold seen;rw[R1]
theorem Yp(rd:List Nat)(k:Nat)(v:V)(r:List (Nat×V)):selT rd ((k,v)::r)=cond (Gh rd k) ((k,v)::selT rd r) (selT rd r):=by
 rw[selT,Lo]
theorem jbM(h:List (Nat×Blk)):Ia [] h=h:=rfl
theorem U9(a:Nat)(r:List Nat)(h:List (Nat×Blk)):Ia (a::r) h=h.filter fun e=> !Gh (a::r) e.1:=by
 have:(fun e:Nat×Blk=> !Gh (a::r) e.1)=fun e=> !(a::r).contains e.1:=by funext e;rw[Lo]
 rw[this]
 rfl
theorem jdW:Bo P T ⟨d,.move x,ty,pos,af,g⟩ st k=AI ((st.ev x).map .val) k:=rfl
theorem jdl:Bo P T ⟨d,.assign (.const (.slice none 0 0)),ty,pos,af,g⟩ st k=AI (d.bind fun d=>(T ty).bind fun i=>i.sl.bind fun e=>(T e).map fun j=> .new (.row j.size [] true) (vC (.sl d 0 0))) k:=rfl
theorem Wh(i:Nat):Bo P T ⟨d,.assign (.tmp i),ty,pos,af,g⟩ st k=AI ((lk i st.t).map .val) k:=rfl
theorem jhn(kd:IntKind)(n:Int):Bo P T ⟨d,.assign (.const (.int kd n)),ty,pos,af,g⟩ st k=k (.val (vI kd n)):=CR _ _
theorem jje(b:Bool):Bo P T ⟨d,.assign (.const (.bool b)),ty,pos,af,g⟩ st k=k (.val (vB b)):=CR _ _
theorem jij(cs:Array Value):Bo P T ⟨d,.assign (.const (.agg cs)),ty,pos,af,g⟩ st k=AI ((cVal (.agg cs)).map .val) k:=rfl
theorem jd1:Bo P T ⟨d,.load t x,ty,pos,af,g⟩ st k=AI ((T t).bind fun i=>(st.evC x).bind fun c=>(st.load i c).map fun u=> .val (.u u)) k:=rfl
theorem ZF:Bo P T ⟨d,.nilCheck x,ty,pos,af,g⟩ st k=AI ((st.evC x).bind fun c=>(nilChk c).map fun c=> .val (vC c)) k:=rfl
theorem Wq(op:BinOp)(t':TypeId):Bo P T ⟨d,.binOp op t x y t',ty,pos,af,g⟩ st k=AI ((st.ev x).bind fun a=>(st.ev y).bind fun b=>(binV T op t a b).map .val) k:=rfl
theorem jhh(f:Nat):Bo P T ⟨d,.fieldAddr t x f,ty,pos,af,g⟩ st k=AI ((T t).bind fun i=>(st.evC x).bind fun c=>(i.flds[f]?).bind fun p=>(T p.2).bind fun j=>if j.size=0 then none else (fldAddr p.1 c).map fun c=> .val (vC c)) k:=rfl
theorem ji0(i:Operand):Bo P T ⟨d,.indexAddr t x i,ty,pos,af,g⟩ st k=AI ((T t).bind fun ti=>(st.evC x).bind fun c=>(st.evI i).bind fun n=>(idxAddr T st.h ti n.2 c).map fun c=> .val (vC c)) k:=rfl
theorem Zx(i:Nat):Bo P T ⟨d,.extract x i,ty,pos,af,g⟩ st k=AI ((st.ev x).bind fun v=>(tupAt i v).map fun u=> .val (.u u)) k:=rfl
theorem ZU:Bo P T ⟨d,.store t x y,ty,pos,af,g⟩ st k=AI ((T t).bind fun i=>(st.evC x).bind fun c=>(st.evU y).bind fun u=>effStore i c u st) k:=rfl
theorem VK(f:Operand)(args:List Operand)(ts:Array TypeId):Bo P T ⟨d,.call ⟨.value f,args.toArray,ts⟩,ty,pos,af,g⟩ st k=AI (st.evU f) (Gl P d args st k):=rfl
theorem jjj(b:Builtin)(args:List Operand)(ts:List TypeId):Bo P T ⟨d,.call ⟨.builtin b,args.toArray,ts.toArray⟩,ty,pos,af,g⟩ st k=AI (effBuiltin T b ts args d st) k:=rfl
theorem VR(a b c:Operand):Bo P T ⟨d,.pick c a b,ty,pos,af,g⟩ st k=AI ((st.evB c).bind fun c=>(pickV c (st.ev a) (st.ev b)).map .val) k:=rfl
theorem jfR:Bo P T ⟨d,.alloc t,ty,pos,af,g⟩ st k=AI ((T t).bind fun i=>d.map fun d=> .new (.box i.zero) (vC (.ptr d 0))) k:=rfl
theorem jiX:Bo P T ⟨d,.box t x,ty,pos,af,g⟩ st k=AI ((T t).bind fun i=>(st.evU x).bind fun u=>if u.cells.length=i.size then d.map fun d=> .new (Fq u) (vC (.ptr d 0)) else none) k:=rfl
theorem jjW(parts:List (Nat×Operand)):Bo P T ⟨d,.build t parts.toArray,ty,pos,af,g⟩ st k=AI ((T t).bind fun i=>(st.evUs parts).bind fun l=>(build T i l).map fun u=> .val (.u u)) k:=rfl
theorem jcX(len:Nat)(parts:List (Nat×Operand)):Bo P T ⟨d,.buildSlice t len parts.toArray,ty,pos,af,g⟩ st k=
  AI ((T t).bind fun i=>i.sl.bind fun e=>(T e).bind fun j=>(st.evUs parts).bind fun l=>d.bind fun d=>effBsl d j len st.h l) k:=rfl
theorem jaq:Bo P T ⟨d,.makeSlice t x y,ty,pos,af,g⟩ st k=AI ((T t).bind fun i=>i.sl.bind fun e=>(T e).bind fun j=>(st.evI x).bind fun l=>(st.evI y).bind fun c=>d.bind fun d=>IX d j l.2 c.2) k:=rfl
theorem We(lo hi:Option Operand):Bo P T ⟨d,.slice t x lo hi none,ty,pos,af,g⟩ st k=
  AI ((T t).bind fun i=>(st.evC x).bind fun c=>(st.evO lo).bind fun l=>(st.evO hi).bind fun h=>
   (match i.sl with|some e=>(T e).bind fun j=>sliceV st.h c l h j.size|none=>if Ce i then sliceS c l h else none).map fun v=> .val (vC v)) k:=rfl
theorem jkl(f:FuncId)(caps:List Operand):Bo P T ⟨d,.makeFunc (.func f) #[] caps.toArray,ty,pos,af,g⟩ st k=AI ((caps.mapM st.evC).map fun cs=> .val (.u (clo [] f cs))) k:=rfl
theorem WD:Bo P T ⟨d,.unOp .not t x,ty,pos,af,g⟩ st k=AI ((st.evB x).map fun b=> .val (vB !b)) k:=rfl
theorem WU:Bo P T ⟨d,.unOp .neg t x,ty,pos,af,g⟩ st k=AI ((st.evI x).bind fun p=>(DJ p.1 (0 - p.2)).map .val) k:=rfl
theorem XF(s:TypeId):Bo P T ⟨d,.convert s t x,ty,pos,af,g⟩ st k=AI ((T s).bind fun j=>(T t).bind fun i=>(st.evC x).bind fun c=>(convC T st.h j i c).map .val) k:=rfl
theorem Zm(f:Nat):Bo P T ⟨d,.field t x f,ty,pos,af,g⟩ st k=AI ((T t).bind fun i=>(st.evU x).bind fun u=>(fieldOf T i f u).map fun u=> .val (.u u)) k:=rfl
theorem jiA(i:Operand):Bo P T ⟨d,.index t x i,ty,pos,af,g⟩ st k=AI ((T t).bind fun ti=>(st.evU x).bind fun u=>(st.evI i).bind fun n=>(indexOf T ti n.2 u).map fun u=> .val (.u u)) k:=rfl
theorem jc7(f:Operand)(args:List Operand)(ts:Array TypeId):Fb P ⟨d,.call ⟨.value f,args.toArray,ts⟩,ty,pos,af,none⟩ st k=AI (st.evU f) (Qm P d args st k):=rfl
theorem Za(args:List Operand)(h:FuncId):Qm P d args st k (.c (.d (.fn h [])))=AI (args.mapM st.evU) (Sg P d st k h):=rfl
theorem YX(args:List Operand)(h:FuncId)(caps:List D):Gl P d args st k (.c (.d (.fn h caps)))=AI (args.mapM st.evU) (GZ P d st k h caps):=rfl
theorem jfO(args:List Operand)(h:FuncId)(cs:List C):Gl P d args st k (.clo h cs)=AI (args.mapM st.evU) (NP P d st k h cs):=rfl
theorem VE(h:FuncId)(cs:List C)(us:List U):NP P d st k h cs us=GZ P d st k h [] (us++cs.map .c):=rfl
theorem Ya(h:FuncId)(caps:List D)(us:List U):GZ P d st k h caps us=AI (st.argsW (st.reachU us) us caps) (fun as=>G9 P h as (MO d us k)):=rfl
theorem ZK(us:List U)(res:R):MO d us k res=((res.flat=true∨FY us=true)∧k (Ec d res)):=rfl
end
attribute [simp ↓] jeZ jb9 jep jiv jfy V4 jg3 jd9 V1 jiP jjT jik ja2
attribute [simp] jdY WJ WP ja5 Ym XJ jgO jhC jhe jas jjQ WF V6 jkF jgF jiq jce jfU jhY WV U6 YW jh5 jdO Z4 jiE jaZ jbz jbH VG Xr jeP jjF jdQ
 jbd selT.eq_1 Yp Gh jbM U9 jdW jdl Wh jhn jje jij jd1 ZF Wq jhh ji0 Zx ZU VK jjj VR jfR jiX jjW jcX jaq We jkl WD WU XF Zm jiA
 jc7 Za YX jfO VE Ya ZK Ec FY GD effStore effBsl HG effApp.eq_1 effApp.eq_2 IX effBuiltin
end Go.Va
