/- a part of the proof -/
import Derived.Test.YtlgoebgnbkhmmaaGreatDoorZai
set_option linter.all false
namespace Go.Va
open Go.RowKit
section
variable {P:Program} {T:AH}
def MO(d:Option Nat)(us:List U)(k:Eff→Prop)(res:R):Prop:=(res.flat=true∨FY us=true)∧k (Ec d res)
def GZ(P:Program)(d:Option Nat)(E:St)(k:Eff→Prop)(g:FuncId)(caps:List D)(us:List U):Prop:=
 AI (E.argsW (E.reachU us) us caps) fun as=>G9 P g as (MO d us k)
def NP(P:Program)(d:Option Nat)(E:St)(k:Eff→Prop)(g:FuncId)(cs:List C)(us:List U):Prop:=GZ P d E k g [] (us++cs.map .c)
def Gl(P:Program)(d:Option Nat)(args:List Operand)(E:St)(k:Eff→Prop)(u:U):Prop:=
 match u with
 | .c (.d (.fn g caps))=>AI (args.mapM E.evU) (GZ P d E k g caps)
 | .clo g cs=>AI (args.mapM E.evU) (NP P d E k g cs)
 |_=>False
def Bo(P:Program)(T:AH)(o:Oper)(E:St)(k:Eff→Prop):Prop:=
 match o.op with
 | .call { callee:= .value f,args,.. }=>AI (E.evU f) (Gl P o.dst args.toList E k)
 |_=>AI (effOp T o E) k
def CS(want:Bool)(v:Option V)(k1:Prop)(k2:Prop):Prop:=
 match v with
 |some (.u (.c (.d (.bool b))))=>(b=want→k1)∧(b= !want→k2)
 |some (.tup [])=>k2
 |_=>False
def CN(P:Program)(T:AH)(ops:List Oper)(o:Oper)(E:St)(k:Eff→Prop):Prop:=
 match o.guard with
 |none=>Bo P T o E k
 |some (j,want)=>
  match (ops[j]?).bind (·.dst)with
  |some d=>CS want (lk d E.t) (Bo P T o E k) (k (.val (.tup [])))
  |none=>False
theorem Sc{o:Oper}{E:St}{k:Eff→Prop}(h:Bo P T o E k): ∃x,EH P T o E x∧k x:=by
 unfold Bo at h;split at h
 ·rename_i f args ts ho
  obtain⟨c,hc,h⟩:=h
  unfold Gl at h;split at h
  ·rename_i g caps
   obtain⟨us,hus,as,has,res,hcall,hid,hk⟩:=h
   grind[jec]
  ·rename_i g cs
   obtain⟨us,hus,as,has,res,hcall,hid,hk⟩:=h
   grind[jee]
  ·exact h.elim
 ·obtain⟨x,hx,hk⟩:=h
  grind[jaV]
def jkh(P:Program)(dst:Option Nat)(E:St)(k:Eff→Prop)(g:FuncId)(us:List U):Prop:=
 ∃(b n sz m d:Nat) (cs cs':List D) (us':List U) (as:List A),us= .c (.sl b 0 n)::us'∧lk b E.h=some (.row sz cs true)∧us'.mapM (U.toA [] E.h)=some as∧dst=some d∧CallsA P g sz n cs as m cs'∧k (.app b (.row sz cs' true) (vC (.sl d 0 m)))
def jaO(P:Program)(dst:Option Nat)(E:St)(k:Eff→Prop)(g:FuncId)(us:List U):Prop:=
 ∃(sz m d:Nat) (cs':List D) (us':List U) (as:List A),us= .c .nl::us'∧us'.mapM (U.toA [] E.h)=some as∧dst=some d∧CallsA P g sz 0 [] as m cs'∧k (.new (.row sz cs' true) (vC (.sl d 0 m)))
def Sg(P:Program)(dst:Option Nat)(E:St)(k:Eff→Prop)(g:FuncId)(us:List U):Prop:=jkh P dst E k g us∨jaO P dst E k g us
def Qm(P:Program)(dst:Option Nat)(args:List Operand)(E:St)(k:Eff→Prop)(u:U):Prop:=
 match u with
 | .c (.d (.fn g []))=>AI (args.mapM E.evU) (Sg P dst E k g)
 |_=>False
theorem jba{s:St}{d sz:Nat}(h:s.fs.Clean d):((s.new d (.row sz [] true)).drop d).fs=s.fs:=by
 rw[JQ]
 unfold St.new;rw[F4,NK h];refine FS.ext' (fun t=>rfl) fun j=> ?_
 simp only;by_cases e:j=d
 ·subst e;rw[if_pos rfl];cases hl:lk j s.h with
  |none=>exact hl.symm
  |some b=>exact absurd rfl (h.h j b hl).1
 grind
def Fb(P:Program)(o:Oper)(E:St)(k:Eff→Prop):Prop:=
 match o.guard,o.op with
 |none,.call { callee:= .value f,args,.. }=>AI (E.evU f) (Qm P o.dst args.toList E k)
 |_,_=>False
theorem jhJ{ops:List Oper}{o:Oper}{E:St}{k:Eff→Prop}(h:Fb P o E k): ∃x,CL P T ops o E x∧k x:=by
 unfold Fb at h;unfold CL;split at h
 ·rename_i f args ts hg ho
  rw[hg]
  obtain⟨u,hu,h⟩:=h
  unfold Qm at h;split at h
  ·rename_i g
   obtain⟨us,hus,⟨b,n,sz,m,d,cs,cs',us',as,rfl,hlk,has,hd,hc,hk⟩|⟨sz,m,d,cs',us',as,rfl,has,hd,hc,hk⟩⟩:=h
   rotate_left
   ·refine⟨_,fun s hs hfree K hK=> ?_,hk⟩
    unfold wpOp;rw[ho]
    dsimp only
    refine⟨_,Sub.evU hs f _ hu,?_⟩
    show Eh P o.dst args.toList s (Frz K) (.c (.d (.fn g [])))
    rw[KV]
    refine⟨_,Mo.mapM (Sub.evU hs) _ _ hus,?_⟩
    refine .inr (.inr (.inr (.inr (.inl (.inr (.inr (.inl ⟨rfl,sz,m,d,cs',us',as,rfl,Mo.mapM (Ly hs fun _ h=>h) us' _ has,hd,hc,Frz.of (hK _ ?_)⟩)))))))
    rw[hd]at hfree ⊢
    have e2:=jba (s:=s) (d:=d) (sz:=sz) hfree.1;have:=HT (s:=(s.new d (.row sz [] true)).drop d) (d:=some d) (x:= .new (.row sz cs' true) (vC (.sl d 0 m))) (e2.symm ▸ hfree);rw[e2]at this;exact this
   refine⟨_,fun s hs hfree K hK=> ?_,hk⟩
   unfold wpOp;rw[ho]
   dsimp only
   refine⟨_,Sub.evU hs f _ hu,?_⟩
   show Eh P o.dst args.toList s (Frz K) (.c (.d (.fn g [])))
   rw[KV]
   refine⟨_,Mo.mapM (Sub.evU hs) _ _ hus,?_⟩
   refine .inr (.inr (.inr (.inr (.inr ⟨rfl,b,n,sz,m,d,cs,cs',us',as,rfl,hs.h _ _ hlk,Mo.mapM (Ly hs fun _ h=>h) us' _ has,hd,hc,Frz.of (hK _ ?_)⟩))))
   have:=HT (s:=s) hfree
   rw[hd]at this ⊢
   exact this
  ·exact h.elim
 ·exact h.elim
def Dx(T:AH)(ops:List Oper)(o:Oper)(E:St)(k:Eff→Prop):Prop:=
 match o.guard with
 |none=>AI (GG T o E) k
 |some (j,want)=>
  match (ops[j]?).bind (·.dst)with
  |some d=>CS want (lk d E.t) (AI (GG T o E) k) (k (.val (.tup [])))
  |none=>False
theorem jdR{ops:List Oper}{o:Oper}{E:St}{k:Eff→Prop}(h:Dx T ops o E k): ∃x,CL P T ops o E x∧k x:=by
 unfold Dx at h;unfold CL;split at h
 ·rename_i hg
  rw[hg]
  obtain⟨x,hx,hk⟩:=h
  grind[N5]
 ·rename_i j want hg
  rw[hg]
  dsimp only
  split at h
  ·rename_i d hd
   rw[hd]
   dsimp only
   unfold CS at h;split at h
   ·rename_i b hb
    by_cases hbw:b=want
    ·obtain⟨x,hx,hk⟩:=h.1 hbw
     exact⟨x,.inl ⟨b,hb,.inl ⟨hbw,N5 hx⟩⟩,hk⟩
    ·have:b= !want:=by cases b<;>cases want<;>simp_all
     exact⟨_,.inl ⟨b,hb,(by grind)⟩,h.2 this⟩
   ·grind
   ·exact h.elim
  ·exact h.elim
theorem Tn{ops:List Oper}{o:Oper}{E:St}{k:Eff→Prop}(h:CN P T ops o E k): ∃x,CL P T ops o E x∧k x:=by
 unfold CN at h;unfold CL;split at h
 ·grind[Sc]
 ·rename_i j want hg
  rw[hg]
  dsimp only
  split at h
  ·rename_i d hd
   rw[hd]
   dsimp only
   unfold CS at h;split at h
   ·rename_i b hb
    by_cases hbw:b=want
    ·obtain⟨x,hx,hk⟩:=Sc (h.1 hbw)
     exact⟨x,.inl ⟨b,hb,.inl ⟨hbw,hx⟩⟩,hk⟩
    ·have:b= !want:=by cases b<;>cases want<;>simp_all
     exact⟨_,.inl ⟨b,hb,(by grind)⟩,h.2 this⟩
   ·grind
   ·exact h.elim
  ·exact h.elim
end
def BU(pl:List (List Nat))(j i:Nat):Bool:=(pl.getD i []).contains j
def Qi(ops:List Oper)(pl:List (List Nat)):Bool:=
 ops.zipIdx.all fun(o,i)=>(pl.getD i []).all (fun j=>decide (j<i)&&(o.after.toList.any fun e=>Region.binds .any e&&(e.on==j||BU pl j e.on)))&&(o.after.toList.all fun e=> !Region.binds .any e||BU pl e.on i)
theorem jfa{ops:List Oper}{pl:List (List Nat)}(h:Qi ops pl=true):Edges ops (BU pl):=by
 have hi: ∀i o,ops[i]? =some o→(o,i)∈ops.zipIdx:=(by grind)
 refine⟨fun i o ho e he hb=> ?_,fun i o ho j hj=> ?_⟩
 ·have:=jzy.1 h _ (hi i o ho)
  grind
 ·have:=jzy.1 h _ (hi i o ho)
  rw[AR]at this
  have:=jzy.1 this.1 j (by unfold BU at hj;simpa using hj)
  rw[AR]at this
  obtain⟨e,he,h2⟩:=List.any_eq_true.1 this.2
  rw[AR,Bool.or_eq_true]at h2
  exact⟨e,by simpa using he,h2.1,by simpa using h2.2⟩
theorem T6(d d':Nat)(c:C)(h:d'=d∨c.men d'=false):(c.on (Bm d)).men d'=false:=by
 unfold C.on Bm;split
 ·rename_i i o n
  by_cases hi:i=d
  ·rw[if_pos hi];rfl
  ·rw[if_neg hi]
   rcases h with rfl|h
   ·simp[C.men,C.id?,hi]
   ·exact h
 ·rename_i i o
  by_cases hi:i=d
  ·rw[if_pos hi];rfl
  ·rw[if_neg hi]
   rcases h with rfl|h
   ·simp[C.men,C.id?,hi]
   ·exact h
 ·rename_i q i
  by_cases hi:i=d
  ·rw[if_pos hi];rfl
  ·rw[if_neg hi]
   rcases h with rfl|h
   ·simp[C.men,C.id?,hi]
   ·exact h
 ·rename_i h1 h2 h3
  unfold C.men;have:c.id? =none:=by
   cases c<;>first|rfl|grind|grind|grind
  rw[this];rfl
theorem IV(d d':Nat)(cs:List C)(h:d'=d∨cs.any (C.men d')=false):(cs.map (C.on (Bm d))).any (C.men d')=false:=by
 rw[List.any_eq_false]
 intro c hc;obtain⟨c',hc',rfl⟩:=jzk.1 hc
 grind[T6,id]
theorem Ov(d d':Nat)(u:U)(h:d'=d∨u.men d'=false):(u.on (Bm d)).men d'=false:=by
 cases u with
 |c x=>exact T6 d d' x h
 |agg cs=>exact IV d d' cs h
 |clo f cs=>exact IV d d' cs h
theorem jfI(d d':Nat)(v:V)(h:d'=d∨v.men d'=false):(v.on (Bm d)).men d'=false:=by
 cases v with
 |u x=>exact Ov d d' x h
 |tup us=>
  show(us.map (U.on (Bm d))).any (U.men d')=false
  rw[List.any_eq_false]
  intro c hc;obtain⟨c',hc',rfl⟩:=jzk.1 hc;have:=Ov d d' c' (h.imp id fun h=>by have:=List.any_eq_false.1 h c' hc';simpa using this)
  simp[this]
 |tr x ys=>rfl
theorem jia(d d':Nat)(b:Blk)(h:d'=d∨b.men d'=false):(b.on (Bm d)).men d'=false:=by
 cases b with
 |row sz cs app=>rfl
 |box cs=>exact IV d d' cs h
 |fbox f cs=>exact IV d d' cs h
 |mp x=>rfl
 |gh cs=>exact IV d d' cs h
theorem Sw{s:St}{d d':Nat}(h:d'=d∨s.fs.Clean d'):(s.purge d).fs.Clean d':=by
 refine⟨fun t v hv=> ?_,fun k b hb=> ?_⟩
 ·change lk t (s.on (Bm d)).t=some v at hv
  simp only[St.on,BN]at hv;obtain⟨v',hv',rfl⟩:=jze.1 hv;exact jfI d d' v' (h.imp id fun h=>h.t t v' hv')
 ·change lk k (rm d (s.on (Bm d)).h)=some b at hb
  simp only[St.on,HK,BN]at hb;split at hb
  ·cases hb
  ·rename_i hk
   obtain⟨b',hb',rfl⟩:=jze.1 hb
   refine⟨?_,jia d d' b' (h.imp id fun h=>(h.h k b' hb').2)⟩
   rcases h with rfl|h
   ·exact hk
   ·exact(h.h k b' hb').1
theorem SH(d:Nat): ∀(l:List Nat) (s:St),d∈l∨s.fs.Clean d→(purges l s).fs.Clean d
 |[],s,h=>h.resolve_left (by simp)
 |i::l,s,h=>SH d l (s.purge i) (by
   rcases h with h|h
   ·rcases jzn.1 h with rfl|h
    ·exact .inr (Sw (.inl rfl))
    ·exact .inl h
   grind[Sw])
structure Step.Clean (s:Step) (d:Nat):Prop where
 v:s.x.v.men d=false
 b: ∀k b,s.x.b s.d k=some (some b)→k≠d∧b.men d=false
theorem jjd{F:FS}{d:Nat}(h:F.Clean d){s:Step}(hs:s.Clean d):(F.upd s).Clean d:=by
 refine⟨fun t v hv=> ?_,fun k b hb=> ?_⟩
 ·simp only[FS.upd]at hv;split at hv
  ·cases hv;exact hs.v
  ·exact h.t t v hv
 ·simp only[FS.upd]at hb;cases hx:s.x.b s.d k with
  |none=>rw[hx]at hb;exact h.h k b hb
  |some r=>
   rw[hx]at hb
   simp only[Option.getD_some]at hb;subst hb;exact hs.b k b hx
theorem Pk{d:Nat}: ∀(l:List Step) (F:FS),F.Clean d→(∀s∈l,s.Clean d)→(F.run l).Clean d
 |[],_,h,_=>h
 |s::l,F,h,hl=>Pk l (F.upd s) (by grind[jjd]) (by grind)
structure DI where
 k:Nat
 rd:List Nat
 nh:List Nat
 bad:List Nat
 ks:List Nat
 deriving Inhabited
def Ia(nh:List Nat)(h:List (Nat×Blk)):List (Nat×Blk):=
 match nh with
 |[]=>h
 |a::r=>h.filter fun e=> !(a::r).contains e.1
def seen(i:DI)(S:St):St:=⟨S.t.filter fun e=>i.rd.contains e.1,Ia i.nh S.h⟩
def B7(l:List Nat)(v:V):Bool:=l.all fun d=> !v.men d
def DS(l:List Nat)(b:Blk):Bool:=l.all fun d=> !b.men d
def DF(i:DI)(d:Nat)(x:Eff):Bool:=
 match x with
 | .val v=>B7 i.bad v
 | .dat _=>i.k==4||i.k==6
 | .new b v=>(i.k==1||i.k==3||i.k==5)&&(B7 i.bad v&&DS (d::i.bad) b)
 | .put k b=>i.k==2&&(i.ks.contains k&&DS i.bad b)
 | .app k b v=>(i.k==3||i.k==5)&&(i.ks.contains k&&(B7 i.bad v&&DS (d::i.bad) b))
def L9(d:Option Nat)(x:Eff)(S:St):St:=
 match x with
 | .val v=>S.put d v
 | .new b v=>(S.blk (d.getD 0) b).put d v
 | .put k b=>(S.blk k b).put d (.tup [])
 | .app k b v=>((S.drop k).blk (d.getD 0) b).put d v
 | .dat x=>S.put d (vC (.d x))
theorem jag(d:Option Nat)(x:Eff)(S:St):(L9 d x S).fs=S.fs.upd ⟨d,x⟩:=by
 cases x with
 |val v=>exact C8 S d v
 |dat x=>exact C8 S d _
 |new b v=>
  show((S.blk (d.getD 0) b).put d v).fs=_
  rw[C8,FS.upd,F4]
  refine FS.ext' (fun t=>rfl) fun k=> ?_
  simp only[FS.upd,Eff.b,Option.getD_none];split<;>rfl
 |put i b=>
  show((S.blk i b).put d (.tup [])).fs=_
  rw[C8,FS.upd,F4]
  refine FS.ext' (fun t=>rfl) fun k=> ?_
  simp only[FS.upd,Eff.b,Option.getD_none];split<;>rfl
 |app i b v=>
  show(((S.drop i).blk (d.getD 0) b).put d v).fs=_
  rw[C8,FS.upd,F4,JQ]
  refine FS.ext' (fun t=>rfl) fun k=> ?_
  simp only[FS.upd,Eff.b,Option.getD_none]
  grind
def Cu(i:DI)(d:Option Nat)(S:St)(k:St→Prop)(x:Eff):Prop:=DF i (d.getD 0) x=true∧k (L9 d x S)
def JN(d:Option Nat)(k:Eff→Prop)(x:Eff):Prop:=
 match x with
 | .new (.row sz ds true) (.u (.c (.sl e 0 len)))=>(d=some e∧ds.length=len*sz)∧k (.dat (.slice len ds))
 | .val v=>k (.val v)
 |_=>False
def BH(P:Program)(T:AH)(ops:List Oper):List DI→List Oper→St→(List Oper→St→Prop)→Prop
 |[],rest,S,fin=>fin rest S
 |i::is,o::r,S,fin=>if i.k=4 then Dx T ops o (seen i S) (Cu i o.dst S fun S'=>BH P T ops is r S' fin) else if i.k=5 then Fb P o (seen i S) (Cu i o.dst S fun S'=>BH P T ops is r S' fin) else if i.k=6 then CN P T ops o (seen i S) (JN o.dst (Cu i o.dst S fun S'=>BH P T ops is r S' fin)) else CN P T ops o (seen i S) (Cu i o.dst S fun S'=>BH P T ops is r S' fin)
 |_::_,[],_,_=>False
inductive Seg where
 |one
 |rn (l:List (Nat×Nat))
 |all (pl:List (List Nat))
 |any (ids ds:List Nat) (is:List DI)
def E3(P:Program)(T:AH)(ops seg:List Oper)(pl:List (List Nat)):Nat→List Nat→St→(St→Prop)→Prop
 |0,_,st,K=>K st
 |n+1,L,st,K=> ∀i o,seg[i]? =some o→L.contains i=false→(pl.getD i []).all (L.contains ·)=true→Ca P T ops o st fun s=>E3 P T ops seg pl n (i::L) s K
def DY(P:Program)(T:AH)(ops:List Oper):List Seg→List Oper→(St→Prop)→St→Prop
 |[],_,K,st=>K st
 | .one::r,o::rest,K,st=>Ca P T ops o st (DY P T ops r rest K)
 | .one::_,[],_,_=>False
 | .any ids ds is::r,rest,K,st=>BH P T ops is rest (purges ds (st.freeze ids)) fun rest' s=>DY P T ops r rest' K s
 | .rn l::r,rest,K,st=>DY P T ops r rest K (rns l st)
 | .all pl::r,rest,K,st=>E3 P T ops (rest.take pl.length) pl pl.length [] st fun s=> ∃s0:St,s0.le s∧DY P T ops r (rest.drop pl.length) K s0
def LK(pl:List (List Nat))(i j:Nat):Bool:=i !=j&& !BU pl j i&& !BU pl i j
def CU(d:Option Nat)(i:DI):List Nat:=
 match i.k with
 |1=>[d.getD 0]
 |2=>i.ks
 |3=>d.getD 0::i.ks
 |5=>d.getD 0::i.ks
 |_=>[]
def FL(d:Option Nat)(i:DI):List Nat:=if i.k=1∨i.k=3∨i.k=4∨i.k=5∨i.k=6 then [d.getD 0] else []
def jau(a b:List Nat):Bool:=a.all fun x=> !b.contains x
def JP(pl:List (List Nat))(gi:Nat)(oi:Option Nat)(i:DI)(gj:Nat)(oj:Option Nat)(j:DI):Bool:=
 (!LK pl gi gj||((match oj with|some t=> !i.rd.contains t&&oi !=some t|none=>true)&&((CU oj j).all (i.nh.contains ·)&&jau (CU oj j) (CU oi i))))&&
 (gi==gj||(BU pl gj gi||(FL oj j).all fun d=>i.bad.contains d&& !(CU oi i).contains d))
def CK(ops:List Oper)(i:Nat):Option Nat:=(ops[i]?).bind (·.dst)
def QW(ops:List Oper)(pl:List (List Nat))(ds:List Nat)(lo:Nat)(is:List DI):Bool:=
 is.zipIdx.all fun(i,p)=>((FL (CK ops (lo+p)) i).all fun d=>ds.contains d&& !(i.ks.contains d))&&
  is.zipIdx.all fun(j,q)=>JP pl (lo+p) (CK ops (lo+p)) i (lo+q) (CK ops (lo+q)) j
def Kn(ops:List Oper)(pl:List (List Nat))(m:Nat):Bool:=(List.range ops.length).all fun i=>decide (i<m)||(List.range m).all fun j=>BU pl j i
def DT(ops:List Oper)(pl:List (List Nat)):Nat→List Seg→Bool
 |lo,[]=>lo==ops.length
 |lo,.one::r=>Kn ops pl (lo+1)&&DT ops pl (lo+1) r
 |lo,.rn _::r=>DT ops pl lo r
 |lo,.all q::r=>decide (lo+q.length≤ops.length)&&(Kn ops pl (lo+q.length)&&((q.zipIdx.all fun(l,p)=>l.all fun j=>BU pl (lo+j) (lo+p))&&DT ops pl (lo+q.length) r))
 |lo,.any _ ds is::r=>decide (lo+is.length≤ops.length)&&(Kn ops pl (lo+is.length)&&(QW ops pl ds lo is&&DT ops pl (lo+is.length) r))
def R7(pl:List (List Nat)):Bool:=pl.zipIdx.all fun(l,i)=>l.all fun j=>decide (j<i)
def Jy(ops:List Oper)(pl:List (List Nat))(segs:List Seg):Bool:=Qi ops pl&&(R7 pl&&DT ops pl 0 segs)
theorem Z6{pl:List (List Nat)}(h:R7 pl=true)(j i:Nat)(hp:BU pl j i=true):j<i:=by
 unfold BU at hp;cases hl:pl[i]? with
 |none=>grind
 |some l=>
  rw[AL,hl,Option.getD_some]at hp
  have:=jzy.1 h (l,i) (by grind)
  grind
theorem U2{ops:List Oper}{pl:List (List Nat)}{m:Nat}(h:Kn ops pl m=true):Cut ops.length (BU pl) m:=fun i hi hn j hj=>by
 have:=jzy.1 h i (by grind)
 grind
theorem Jl{α:Type}(p:Nat→Bool)(k:Nat): ∀(l:List (Nat×α)) (v:α),lk k (l.filter fun e=>p e.1)=some v→lk k l=some v∧p k=true
 |[],v,h=>by cases h
 |(j,u)::l,v,h=>by
  rw[List.filter_cons]at h
  by_cases hp:p j=true
  ·rw[if_pos hp,Iy]at h
   rw[Iy]
   by_cases hj:j=k
   ·grind
   ·rw[if_neg hj]at h ⊢;exact Jl p k l v h
  ·rw[if_neg hp]at h
   obtain⟨h1,h2⟩:=Jl p k l v h
   rw[Iy,if_neg (by grind)]
   exact⟨h1,h2⟩
theorem XT{nh:List Nat}{k:Nat}{h:List (Nat×Blk)}{b:Blk}(hb:lk k (Ia nh h)=some b):lk k h=some b∧nh.contains k=false:=by
 cases nh with
 |nil=>exact⟨hb,rfl⟩
 |cons a r=>
  obtain⟨h1,h2⟩:=Jl (fun k=> !(a::r).contains k) k h b hb
  grind
theorem Ox{i:DI}{s:Step}(h:DF i (s.d.getD 0) s.x=true){k:Nat}(hk:s.hits k):k∈CU s.d i:=by
 obtain⟨d,x⟩:=s
 unfold Step.hits at hk;unfold DF at h;cases x with
 |val v=>simp[Eff.b]at hk
 |dat v=>simp[Eff.b]at hk
 |new b v=>
  simp only[AR,Bool.or_eq_true,beq_iff_eq]at h
  grind[Eff.b,CU]
 |put m b=>
  simp_all[AR,beq_iff_eq,Eff.b,CU]
 |app m b v=>
  simp only[AR,Bool.or_eq_true,beq_iff_eq]at h
  grind[Eff.b,CU]
theorem Nx{l:List Nat}{v:V}(h:B7 l v=true){d:Nat}(hd:d∈l):v.men d=false:=by
 simpa using jzy.1 h d hd
theorem IE{l:List Nat}{b:Blk}(h:DS l b=true){d:Nat}(hd:d∈l):b.men d=false:=by
 simpa using jzy.1 h d hd
theorem VC{i:DI}{s:Step}(h:DF i (s.d.getD 0) s.x=true){d:Nat}(hd:d∈i.bad)(hh:d∉CU s.d i):s.Clean d:=by
 have hits:=fun k hk=>Ox (k:=k) h hk
 obtain⟨e,x⟩:=s
 have hne: ∀k b,x.b e k=some (some b)→k≠d:=fun k b hb he=>hh (he ▸ hits k (by unfold Step.hits;grind))
 unfold DF at h;cases x with
 |val v=>exact⟨Nx h hd,(by grind[Eff.b])⟩
 |dat v=>exact⟨rfl,(by grind[Eff.b])⟩
 |new b v=>
  simp only[AR]at h;refine⟨Nx h.2.1 hd,fun k b' hb=>⟨hne k b' hb,?_⟩⟩
  grind[Eff.b,IE]
 |put m b=>
  simp only[AR]at h;refine⟨rfl,fun k b' hb=>⟨hne k b' hb,?_⟩⟩
  grind[Eff.b,IE]
 |app m b v=>
  simp only[AR]at h;refine⟨Nx h.2.2.1 hd,fun k b' hb=>⟨hne k b' hb,?_⟩⟩
  grind[Eff.b,IE]
end Go.Va
