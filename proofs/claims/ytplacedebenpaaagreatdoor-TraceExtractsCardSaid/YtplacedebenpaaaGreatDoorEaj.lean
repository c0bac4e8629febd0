/- a part of the proof -/
import Derived.Test.YtplacedebenpaaaGreatDoorEai
set_option linter.all false
namespace Go.Va
open _root_.List renaming any_eq_false → aD, range → aJ
open _root_.Option renaming getD_none → aG, getD_some → aI
open _root_.Bool renaming or_eq_true → aH
open Go.RowKit
variable [DrC]
variable{o:Oper}{E:St}{k:Eff->Prop}{d:Nat}{a:List (List Nat)}{l:List Nat}
section
variable {P:Program} {T:AH}
def MO(d:Option Nat)(b:List U)(k:Eff->Prop)(a:R):Prop:=(a.flat=true\/FY b=true)/\k (Ec d a)
def GZ(P:Program)(d:Option Nat)(E:St)(k:Eff->Prop)(g:FuncId)(caps:List D)(a:List U):Prop:=
 AI (E.argsW (E.reachU a) a caps) λb=>G9 P g b (MO d a k)
def NP(P:Program)(d:Option Nat)(E:St)(k:Eff->Prop)(g:FuncId)(cs:List C)(a:List U):Prop:=GZ P d E k g [] (a++cs.map .c)
def Gl(P:Program)(d:Option Nat)(args:List Operand)(E:St)(k:Eff->Prop)(u:U):Prop:=
 match u with
 | .c (.d (.fn g caps))=>AI (args.mapM E.evU) (GZ P d E k g caps)
 | .clo g a=>AI (args.mapM E.evU) (NP P d E k g a)
 |_=>False
def Bo(P:Program)(T:AH)(o:Oper)(E:St)(k:Eff->Prop):Prop:=
 match o.op with
 | .call { callee:= .value f,args,.. }=>AI (E.evU f) (Gl P o.dst args.toList E k)
 |_=>AI (effOp T o E) k
def CS(a:Bool)(v:Option V)(f:Prop)(e:Prop):Prop:=
 match v with
 |some (.u (.c (.d (.bool b))))=>(b=a->f)/\(b= !a->e)
 |some (.tup [])=>e
 |_=>False
def CN(P:Program)(T:AH)(ops:List Oper)(o:Oper)(E:St)(k:Eff->Prop):Prop:=
 match o.guard with
 |none=>Bo P T o E k
 |some (j,a)=>
  match (ops[j]?).bind (·.dst)with
  |some d=>CS a (lk d E.t) (Bo P T o E k) (k (.val (.tup [])))
  |none=>False
theorem Sc(h:Bo P T o E k): ∃x,EH P T o E x/\k x:=by
 unfold Bo at h;split at h
 ·rename_i f args w t;obtain⟨c,r,h⟩:=h;unfold Gl at h;split at h
  ·rename_i g caps;obtain⟨p,i,m,b,j,a,e,l⟩:=h;grind[jec]
  ·rename_i g q;obtain⟨p,i,m,b,j,a,e,l⟩:=h;grind[jee]
  ·exact h.elim
 ·obtain⟨x,v,l⟩:=h;grind[jaV]
def jkh(P:Program)(dst:Option Nat)(E:St)(k:Eff->Prop)(g:FuncId)(l:List U):Prop:=
 ∃(b n f m d:Nat) (j a:List D) (e:List U) (i:List A),l= .c (.sl b 0 n)::e/\lk b E.h=some (.row f j true)/\e.mapM (U.toA [] E.h)=some i/\dst=some d/\CallsA P g f n j i m a/\k (.app b (.row f a true) (vC (.sl d 0 m)))
def jaO(P:Program)(dst:Option Nat)(E:St)(k:Eff->Prop)(g:FuncId)(i:List U):Prop:=
 ∃(f m d:Nat) (a:List D) (b:List U) (e:List A),i= .c .nl::b/\b.mapM (U.toA [] E.h)=some e/\dst=some d/\CallsA P g f 0 [] e m a/\k (.new (.row f a true) (vC (.sl d 0 m)))
def Sg(P:Program)(dst:Option Nat)(E:St)(k:Eff->Prop)(g:FuncId)(a:List U):Prop:=jkh P dst E k g a\/jaO P dst E k g a
def Qm(P:Program)(dst:Option Nat)(args:List Operand)(E:St)(k:Eff->Prop)(u:U):Prop:=
 match u with
 | .c (.d (.fn g []))=>AI (args.mapM E.evU) (Sg P dst E k g)
 |_=>False
theorem jba{s:St}{sz:Nat}(h:s.fs.Clean d):((s.new d (.row sz [] true)).drop d).fs=s.fs:=by
 rw[JQ];unfold St.new;rw[F4,NK h];refine FS.ext' (λt=>rfl) λj=> ?_;simp only;by_cases e:j=d
 ·subst e;rw[if_pos rfl];cases a:lk j s.h with
  |none=>exact a.symm
  |some b=>exact absurd rfl (h.h j b a).1
 grind
def Fb(P:Program)(o:Oper)(E:St)(k:Eff->Prop):Prop:=
 match o.guard,o.op with
 |none,.call { callee:= .value f,args,.. }=>AI (E.evU f) (Qm P o.dst args.toList E k)
 |_,_=>False
theorem jhJ{ops:List Oper}(h:Fb P o E k): ∃x,CL P T ops o E x/\k x:=by
 unfold Fb at h;unfold CL;split at h
 ·rename_i f args J I F;rw[I];obtain⟨u,G,h⟩:=h;unfold Qm at h;split at h
  ·rename_i g;obtain⟨L,q,⟨b,n,sz,m,d,H,i,e,r,rfl,y,l,p,v,w⟩|⟨sz,m,d,i,e,r,rfl,l,p,v,w⟩⟩:=h
   rotate_left
   ·refine⟨_,λs j a K t=> ?_,w⟩;unfold wpOp;rw[F];dsimp only;refine⟨_,Sub.evU j f _ G,?_⟩;show Eh P o.dst args.toList s (Frz K) (.c (.d (.fn g [])));rw[KV];refine⟨_,Mo.mapM (Sub.evU j) _ _ q,?_⟩;refine .inr (.inr (.inr (.inr (.inl (.inr (.inr (.inl ⟨rfl,sz,m,d,i,e,r,rfl,Mo.mapM (Ly j λ_ h=>h) e _ l,p,v,Frz.of (t _ ?_)⟩)))))));rw[p]at a ⊢;have z:=jba (s:=s) (d:=d) (sz:=sz) a.1;have:=HT (s:=(s.new d (.row sz [] true)).drop d) (d:=some d) (x:= .new (.row sz i true) (vC (.sl d 0 m))) (z.symm ▸ a);rw[z]at this;exact this
   refine⟨_,λs j a K t=> ?_,w⟩;unfold wpOp;rw[F];dsimp only;refine⟨_,Sub.evU j f _ G,?_⟩;show Eh P o.dst args.toList s (Frz K) (.c (.d (.fn g [])));rw[KV];refine⟨_,Mo.mapM (Sub.evU j) _ _ q,?_⟩;refine .inr (.inr (.inr (.inr (.inr ⟨rfl,b,n,sz,m,d,H,i,e,r,rfl,j.h _ _ y,Mo.mapM (Ly j λ_ h=>h) e _ l,p,v,Frz.of (t _ ?_)⟩))));have:=HT (s:=s) a;rw[p]at this ⊢;exact this
  ·exact h.elim
 ·exact h.elim
def Dx(T:AH)(ops:List Oper)(o:Oper)(E:St)(k:Eff->Prop):Prop:=
 match o.guard with
 |none=>AI (GG T o E) k
 |some (j,a)=>
  match (ops[j]?).bind (·.dst)with
  |some d=>CS a (lk d E.t) (AI (GG T o E) k) (k (.val (.tup [])))
  |none=>False
theorem jdR{ops:List Oper}(h:Dx T ops o E k): ∃x,CL P T ops o E x/\k x:=by
 unfold Dx at h;unfold CL;split at h
 ·rename_i f;rw[f];obtain⟨x,l,i⟩:=h;grind[N5]
 ·rename_i j a f;rw[f];dsimp only;split at h
  ·rename_i d m;rw[m];dsimp only;unfold CS at h;split at h
   ·rename_i b g;by_cases e:b=a
    ·obtain⟨x,l,i⟩:=h.1 e;exact⟨x,.inl ⟨b,g,.inl ⟨e,N5 l⟩⟩,i⟩
    ·have:b= !a:=by cases b<;>cases a<;>simp_all
     exact⟨_,.inl ⟨b,g,O3⟩,h.2 this⟩
   ·grind
   ·exact h.elim
  ·exact h.elim
theorem Tn{ops:List Oper}(h:CN P T ops o E k): ∃x,CL P T ops o E x/\k x:=by
 unfold CN at h;unfold CL;split at h
 ·grind[Sc]
 ·rename_i j a i;rw[i];dsimp only;split at h
  ·rename_i d g;rw[g];dsimp only;unfold CS at h;split at h
   ·rename_i b f;by_cases e:b=a
    ·obtain⟨x,m,l⟩:=Sc (h.1 e);exact⟨x,.inl ⟨b,f,.inl ⟨e,m⟩⟩,l⟩
    ·have:b= !a:=by cases b<;>cases a<;>simp_all
     exact⟨_,.inl ⟨b,f,O3⟩,h.2 this⟩
   ·grind
   ·exact h.elim
  ·exact h.elim
end
def BU(a:List (List Nat))(j i:Nat):Bool:=(a.getD i []).contains j
def Qi(ops:List Oper)(a:List (List Nat)):Bool:=
 ops.zipIdx.all λ(o,i)=>(a.getD i []).all (λj=>decide (j<i)&&(o.after.toList.any λe=>Region.binds .any e&&(e.on==j||BU a j e.on)))&&(o.after.toList.all λe=> !Region.binds .any e||BU a e.on i)
theorem jfa{ops:List Oper}{k:List (List Nat)}(h:Qi ops k=true):Edges ops (BU k):=by
 have hi: ∀i o,ops[i]? =some o->(o,i)∈ops.zipIdx:=O3;refine⟨λi o b e f l=> ?_,λi o b j g=> ?_⟩
 ·have:=jzy.1 h _ (hi i o b);grind
 ·have:=jzy.1 h _ (hi i o b);rw[AR]at this;have:=jzy.1 this.1 j (by unfold BU at g;simpa using g);rw[AR]at this;obtain⟨e,f,a⟩:=List.any_eq_true.1 this.2;rw[AR,aH]at a;exact⟨e,by simpa using f,a.1,by simpa using a.2⟩
theorem T6(d a:Nat)(c:C)(h:a=d\/c.men a=false):(c.on (Bm d)).men a=false:=by
 unfold C.on Bm;split
 ·rename_i i o n;by_cases hi:i=d
  ·rw[if_pos hi];rfl
  ·rw[if_neg hi];rcases h with rfl|h
   ·simp[C.men,C.id?,hi]
   ·exact h
 ·rename_i i o;by_cases hi:i=d
  ·rw[if_pos hi];rfl
  ·rw[if_neg hi];rcases h with rfl|h
   ·simp[C.men,C.id?,hi]
   ·exact h
 ·rename_i q i;by_cases hi:i=d
  ·rw[if_pos hi];rfl
  ·rw[if_neg hi];rcases h with rfl|h
   ·simp[C.men,C.id?,hi]
   ·exact h
 ·rename_i b e f;unfold C.men;have:c.id? =none:=by
   cases c<;>first|rfl|grind|grind|grind
  rw[this];rfl
theorem IV(d a:Nat)(cs:List C)(h:a=d\/cs.any (C.men a)=false):(cs.map (C.on (Bm d))).any (C.men a)=false:=by
 rw[aD];intro c b;obtain⟨f,e,rfl⟩:=jzk.1 b;grind[T6,id]
theorem Ov(d a:Nat)(u:U)(h:a=d\/u.men a=false):(u.on (Bm d)).men a=false:=by
 cases u with
 |c x=>exact T6 d a x h
 |agg b=>exact IV d a b h
 |clo f b=>exact IV d a b h
theorem jfI(d a:Nat)(v:V)(h:a=d\/v.men a=false):(v.on (Bm d)).men a=false:=by
 cases v with
 |u x=>exact Ov d a x h
 |tup g=>
  show(g.map (U.on (Bm d))).any (U.men a)=false;rw[aD];intro c f;obtain⟨e,b,rfl⟩:=jzk.1 f;have:=Ov d a e (h.imp id λh=>by have:=aD.1 h e b;simpa using this);simp[this]
 |tr x i=>rfl
theorem jia(d e:Nat)(b:Blk)(h:e=d\/b.men e=false):(b.on (Bm d)).men e=false:=by
 cases b with
 |row g a app=>rfl
 |box a=>exact IV d e a h
 |fbox f a=>exact IV d e a h
 |mp x=>rfl
 |gh a=>exact IV d e a h
theorem Sw{s:St}{a:Nat}(h:a=d\/s.fs.Clean a):(s.purge d).fs.Clean a:=by
 refine⟨λt v i=> ?_,λk b e=> ?_⟩
 ·change lk t (s.on (Bm d)).t=some v at i;simp only[St.on,BN]at i;obtain⟨l,j,rfl⟩:=jze.1 i;exact jfI d a l (h.imp id λh=>h.t t l j)
 ·change lk k (rm d (s.on (Bm d)).h)=some b at e;simp only[St.on,HK,BN]at e;split at e
  ·cases e
  ·rename_i m;obtain⟨g,f,rfl⟩:=jze.1 e;refine⟨?_,jia d a g (h.imp id λh=>(h.h k g f).2)⟩;rcases h with rfl|h
   ·exact m
   ·exact(h.h k g f).1
theorem SH(d:Nat): ∀(l:List Nat) (s:St),d∈l\/s.fs.Clean d->(purges l s).fs.Clean d
 |[],s,h=>h.resolve_left O1
 |i::l,s,h=>SH d l (s.purge i) (by
   rcases h with h|h
   ·rcases jzn.1 h with rfl|h
    ·exact .inr (Sw (.inl rfl))
    ·exact .inl h
   grind[Sw])
structure Step.Clean (s:Step) (d:Nat):Prop where
 v:s.x.v.men d=false
 b: ∀k b,s.x.b s.d k=some (some b)->k≠d/\b.men d=false
theorem jjd{F:FS}(h:F.Clean d){s:Step}(g:s.Clean d):(F.upd s).Clean d:=by
 refine⟨λt v e=> ?_,λk b a=> ?_⟩
 ·simp only[FS.upd]at e;split at e
  ·cases e;exact g.v
  ·exact h.t t v e
 ·simp only[FS.upd]at a;cases f:s.x.b s.d k with
  |none=>rw[f]at a;exact h.h k b a
  |some r=>
   rw[f]at a;simp only[aI]at a;subst a;exact g.b k b f
theorem Pk{d:Nat}: ∀(l:List Step) (F:FS),F.Clean d->(∀s∈l,s.Clean d)->(F.run l).Clean d
 |[],_,h,_=>h
 |s::l,F,h,a=>Pk l (F.upd s) (by grind[jjd]) O3
structure DI where
 k:Nat
 rd:List Nat
 nh:List Nat
 bad:List Nat
 ks:List Nat
 deriving Inhabited
def Ia(b:List Nat)(h:List (Nat×Blk)):List (Nat×Blk):=
 match b with
 |[]=>h
 |a::r=>h.filter λe=> !(a::r).contains e.1
def seen(i:DI)(S:St):St:=⟨S.t.filter λe=>i.rd.contains e.1,Ia i.nh S.h⟩
def B7(l:List Nat)(v:V):Bool:=l.all λd=> !v.men d
def DS(l:List Nat)(b:Blk):Bool:=l.all λd=> !b.men d
def DF(i:DI)(d:Nat)(x:Eff):Bool:=
 match x with
 | .val v=>B7 i.bad v
 | .dat _=>i.k==4||i.k==6
 | .new b v=>(i.k==1||i.k==3||i.k==5)&&(B7 i.bad v&&DS (d::i.bad) b)
 | .put k b=>i.k==2&&(i.ks.contains k&&DS i.bad b)
 | .app k b v=>(i.k==3||i.k==5)&&(i.ks.contains k&&(B7 i.bad v&&DS (d::i.bad) b))
def L9(d:Option Nat)(x:Eff)(S:St):St:=
 match x with
 | .val v=>S.put d v
 | .new b v=>(S.blk (d.getD 0) b).put d v
 | .put k b=>(S.blk k b).put d (.tup [])
 | .app k b v=>((S.drop k).blk (d.getD 0) b).put d v
 | .dat x=>S.put d (vC (.d x))
theorem jag(d:Option Nat)(x:Eff)(S:St):(L9 d x S).fs=S.fs.upd ⟨d,x⟩:=by
 cases x with
 |val v=>exact C8 S d v
 |dat x=>exact C8 S d _
 |new b v=>
  show((S.blk (d.getD 0) b).put d v).fs=_;rw[C8,FS.upd,F4];refine FS.ext' (λt=>rfl) λk=> ?_;simp only[FS.upd,Eff.b,aG];split<;>rfl
 |put i b=>
  show((S.blk i b).put d (.tup [])).fs=_;rw[C8,FS.upd,F4];refine FS.ext' (λt=>rfl) λk=> ?_;simp only[FS.upd,Eff.b,aG];split<;>rfl
 |app i b v=>
  show(((S.drop i).blk (d.getD 0) b).put d v).fs=_;rw[C8,FS.upd,F4,JQ];refine FS.ext' (λt=>rfl) λk=> ?_;simp only[FS.upd,Eff.b,aG];grind
def Cu(i:DI)(d:Option Nat)(S:St)(k:St->Prop)(x:Eff):Prop:=DF i (d.getD 0) x=true/\k (L9 d x S)
def JN(d:Option Nat)(k:Eff->Prop)(x:Eff):Prop:=
 match x with
 | .new (.row sz b true) (.u (.c (.sl e 0 a)))=>(d=some e/\b.length=a*sz)/\k (.dat (.slice a b))
 | .val v=>k (.val v)
 |_=>False
def BH(P:Program)(T:AH)(ops:List Oper):List DI->List Oper->St->(List Oper->St->Prop)->Prop
 |[],e,S,a=>a e S
 |i::f,o::r,S,a=>if i.k=4 then Dx T ops o (seen i S) (Cu i o.dst S λb=>BH P T ops f r b a) else if i.k=5 then Fb P o (seen i S) (Cu i o.dst S λb=>BH P T ops f r b a) else if i.k=6 then CN P T ops o (seen i S) (JN o.dst (Cu i o.dst S λb=>BH P T ops f r b a)) else CN P T ops o (seen i S) (Cu i o.dst S λb=>BH P T ops f r b a)
 |_::_,[],_,_=>False
inductive Seg where
 |one
 |rn (l:List (Nat×Nat))
 |all (pl:List (List Nat))
 |any (ids ds:List Nat) (is:List DI)
def E3(P:Program)(T:AH)(ops a:List Oper)(e:List (List Nat)):Nat->List Nat->St->(St->Prop)->Prop
 |0,_,b,K=>K b
 |n+1,L,b,K=> ∀i o,a[i]? =some o->L.contains i=false->(e.getD i []).all (L.contains ·)=true->Ca P T ops o b λs=>E3 P T ops a e n (i::L) s K
def DY(P:Program)(T:AH)(ops:List Oper):List Seg->List Oper->(St->Prop)->St->Prop
 |[],_,K,b=>K b
 | .one::r,o::a,K,b=>Ca P T ops o b (DY P T ops r a K)
 | .one::_,[],_,_=>False
 | .any ids g h::r,a,K,b=>BH P T ops h a (purges g (b.freeze ids)) λe s=>DY P T ops r e K s
 | .rn l::r,a,K,b=>DY P T ops r a K (rns l b)
 | .all pl::r,a,K,b=>E3 P T ops (a.take pl.length) pl pl.length [] b λs=> ∃f:St,f.le s/\DY P T ops r (a.drop pl.length) K f
def LK(a:List (List Nat))(i j:Nat):Bool:=i !=j&& !BU a j i&& !BU a i j
def CU(d:Option Nat)(i:DI):List Nat:=
 match i.k with
 |1=>[d.getD 0]
 |2=>i.ks
 |3=>d.getD 0::i.ks
 |5=>d.getD 0::i.ks
 |_=>[]
def FL(d:Option Nat)(i:DI):List Nat:=if i.k=1\/i.k=3\/i.k=4\/i.k=5\/i.k=6 then [d.getD 0] else []
def jau(a b:List Nat):Bool:=a.all λx=> !b.contains x
def JP(g:List (List Nat))(b:Nat)(f:Option Nat)(i:DI)(e:Nat)(a:Option Nat)(j:DI):Bool:=
 (!LK g b e||((match a with|some t=> !i.rd.contains t&&f !=some t|none=>true)&&((CU a j).all (i.nh.contains ·)&&jau (CU a j) (CU f i))))&&
 (b==e||(BU g e b||(FL a j).all λd=>i.bad.contains d&& !(CU f i).contains d))
def CK(ops:List Oper)(i:Nat):Option Nat:=(ops[i]?).bind (·.dst)
def QW(ops:List Oper)(b:List (List Nat))(ds:List Nat)(lo:Nat)(a:List DI):Bool:=
 a.zipIdx.all λ(i,p)=>((FL (CK ops (lo+p)) i).all λd=>ds.contains d&& !(i.ks.contains d))&&
  a.zipIdx.all λ(j,q)=>JP b (lo+p) (CK ops (lo+p)) i (lo+q) (CK ops (lo+q)) j
def Kn(ops:List Oper)(a:List (List Nat))(m:Nat):Bool:=(aJ ops.length).all λi=>decide (i<m)||(aJ m).all λj=>BU a j i
def DT(ops:List Oper)(a:List (List Nat)):Nat->List Seg->Bool
 |lo,[]=>lo==ops.length
 |lo,.one::r=>Kn ops a (lo+1)&&DT ops a (lo+1) r
 |lo,.rn _::r=>DT ops a lo r
 |lo,.all q::r=>decide (lo+q.length<=ops.length)&&(Kn ops a (lo+q.length)&&((q.zipIdx.all λ(l,p)=>l.all λj=>BU a (lo+j) (lo+p))&&DT ops a (lo+q.length) r))
 |lo,.any _ e b::r=>decide (lo+b.length<=ops.length)&&(Kn ops a (lo+b.length)&&(QW ops a e lo b&&DT ops a (lo+b.length) r))
def R7(a:List (List Nat)):Bool:=a.zipIdx.all λ(l,i)=>l.all λj=>decide (j<i)
def Jy(ops:List Oper)(b:List (List Nat))(a:List Seg):Bool:=Qi ops b&&(R7 b&&DT ops b 0 a)
theorem Z6(h:R7 a=true)(j i:Nat)(b:BU a j i=true):j<i:=by
 unfold BU at b;cases e:a[i]? with
 |none=>grind
 |some l=>
  rw[AL,e,aI]at b;have:=jzy.1 h (l,i) O3;grind
theorem U2{ops:List Oper}{m:Nat}(h:Kn ops a m=true):Cut ops.length (BU a) m:=λi hi e j b=>by
 have:=jzy.1 h i O3;grind
theorem Jl{α:Type}(p:Nat->Bool)(k:Nat): ∀(l:List (Nat×α)) (v:α),lk k (l.filter λe=>p e.1)=some v->lk k l=some v/\p k=true
 |[],v,h=>by cases h
 |(j,u)::l,v,h=>by
  rw[List.filter_cons]at h;by_cases a:p j=true
  ·rw[if_pos a,Iy]at h;rw[Iy];by_cases g:j=k
   ·grind
   ·rw[if_neg g]at h ⊢;exact Jl p k l v h
  ·rw[if_neg a]at h;obtain⟨b,f⟩:=Jl p k l v h;rw[Iy,if_neg O3];exact⟨b,f⟩
theorem XT{e:List Nat}{k:Nat}{h:List (Nat×Blk)}{b:Blk}(f:lk k (Ia e h)=some b):lk k h=some b/\e.contains k=false:=by
 cases e with
 |nil=>exact⟨f,rfl⟩
 |cons a r=>
  obtain⟨g,i⟩:=Jl (λk=> !(a::r).contains k) k h b f;grind
theorem Ox{i:DI}{s:Step}(h:DF i (s.d.getD 0) s.x=true){k:Nat}(a:s.hits k):k∈CU s.d i:=by
 obtain⟨d,x⟩:=s;unfold Step.hits at a;unfold DF at h;cases x with
 |val v=>simp[Eff.b]at a
 |dat v=>simp[Eff.b]at a
 |new b v=>
  simp only[AR,aH,beq_iff_eq]at h;grind[Eff.b,CU]
 |put m b=>
  simp_all[AR,beq_iff_eq,Eff.b,CU]
 |app m b v=>
  simp only[AR,aH,beq_iff_eq]at h;grind[Eff.b,CU]
theorem Nx{v:V}(h:B7 l v=true)(a:d∈l):v.men d=false:=by
 simpa using jzy.1 h d a
theorem IE{b:Blk}(h:DS l b=true)(a:d∈l):b.men d=false:=by
 simpa using jzy.1 h d a
theorem VC{i:DI}{s:Step}(h:DF i (s.d.getD 0) s.x=true)(l:d∈i.bad)(p:d∉CU s.d i):s.Clean d:=by
 have j:=λk q=>Ox (k:=k) h q;obtain⟨e,x⟩:=s;have a: ∀k b,x.b e k=some (some b)->k≠d:=λk b f o=>p (o ▸ j k (by unfold Step.hits;grind));unfold DF at h;cases x with
 |val v=>exact⟨Nx h l,(by grind[Eff.b])⟩
 |dat v=>exact⟨rfl,(by grind[Eff.b])⟩
 |new b v=>
  simp only[AR]at h;refine⟨Nx h.2.1 l,λk g f=>⟨a k g f,?_⟩⟩;grind[Eff.b,IE]
 |put m b=>
  simp only[AR]at h;refine⟨rfl,λk g f=>⟨a k g f,?_⟩⟩;grind[Eff.b,IE]
 |app m b v=>
  simp only[AR]at h;refine⟨Nx h.2.2.1 l,λk g f=>⟨a k g f,?_⟩⟩;grind[Eff.b,IE]
end Go.Va
