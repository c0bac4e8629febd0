/- a part of the proof -/
import Derived.Test.YtplacedebenpaaaGreatDoorEah
set_option linter.all false
namespace Go.Va
open _root_.Bool renaming or_eq_false_iff → aD
open _root_.Option renaming map_some → aG, getD_none → aH, bind_some → aM
open _root_.List renaming mapM_cons → aI, any_cons → aJ, map_cons → aL
open Go.RowKit
variable [DrC]
def C.men(d:Nat)(c:C):Bool:=c.id? ==some d
def U.men(d:Nat):U->Bool
 | .c x=>x.men d
 | .agg a=>a.any (C.men d)
 | .clo _ a=>a.any (C.men d)
def V.men(d:Nat):V->Bool
 | .u x=>x.men d
 | .tup us=>us.any (U.men d)
 | .tr _ _=>false
def Blk.men(d:Nat):Blk->Bool
 | .row _ _ _=>false
 | .box a=>a.any (C.men d)
 | .fbox _ a=>a.any (C.men d)
 | .mp _=>false
 | .gh a=>a.any (C.men d)
variable{d:Nat}{α:Type}{o:Oper}{E:St}{g:Nat->C->C}{K:St->Prop}
theorem C.on_men{c:C}(h:c.men d=false):c.on (Bm d)=c:=by
 unfold C.on Bm;unfold C.men at h;split
 ·simp_all[C.id?,if_neg]
 ·simp_all[C.id?,if_neg]
 ·simp_all[C.id?,if_neg]
 ·rfl
theorem GV{d:Nat}: ∀{cs:List C},cs.any (C.men d)=false->cs.map (C.on (Bm d))=cs
 |[],_=>rfl
 |c::r,h=>by
  simp only[aJ,aD]at h;rw[aL,C.on_men h.1,GV h.2]
theorem U.on_men: ∀{u:U},u.men d=false->u.on (Bm d)=u
 | .c x,h=>congrArg U.c (C.on_men h)
 | .agg a,h=>congrArg U.agg (GV h)
 | .clo f a,h=>congrArg (U.clo f) (GV h)
theorem Us{d:Nat}: ∀{a:List U},a.any (U.men d)=false->a.map (U.on (Bm d))=a
 |[],_=>rfl
 |c::r,h=>by
  simp only[aJ,aD]at h;rw[aL,U.on_men h.1,Us h.2]
theorem V.on_men: ∀{v:V},v.men d=false->v.on (Bm d)=v
 | .u x,h=>congrArg V.u (U.on_men h)
 | .tup us,h=>congrArg V.tup (Us h)
 | .tr _ _,_=>rfl
theorem Blk.on_men: ∀{b:Blk},b.men d=false->b.on (Bm d)=b
 | .row _ _ _,_=>rfl
 | .box a,h=>congrArg Blk.box (GV h)
 | .fbox f a,h=>congrArg (Blk.fbox f) (GV h)
 | .mp _,_=>rfl
 | .gh a,h=>congrArg Blk.gh (GV h)
structure FS.Clean (F:FS) (d:Nat):Prop where
 t: ∀t v,F.t t=some v->v.men d=false
 h: ∀k b,F.h k=some b->k≠d/\b.men d=false
theorem HK(k j:Nat)(l:List (Nat×α)):lk j (rm k l)=if j=k then none else lk j l:=by
 by_cases h:j=k
 ·subst h;rw[Ha,if_pos rfl]
 ·rw[BR h,if_neg h]
theorem Iy(k j:Nat)(v:α)(l:List (Nat×α)):lk j ((k,v)::l)=if k=j then some v else lk j l:=rfl
theorem C8(s:St)(d:Option Nat)(v:V):(s.put d v).fs=s.fs.upd ⟨d,.val v⟩:=by
 refine FS.ext' (λt=> ?_) λk=> ?_
 ·cases d with
  |none=>rfl
  |some d=>
   simp_all[St.fs,St.put,FS.upd,Iy,HK,Option.some.injEq,Eff.v,Ne.symm]
 ·cases d<;>rfl
theorem NK{s:St}(h:s.fs.Clean d):(s.purge d).fs=s.fs:=by
 refine FS.ext' (λt=> ?_) λk=> ?_
 ·show lk t (s.on (Bm d)).t=lk t s.t;simp only[St.on,BN];cases a:lk t s.t with
  |none=>rfl
  |some v=>rw[aG,V.on_men (h.t t v a)]
 ·show lk k (rm d (s.on (Bm d)).h)=lk k s.h;simp only[St.on,HK,BN];cases a:lk k s.h with
  |none=>simp
  |some b=>
   obtain⟨e,f⟩:=h.h k b a;rw[if_neg e,aG,Blk.on_men f]
theorem F4(s:St)(k:Nat)(b:Blk):(s.blk k b).fs=⟨s.fs.t,λj=>if k=j then some b else s.fs.h j⟩:=by
 refine FS.ext' (λt=>rfl) λj=> ?_;simp_all[St.fs,St.blk,Iy,HK,Ne.symm]
theorem JQ(s:St)(k:Nat):(s.drop k).fs=⟨s.fs.t,λj=>if j=k then none else s.fs.h j⟩:=by
 refine FS.ext' (λt=>rfl) λj=> ?_;simp only[St.fs,St.drop,HK]
def Eff.Free(d:Option Nat)(F:FS):Eff->Prop
 | .new b _=>F.Clean (d.getD 0)/\b.men (d.getD 0)=false
 | .app _ b _=>F.Clean (d.getD 0)/\b.men (d.getD 0)=false
 | .dat _=>F.Clean (d.getD 0)
 |_=>True
theorem HT{s:St}{d:Option Nat}{x:Eff}(h:x.Free d s.fs):(s.eff d x).fs=s.fs.upd ⟨d,x⟩:=by
 cases x with
 |val v=>exact C8 s d v
 |dat x=>exact C8 s d _
 |new b v=>
  obtain⟨a,f⟩:=h;show((s.new (d.getD 0) b).put d v).fs=_;rw[C8];unfold St.new;rw[Blk.on_men f,FS.upd,F4,NK a];refine FS.ext' (λt=>rfl) λk=> ?_;simp only[FS.upd,Eff.b,aH];split<;>rfl
 |put i b=>
  show((s.blk i b).put d (.tup [])).fs=_;rw[C8,FS.upd,F4];refine FS.ext' (λt=>rfl) λk=> ?_;simp only[FS.upd,Eff.b,aH];split<;>rfl
 |app i b v=>
  obtain⟨a,f⟩:=h;have g:(s.drop i).fs.Clean (d.getD 0):=by
   rw[JQ];refine⟨a.t,λk b e=> ?_⟩;simp only at e;split at e
   ·cases e
   ·exact a.h k b e
  show(((s.drop i).new (d.getD 0) b).put d v).fs=_;rw[C8];unfold St.new;rw[Blk.on_men f,FS.upd,F4,NK g,JQ];refine FS.ext' (λt=>rfl) λk=> ?_;simp only[FS.upd,Eff.b,aH];grind
section
variable {P:Program} {T:AH}
def EH(P:Program)(T:AH)(o:Oper)(E:St)(x:Eff):Prop:=
 ∀s:St,E.Sub s->x.Free o.dst s.fs-> ∀K:St->Prop,(∀a,a.fs=s.fs.upd ⟨o.dst,x⟩->K a)->wpOp P T o s (Frz K)
theorem jaV{x:Eff}(h:effOp T o E=some x):EH P T o E x:=by
 intro s a f K e;have b:=jkv (Sub.effOp a T o x h);grind[AI,DH,Frz,CR,Frz.of,HT,wpOp,effOp]
theorem C.on_other(a: ∀i c,i≠d->g i c=c){c:C}(h:c.men d=false):c.on g=c:=by
 unfold C.on;unfold C.men at h;split
 ·grind[C.id?]
 ·grind[C.id?]
 ·grind[C.id?]
 ·rfl
theorem Hy{d:Nat}{g:Nat->C->C}(a: ∀i c,i≠d->g i c=c): ∀{cs:List C},cs.any (C.men d)=false->cs.map (C.on g)=cs
 |[],_=>rfl
 |c::r,h=>by
  simp only[aJ,aD]at h;rw[aL,C.on_other a h.1,Hy a h.2]
theorem U.on_other(a: ∀i c,i≠d->g i c=c): ∀{u:U},u.men d=false->u.on g=u
 | .c x,h=>congrArg U.c (C.on_other a h)
 | .agg b,h=>congrArg U.agg (Hy a h)
 | .clo f b,h=>congrArg (U.clo f) (Hy a h)
theorem Ss{d:Nat}{g:Nat->C->C}(b: ∀i c,i≠d->g i c=c): ∀{a:List U},a.any (U.men d)=false->a.map (U.on g)=a
 |[],_=>rfl
 |c::r,h=>by
  simp only[aJ,aD]at h;rw[aL,U.on_other b h.1,Ss b h.2]
theorem V.on_other(a: ∀i c,i≠d->g i c=c): ∀{v:V},v.men d=false->v.on g=v
 | .u x,h=>congrArg V.u (U.on_other a h)
 | .tup us,h=>congrArg V.tup (Ss a h)
 | .tr _ _,_=>rfl
theorem Blk.on_other(a: ∀i c,i≠d->g i c=c): ∀{b:Blk},b.men d=false->b.on g=b
 | .row _ _ _,_=>rfl
 | .box e,h=>congrArg Blk.box (Hy a h)
 | .fbox f e,h=>congrArg (Blk.fbox f) (Hy a h)
 | .mp _,_=>rfl
 | .gh e,h=>congrArg Blk.gh (Hy a h)
theorem UL{s g:St}{sz f:Nat}{ds:List D}(w:ds.length=f*sz)(j:s.fs.Clean d)(m:g.fs=s.fs.upd ⟨some d,.new (.row sz ds true) (vC (.sl d 0 f))⟩):
  (g.freeze [d]).fs=s.fs.upd ⟨some d,.dat (.slice f ds)⟩:=by
 have r: ∀t,lk t g.t=if d=t then some (vC (.sl d 0 f)) else lk t s.t:=λt=>by
  have:=congrArg (λF=>F.t t) m;simpa [St.fs,FS.upd,Eff.v]using this
 have p: ∀k,lk k g.h=if d=k then some (.row sz ds true) else lk k s.h:=λk=>by
  have:=congrArg (λF=>F.h k) m;simp only[St.fs,FS.upd,Eff.b,Option.getD_some]at this;grind
 have q:lk d g.h=some (.row sz ds true):=by rw[p,if_pos rfl]
 have o: ∀i c,i≠d->Du g.h ([d].contains ·) i c=c:=(by simp_all[Du,if_neg])
 have l:toD ([d].contains ·) g.h 4 (.sl d 0 f)=some (.slice f ds):=by
  unfold toD;rw[if_pos O1,q];simp only;rw[if_pos O3];unfold cut;grind
 refine FS.ext' (λt=> ?_) λk=> ?_
 ·show lk t (g.on (Du g.h ([d].contains ·))).t=_;simp only[St.on,BN,r,FS.upd,Eff.v,Option.some.injEq];by_cases e:d=t
  ·rw[if_pos e,if_pos e,aG];show some (V.u (U.c (Du g.h ([d].contains ·) d (.sl d 0 f))))=_;unfold Du;rw[if_pos O1,l];rfl
  ·rw[if_neg e,if_neg e];cases a:lk t s.t with
   |none=>simp[St.fs,a]
   |some v=>
    rw[aG,V.on_other o (j.t t v a)];exact a.symm
 ·show lk k (Ds ([d].contains ·) (g.on (Du g.h ([d].contains ·))).h)=_;rw[FZ];simp only[St.on,BN,p,FS.upd,Eff.b,aH];by_cases e:k=d
  ·rw[if_pos (by simpa using e)];cases a:s.fs.h k with
   |none=>rfl
   |some b=>exact absurd e (j.h k b a).1
  ·rw[if_neg (by simpa using e),if_neg (λh=>e h.symm)];cases a:lk k s.h with
   |none=>simp[St.fs,a]
   |some b=>
    rw[aG,Blk.on_other o (j.h k b a).2];exact a.symm
theorem jiL{s:St}{sz a:Nat}{ds:List D}(e:ds.length=a*sz)(b:s.fs.Clean d):
  (((s.new d (.row sz ds true)).put (some d) (vC (.sl d 0 a))).freeze [d]).fs=s.fs.upd ⟨some d,.dat (.slice a ds)⟩:=
 UL e b (HT (d:=some d) (x:= .new (.row sz ds true) (vC (.sl d 0 a))) ⟨b,rfl⟩)
theorem N5{x:Eff}(h:GG T o E=some x):EH P T o E x:=by
 intro s I G K M;unfold GG at h;split at h
 case h_2=>cases h
 case h_1 t b F H=>
  simp only[jzd]at h;obtain⟨d,q,i,hi,e,Q,j,S,l,W,h⟩:=h;split at h
  case isFalse=>cases h
  case isTrue f=>
   simp only[jzd]at h;obtain⟨J,p,h⟩:=h;split at h
   ·cases h
   ·rename_i y;split at h
    case isFalse=>cases h
    case isTrue w=>
     simp only[jzd]at h;obtain⟨m,r,h⟩:=h;split at h
     case isFalse=>cases h
     case isTrue k=>
      cases h;have v:=Sub.evUs I _ _ W;have g:J.mapM (toD (λ_=>false) s.h 4)=some m:=Sub.mapD I _ _ _ _ r;have N:effBsl d j b s.h l=some (.new (.row j.size m true) (vC (.sl d 0 b))):=by
       unfold effBsl;rw[if_pos f,p,aM,if_neg y,if_pos w,g];rfl
      have z:=OW N;have a:DH T o s=some (s.eff (some d) (.new (.row j.size m true) (vC (.sl d 0 b)))):=by
       unfold DH;rw[H];simp only[hi,Q,S,v,aM,q];exact z
      have L:AI (DH T o s) (Frz K):=by
       rw[a,CR];refine⟨[[d]],M _ ?_⟩;rw[q];rw[q]at G;exact jiL k G
      unfold wpOp;rw[H];exact L
def CL(P:Program)(T:AH)(ops:List Oper)(o:Oper)(E:St)(x:Eff):Prop:=
 match o.guard with
 |none=>EH P T o E x
 |some (j,a)=>
  match (ops[j]?).bind (·.dst)with
  |some d=>(∃b,lk d E.t=some (vB b)/\((b=a/\EH P T o E x)\/(b= !a/\x= .val (.tup []))))\/(lk d E.t=some (.tup [])/\x= .val (.tup []))
  |none=>False
theorem Oq{s:St}{v:V}(h:lk d s.t=some v):(s.put (some d) v).fs=s.fs:=by
 rw[C8];refine FS.ext' (λt=> ?_) λk=>rfl;simp only[FS.upd,Option.some.injEq,Eff.v];split
 ·rename_i a;subst a;exact h.symm
 ·rfl
theorem Sub.same{s s':St}(h:E.Sub s)(b:s'.fs=s.fs):E.Sub s':=by
 have:=NA b.symm;exact⟨λk x a=>this.t k x (h.t k x a),λk x a=>this.h k x (h.h k x a)⟩
theorem jcS{ops:List Oper}{x:Eff}(h:CL P T ops o E x){s:St}(i:E.Sub s)(q:x.Free o.dst s.fs)
  (p: ∀s',s'.fs=s.fs.upd ⟨o.dst,x⟩->K s'):Ca P T ops o s (Frz K):=by
 unfold CL at h;unfold Ca;split at h
 ·rename_i m;rw[m];exact h s i q K p
 ·rename_i j a m;rw[m];dsimp only;split at h
  ·rename_i d r;rw[r];dsimp only;rcases h with⟨b,k,e⟩|⟨k,e⟩
   ·have f:=i.t d _ k;rw[f];show EW d a (some (.u (.c (.d (.bool b))))) s (wpOp P T o) (Gr o.dst) (Frz K);rw[jcN];refine⟨λl=> ?_,λl=> ?_⟩
    ·rcases e with⟨_,e⟩|⟨e,_⟩
     ·have g:(s.put (some d) (vB a)).fs=s.fs:=Oq (l ▸ f);exact e _ (Sub.same i g) (g ▸ q) K O3
     grind
    ·rcases e with⟨e,_⟩|⟨_,e⟩
     ·grind
     ·have g:(s.put (some d) (vB !a)).fs=s.fs:=Oq (l ▸ f);refine Frz.of (p _ ?_);rw[C8,g,e]
   ·have f:=i.t d _ k;rw[f,Rm];exact Frz.of (by grind[C8])
  ·exact h.elim
end
theorem Uo{ok a:Nat->Bool}(g: ∀i,ok i=true->a i=true)(h:List (Nat×Blk))(k i off n:Nat):Mo (toD ok h k (.sl i off n)) (toD a h k (.sl i off n)):=λy j=>by
 have f: ∀ok:Nat->Bool,toD ok h k (.sl i off n)=if ok i then (match lk i h with
  |some (.row b e _)=>if (off+n)*b<=e.length then some (.slice n (cut (off*b) (n*b) e)) else none
  |_=>none) else none:=λok=>by cases k<;>rfl
 grind
theorem TP{ok e:Nat->Bool}(f: ∀i,ok i=true->e i=true)(h:List (Nat×Blk)): ∀(k:Nat) (c:C),Mo (toD ok h k c) (toD e h k c)
 |0,.d x=>Mo.refl _
 |k+1,.d x=>Mo.refl _
 |0,.nl=>Mo.refl _
 |k+1,.nl=>Mo.refl _
 |0,.bad=>Mo.refl _
 |k+1,.bad=>Mo.refl _
 |0,.mp q i=>Mo.refl _
 |k+1,.mp q i=>Mo.refl _
 |0,.sl i b n=>Uo f h 0 i b n
 |k+1,.sl i b n=>(by grind[Uo])
 |0,.ptr i b=>λy a=>by
  simp_all[toD,if_pos,if_neg]
 |k+1,.ptr i b=>λy a=>by
  have j: ∀l:List C,Mo (l.mapM (toD ok h k)) (l.mapM (toD e h k)):=λl=>by
   induction l with
   |nil=>simpa using Mo.refl _
   |cons c r o=>
    rw[aI,aI];exact(TP f h k c).bind λ_=>o.bind λ_=>Mo.refl _
  unfold toD at a ⊢;by_cases g:ok i=true
  ·rw[if_pos g]at a;rw[if_pos (f i g)];split at a
   ·exact a
   ·exact(j _).map _ _ a
   ·by_cases m:b=0
    ·rw[if_pos m]at a ⊢;exact(j _).map _ _ a
    grind
   ·cases a
   ·cases a
   ·cases a
  grind
theorem Mo.trans{a b c:Option α}(h:Mo a b)(e:Mo b c):Mo a c:=λx f=>e x (h x f)
theorem Mo.mapM{α β:Type}{f g:α->Option β}(h: ∀x,Mo (f x) (g x)): ∀l:List α,Mo (l.mapM f) (l.mapM g)
 |[]=>by simpa using Mo.refl _
 |c::r=>by
  rw[aI,aI];exact(h c).bind λ_=>(Mo.mapM h r).bind λ_=>Mo.refl _
theorem Mz{E s:St}(a:E.Sub s): ∀(k:Nat) (cs:List C) (i:Nat),i∈DZ E.h k cs->i∈DZ s.h k cs
 |0,_,_,h=>by cases h
 |k+1,cs,i,h=>by
  unfold DZ at h ⊢;rw[List.mem_flatMap]at h ⊢;obtain⟨c,e,hi⟩:=h;refine⟨c,e,?_⟩;split at hi
  ·cases hi
  ·rename_i j g;rcases jzn.1 hi with rfl|hi
   ·simp
   ·refine List.mem_cons_of_mem _ ?_;split at hi
    ·rename_i bs b;rw[a.h j _ b];exact Mz a k bs i hi
    ·rename_i f bs b;rw[a.h j _ b];exact Mz a k bs i hi
    ·cases hi
theorem Ly{s:St}(g:E.Sub s){ids a:List Nat}(hi: ∀i,i∈ids->i∈a)(u:U):Mo (U.toA ids E.h u) (U.toA a s.h u):=by
 have e: ∀c:C,Mo (toD (ids.contains ·) E.h 4 c) (toD (a.contains ·) s.h 4 c):=λc=>
  (Sub.toD g _ 4 c).trans (by grind[TP])
 cases u with
 |c x=>exact(e x).map _
 |agg b=>exact(Mo.mapM e b).map _
 |clo f b=>exact(Mo.mapM e b).map _
def FY(a:List U):Bool:=GD (a.flatMap U.all)
def Ec(d:Option Nat)(a:R):Eff:=match a.rows with|[]=> .val (a.imp (d.getD 0))|b::_=> .new b (a.imp (d.getD 0))
theorem Ui{P:Program}{T:AH}{dst:Option Nat}{g:FuncId}{caps:List D}{b:List U}{i:List A}{a:R}
  (f:E.argsW (E.reachU b) b caps=some i) (p:CallsF P g i a) (k:a.flat=true\/FY b=true) {s:St} (l:E.Sub s) (j:(Ec dst a).Free dst s.fs) 
  (o: ∀s',s'.fs=s.fs.upd ⟨dst,Ec dst a⟩->K s'):DM P dst s (Frz K) g caps b:=by
 left;have e:s.argsW (s.reachU b) b caps=some i:=by
  unfold St.argsW at f ⊢;exact(Mo.mapM (Ly l (Mz l 5 _)) b).map _ _ f
 rw[e,CR,jfi];refine⟨a,p,?_⟩;unfold Jc;refine Frz.of (o _ ?_);have r:s.back dst (s.reachU b) a=s.eff dst (Ec dst a):=by
  unfold St.back;have m:(if a.flat then s else s.freeze (s.reachU b))=s:=by
   split
   ·rfl
   ·rename_i q;rcases k with h|h
    ·exact absurd h q
    ·unfold St.reachU;rw[RZ _ _ _ h];rfl
  dsimp only;rw[m];unfold Ec;cases a.rows<;>rfl
 grind[HT]
theorem jec{P:Program}{T:AH}{o:Oper}{E:St}{f:Operand}{args:Array Operand}{t:Array TypeId}{g:FuncId}{caps:List D}{e:List U}{l:List A}{b:R}
  (r:o.op= .call { callee:= .value f,args:=args,argTypes:=t }) (q:E.evU f=some (.c (.d (.fn g caps)))) (k:args.toList.mapM E.evU=some e)
  (h:E.argsW (E.reachU e) e caps=some l) (p:CallsF P g l b) (i:b.flat=true\/FY e=true):
  EH P T o E (Ec o.dst b):=by
 intro s j a K m;unfold wpOp;rw[r];dsimp only;rw[Sub.evU j f _ q,CR,KV,Mo.mapM (Sub.evU j) _ _ k,CR];exact Ui (T:=T) h p i j a m
theorem jee{P:Program}{T:AH}{o:Oper}{E:St}{f:Operand}{args:Array Operand}{t:Array TypeId}{g:FuncId}{cs:List C}{e:List U}{l:List A}{b:R}
  (r:o.op= .call { callee:= .value f,args:=args,argTypes:=t }) (q:E.evU f=some (.clo g cs)) (k:args.toList.mapM E.evU=some e)
  (h:E.argsW (E.reachU (e++cs.map .c)) (e++cs.map .c) []=some l) (p:CallsF P g l b) (i:b.flat=true\/FY (e++cs.map .c)=true):
  EH P T o E (Ec o.dst b):=by
 intro s j a K m;unfold wpOp;rw[r];dsimp only;rw[Sub.evU j f _ q,CR,Oz,Mo.mapM (Sub.evU j) _ _ k,CR];exact Ui (T:=T) h p i j a m
end Go.Va
