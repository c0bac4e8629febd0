/- a part of the proof -/
import Derived.Test.YtplacedebenpaaaGreatDoorEaf
import Derived.Scope
set_option linter.all false
namespace Go.Va
open _root_.List renaming mapM_cons → aD
open _root_.Option renaming bind_some → aG, map_some → aH
open Go.RowKit
variable [DrC]
variable [Gv]
inductive Eff where
 |val (v:V)
 |new (b:Blk) (v:V)
 |put (i:Nat) (b:Blk)
 |app (k:Nat) (b:Blk) (v:V)
 |dat (x:D)
 deriving Inhabited
def St.eff(d:Option Nat)(e:Eff)(s:St):St:=
 match e with
 | .val v=>s.put d v
 | .new b v=>(s.new (d.getD 0) b).put d v
 | .put i b=>(s.blk i b).put d (.tup [])
 | .app k b v=>((s.drop k).new (d.getD 0) b).put d v
 | .dat x=>s.put d (vC (.d x))
def GD(cs:List C):Bool:=cs.all λc=>c.id?.isNone
def effBsl(d:Nat)(j:TI)(a:Nat)(h:List (Nat×Blk))(l:List (Nat×List C)):Option Eff:=
 if a*j.size<=10000/\a<=10000 then (DE (F3 j.size) (rep a j.zero) l).bind λb=>
  if j.size=1/\b.any EU=true then some (.new (.box b) (vC (.sl d 0 a))) else
  if GD b then (b.mapM (toD (λ_=>false) h 4)).map λe=> .new (.row j.size e true) (vC (.sl d 0 a)) else none
 else none
def GG(T:AH)(o:Oper)(E:St):Option Eff:=
 match o.op with
 | .buildSlice t a b=>o.dst.bind λ_=>(T t).bind λi=>i.sl.bind λe=>(T e).bind λj=>(E.evUs b.toList).bind λl=>
  if a*j.size<=10000/\a<=10000 then (DE (F3 j.size) (rep a j.zero) l).bind λf=>
   if j.size=1/\f.any EU=true then none else
   if GD f then (f.mapM (toD (λ_=>false) E.h 4)).bind λg=>if g.length=a*j.size then some (.dat (.slice a g)) else none else none
  else none
 |_=>none
@[simp]def U.isClo:U->Bool
 | .clo _ _=>true
 |_=>false
def effStore(i:TI)(c:C)(v:U)(g:St):Option Eff:=
 if v.cells.length=i.size/\v.isClo=false then
  match c with
  | .ptr b a=>(lk b g.h).bind λk=>match k with
   | .box e=>if a+v.cells.length<=e.length then some (.put b (.box (splice a v.cells e))) else none
   | .row sz e app=>if GD v.cells then (v.cells.mapM (toD (λ_=>false) g.h 4)).bind λf=>if a+f.length<=e.length then some (.put b (.row sz (splice a f e) app)) else none else none
   | .fbox _ _=>none
   | .mp _=>none
   | .gh _=>none
  |_=>none
 else none
def HG(e:TI)(d:Nat)(cs:List D)(n:Nat)(news:List D)(m:Nat)(f:Blk->V->Eff):Option Eff:=
 if (n+m)*e.bytes<=CP/\n+m<=CP then some (f (.row e.size (cs++news) true) (vC (.sl d 0 (n+m)))) else none
def effApp(e:TI)(d:Nat)(x:C)(news:List D)(m:Nat)(h:List (Nat×Blk)):Option Eff:=
 match x with
 | .nl=>HG e d [] 0 news m .new
 | .sl i a n=>(lk i h).bind λb=>match b with
  | .row sz f app=>if app=true/\a=0/\sz=e.size/\f.length=n*sz then HG e d f n news m (.app i) else none
  |_=>none
 |_=>none
def effBuiltin(T:AH)(b:Builtin)(g:List TypeId)(args:List Operand)(d:Option Nat)(a:St):Option Eff:=
 match b,g,args with
 | .len,[t],[x]=>(T t).bind λi=>match i.arr with
  |some (n,_)=>some (.val (vI .i64 n))
  |none=>(a.evC x).bind λc=>(if i.sl.isSome then lenC c else if Ce i then lenS c else none).map λ(n:Nat)=> .val (vI .i64 (n:Int))
 | .append,[t,f],[x,y]=>
  d.bind λd=>(T t).bind λi=>i.sl.bind λe=>(T e).bind λj=>(a.evC x).bind λc=>(a.evC y).bind λs=>
   if f=t then (a.src j s).bind λp=>effApp j d c p.2 p.1 a.h else none
 | .min,_,x::r=>(a.evI x).bind λp=>(r.mapM a.evI).bind λl=>(DL false p.1 p.2 l).map .val
 | .max,_,x::r=>(a.evI x).bind λp=>(r.mapM a.evI).bind λl=>(DL true p.1 p.2 l).map .val
 |_,_,_=>none
def IX(d:Nat)(j:TI)(l c:Int):Option Eff:=
 if 0<=l/\l<=c/\c*j.bytes<=CP/\c<=CP then (j.zero.mapM (toD (λ_=>false) [] 4)).map λz=> .new (.row j.size (rep l.toNat z) true) (vC (.sl d 0 l.toNat)) else none
def effOp(T:AH)(o:Oper)(g:St):Option Eff:=
 match o.op with
 | .assign (.const (.slice none 0 0))=>o.dst.bind λd=>(T o.type).bind λi=>i.sl.bind λe=>(T e).map λj=> .new (.row j.size [] true) (vC (.sl d 0 0))
 | .move x| .assign x=>(g.ev x).map .val
 | .pick c a b=>(g.evB c).bind λc=>(pickV c (g.ev a) (g.ev b)).map .val
 | .alloc t=>(T t).bind λi=>o.dst.map λd=> .new (.box i.zero) (vC (.ptr d 0))
 | .box t x=>(T t).bind λi=>(g.evU x).bind λu=>if u.cells.length=i.size then o.dst.map λd=> .new (Fq u) (vC (.ptr d 0)) else none
 | .build t k=>(T t).bind λi=>(g.evUs k.toList).bind λl=>(build T i l).map λu=> .val (.u u)
 | .buildSlice t q k=>(T t).bind λi=>i.sl.bind λe=>(T e).bind λj=>(g.evUs k.toList).bind λl=>o.dst.bind λd=>effBsl d j q g.h l
 | .load t a=>(T t).bind λi=>(g.evC a).bind λc=>(g.load i c).map λu=> .val (.u u)
 | .store t a x=>(T t).bind λi=>(g.evC a).bind λc=>(g.evU x).bind λu=>effStore i c u g
 | .nilCheck x=>(g.evC x).bind λc=>(nilChk c).map λc=> .val (vC c)
 | .binOp op t x y _=>(g.ev x).bind λa=>(g.ev y).bind λb=>(binV T op t a b).map .val
 | .unOp .not _ x=>(g.evB x).map λb=> .val (vB !b)
 | .unOp .neg _ x=>(g.evI x).bind λp=>(DJ p.1 (0 - p.2)).map .val
 | .convert s t x=>(T s).bind λj=>(T t).bind λi=>(g.evC x).bind λc=>(convC T g.h j i c).map .val
 | .makeSlice t l c=>(T t).bind λi=>i.sl.bind λe=>(T e).bind λj=>(g.evI l).bind λl=>(g.evI c).bind λc=>o.dst.bind λd=>IX d j l.2 c.2
 | .slice t x lo hi none=>(T t).bind λi=>(g.evC x).bind λc=>(g.evO lo).bind λl=>(g.evO hi).bind λh=>
   (match i.sl with|some e=>(T e).bind λj=>sliceV g.h c l h j.size|none=>if Ce i then sliceS c l h else none).map λv=> .val (vC v)
 | .fieldAddr t x f=>(T t).bind λi=>(g.evC x).bind λc=>(i.flds[f]?).bind λp=>(T p.2).bind λj=>if j.size=0 then none else (fldAddr p.1 c).map λc=> .val (vC c)
 | .field t x f=>(T t).bind λi=>(g.evU x).bind λu=>(fieldOf T i f u).map λu=> .val (.u u)
 | .indexAddr t x i=>(T t).bind λr=>(g.evC x).bind λc=>(g.evI i).bind λn=>(idxAddr T g.h r n.2 c).map λc=> .val (vC c)
 | .index t x i=>(T t).bind λr=>(g.evU x).bind λu=>(g.evI i).bind λn=>(indexOf T r n.2 u).map λu=> .val (.u u)
 | .extract x i=>(g.ev x).bind λv=>(tupAt i v).map λu=> .val (.u u)
 | .makeFunc (.func f) first m=>if first.toList=[] then (m.toList.mapM g.evC).map λw=> .val (.u (clo [] f w)) else none
 | .call { callee:= .builtin b,args,argTypes }=>effBuiltin T b argTypes.toList args.toList o.dst g
 |_=>none
def Mo{α:Type}(a b:Option α):Prop:= ∀x,a=some x->b=some x
variable{α:Type}{a:St}{d:Nat}{j:TI}
theorem Mo.refl(a:Option α):Mo a a:=λ_ h=>h
theorem Mo.bind{β:Type}{a b:Option α}{f g:α->Option β}(h:Mo a b)(j: ∀x,Mo (f x) (g x)):Mo (a.bind f) (b.bind g):=λy i=>by
 cases e:a with
 |none=>grind
 |some x=>rw[e]at i;rw[h x e];exact j x y i
theorem Mo.map{β:Type}{a b:Option α}(f:α->β)(h:Mo a b):Mo (a.map f) (b.map f):=λy g=>by
 cases e:a with
 |none=>grind
 |some x=>rw[e]at g;rw[h x e];exact g
theorem Mo.ite{c:Prop}[Decidable c]{a b e f:Option α}(h:Mo a b)(g:Mo e f):Mo (if c then a else e) (if c then b else f):=by
 grind
theorem Mo.none(b:Option α):Mo none b:=λ_ h=>by cases h
structure St.Sub (e s:St):Prop where
 t: ∀k,Mo (lk k e.t) (lk k s.t)
 h: ∀k,Mo (lk k e.h) (lk k s.h)
section
variable {e s:St} (hs:e.Sub s)
include hs
theorem Sub.ev(x:Operand):Mo (e.ev x) (s.ev x):=by
 cases x with
 |tmp t=>exact hs.t t
 |_=>exact Mo.refl _
theorem Sub.evU(x:Operand):Mo (e.evU x) (s.evU x):=λy a=>by
 unfold St.evU at a ⊢;split at a
 ·rename_i u h;rw[Sub.ev hs x _ h];exact a
 ·cases a
theorem Sub.evC(x:Operand):Mo (e.evC x) (s.evC x):=λy a=>by
 unfold St.evC at a ⊢;split at a
 ·rename_i u h;rw[Sub.ev hs x _ h];exact a
 ·cases a
theorem Sub.evI(x:Operand):Mo (e.evI x) (s.evI x):=λy a=>by
 unfold St.evI at a ⊢;split at a
 ·rename_i k n h;rw[Sub.ev hs x _ h];exact a
 ·cases a
theorem Sub.evB(x:Operand):Mo (e.evB x) (s.evB x):=λy a=>by
 unfold St.evB at a ⊢;split at a
 ·rename_i b h;rw[Sub.ev hs x _ h];exact a
 ·cases a
theorem Sub.evO(x:Option Operand):Mo (e.evO x) (s.evO x):=by
 cases x with
 |none=>exact Mo.refl _
 |some x=>exact(Sub.evI hs x).map _
theorem Sub.evUs: ∀l,Mo (e.evUs l) (s.evUs l)
 |[]=>Mo.refl _
 |(_,x)::r=>(Sub.evU hs x).bind λ_=>(Sub.evUs r).map _
theorem Sub.isRow(i sz:Nat)(h:isRow e.h i sz=true):isRow s.h i sz=true:=by
 unfold Va.isRow at h ⊢;split at h
 ·rename_i a;rw[hs.h i _ a];exact h
 ·rename_i a;rw[hs.h i _ a];exact h
 ·cases h
theorem Sub.toD_sl(ok:Nat->Bool)(k i off n:Nat):Mo (Va.toD ok e.h k (.sl i off n)) (Va.toD ok s.h k (.sl i off n)):=λy a=>by
 have j: ∀h:List (Nat×Blk),Va.toD ok h k (.sl i off n)=if ok i then (match lk i h with
  |some (.row b f _)=>if (off+n)*b<=f.length then some (.slice n (cut (off*b) (n*b) f)) else none
  |_=>none) else none:=λh=>by cases k<;>rfl
 rw[j]at a ⊢;by_cases l:ok i=true
 ·rw[if_pos l]at a ⊢;split at a
  ·rename_i g;rw[hs.h i _ g];exact a
  ·cases a
 grind
theorem Sub.toD(ok:Nat->Bool): ∀(k:Nat) (c:C),Mo (Va.toD ok e.h k c) (Va.toD ok s.h k c)
 |0,.d x=>Mo.refl _
 |k+1,.d x=>Mo.refl _
 |0,.nl=>Mo.refl _
 |k+1,.nl=>Mo.refl _
 |0,.bad=>Mo.refl _
 |k+1,.bad=>Mo.refl _
 |0,.mp q i=>Mo.refl _
 |k+1,.mp q i=>Mo.refl _
 |0,.sl i a n=>Sub.toD_sl hs ok 0 i a n
 |k+1,.sl i a n=>(by grind[Sub.toD_sl])
 |0,.ptr i a=>Mo.refl _
 |k+1,.ptr i a=>λy b=>by
  have g: ∀l:List C,Mo (l.mapM (Va.toD ok e.h k)) (l.mapM (Va.toD ok s.h k)):=λl=>by
   induction l with
   |nil=>simpa using Mo.refl _
   |cons c r o=>
    rw[aD,aD];exact(Sub.toD ok k c).bind λ_=>o.bind λ_=>Mo.refl _
  unfold Va.toD at b ⊢;by_cases m:ok i=true
  ·rw[if_pos m]at b ⊢;split at b
   ·rename_i f;rw[hs.h i _ f];exact b
   ·rename_i f;rw[hs.h i _ f];exact(g _).map _ _ b
   ·rename_i f;rw[hs.h i _ f];dsimp only;by_cases j:a=0
    ·rw[if_pos j]at b ⊢;exact(g _).map _ _ b
    grind
   ·cases b
   ·cases b
   ·cases b
  grind
theorem Sub.sliceV(c:C)(l h:Option Int)(sz:Nat):Mo (sliceV e.h c l h sz) (sliceV s.h c l h sz):=λy a=>by
 unfold Va.sliceV at a ⊢;split at a
 ·rename_i i f n;by_cases b:Va.isRow e.h i sz=true
  ·rw[if_pos b]at a;simp only[Sub.isRow hs i sz b,if_true];exact a
  grind
 ·exact a
 ·exact a
 ·cases a
theorem Sub.idxSl(sz:Nat)(i:Int)(c:C):Mo (idxSl e.h sz i c) (idxSl s.h sz i c):=λy a=>by
 unfold Va.idxSl at a ⊢;split at a
 ·rename_i b g n;by_cases f:0<=i/\i<n/\Va.isRow e.h b sz=true
  ·rw[if_pos f]at a;simp only[f.1,f.2.1,Sub.isRow hs b sz f.2.2,and_self,if_true];exact a
  grind
 ·exact a
 ·cases a
theorem Sub.idxAddr(T:AH)(i:TI)(n:Int)(c:C):Mo (idxAddr T e.h i n c) (idxAddr T s.h i n c):=by
 unfold Va.idxAddr;split
 ·exact Mo.refl _
 ·exact(Mo.refl _).bind λ_=>(Mo.refl _).bind λ_=>Sub.idxSl hs _ _ _
theorem Sub.load(i:TI)(c:C):Mo (e.load i c) (s.load i c):=by
 unfold St.load;split
 ·exact(hs.h _).bind λ_=>Mo.refl _
 ·exact Mo.refl _
 ·exact Mo.refl _
theorem Sub.convC(T:AH)(j i:TI)(c:C):Mo (convC T e.h j i c) (convC T s.h j i c):=by
 unfold Va.convC;split
 ·exact Mo.refl _
 ·exact Mo.ite ((hs.h _).bind λ_=>Mo.refl _) (Mo.refl _)
 ·exact Mo.refl _
theorem Sub.mapD(ok:Nat->Bool)(k:Nat): ∀l:List C,Mo (l.mapM (Va.toD ok e.h k)) (l.mapM (Va.toD ok s.h k))
 |[]=>by simpa using Mo.refl _
 |c::r=>by
  rw[aD,aD];exact(Sub.toD hs ok k c).bind λ_=>(Sub.mapD ok k r).bind λ_=>Mo.refl _
theorem Sub.effBsl(d:Nat)(j:TI)(a:Nat)(l:List (Nat×List C)):Mo (effBsl d j a e.h l) (effBsl d j a s.h l):=by
 unfold Va.effBsl;exact Mo.ite ((Mo.refl _).bind λ_=>Mo.ite (Mo.refl _) (Mo.ite ((Sub.mapD hs _ _ _).map _) (Mo.refl _))) (Mo.refl _)
theorem Sub.effStore(i:TI)(c:C)(v:U):Mo (effStore i c v e) (effStore i c v s):=by
 unfold Va.effStore;refine Mo.ite ?_ (Mo.refl _);split
 ·refine(hs.h _).bind λk=> ?_;split
  ·exact Mo.refl _
  ·exact Mo.ite ((Sub.mapD hs _ _ _).bind λ_=>Mo.refl _) (Mo.refl _)
  ·exact Mo.refl _
  ·exact Mo.refl _
  ·exact Mo.refl _
 ·exact Mo.refl _
theorem Sub.pickV(c:Bool)(a b e f:Option V)(h:Mo a e)(g:Mo b f):Mo (pickV c a b) (pickV c e f):=by
 grind[Va.pickV]
theorem Sub.src(j:TI)(c:C):Mo (e.src j c) (s.src j c):=by
 unfold St.src;split
 ·exact Mo.refl _
 ·exact Mo.refl _
 ·exact(hs.h _).bind λ_=>Mo.refl _
 ·exact Mo.refl _
theorem Sub.effApp(j:TI)(d:Nat)(c:C)(news:List D)(m:Nat):Mo (effApp j d c news m e.h) (effApp j d c news m s.h):=by
 unfold Va.effApp;split
 ·exact Mo.refl _
 ·exact(hs.h _).bind λ_=>Mo.refl _
 ·exact Mo.refl _
theorem Sub.evL: ∀l:List Operand,Mo (l.mapM e.evI) (l.mapM s.evI)
 |[]=>by simpa using Mo.refl _
 |c::r=>by
  rw[aD,aD];exact(Sub.evI hs c).bind λ_=>(Sub.evL r).bind λ_=>Mo.refl _
theorem Sub.evLC: ∀l:List Operand,Mo (l.mapM e.evC) (l.mapM s.evC)
 |[]=>by simpa using Mo.refl _
 |c::r=>by
  rw[aD,aD];exact(Sub.evC hs c).bind λ_=>(Sub.evLC r).bind λ_=>Mo.refl _
theorem Sub.effBuiltin(T:AH)(b:Builtin)(a:List TypeId)(args:List Operand)(d:Option Nat):Mo (effBuiltin T b a args d e) (effBuiltin T b a args d s):=by
 unfold Va.effBuiltin;split
 ·refine(Mo.refl _).bind λi=> ?_;split
  ·exact Mo.refl _
  ·exact(Sub.evC hs _).bind λ_=>Mo.refl _
 ·exact(Mo.refl _).bind λ_=>(Mo.refl _).bind λ_=>(Mo.refl _).bind λ_=>(Mo.refl _).bind λ_=>(Sub.evC hs _).bind λ_=>(Sub.evC hs _).bind λ_=>
   Mo.ite ((Sub.src hs _ _).bind (by grind[Sub.effApp])) (Mo.refl _)
 ·exact(Sub.evI hs _).bind λ_=>(Sub.evL hs _).bind λ_=>Mo.refl _
 ·exact(Sub.evI hs _).bind λ_=>(Sub.evL hs _).bind λ_=>Mo.refl _
 ·exact Mo.refl _
theorem Sub.effOp(T:AH)(o:Oper):Mo (effOp T o e) (effOp T o s):=by
 unfold Va.effOp;split
 ·exact Mo.refl _
 ·exact(Sub.ev hs _).map _
 ·exact(Sub.ev hs _).map _
 ·exact(Sub.evB hs _).bind λ_=>(Sub.pickV hs _ _ _ _ _ (Sub.ev hs _) (Sub.ev hs _)).map _
 ·exact Mo.refl _
 ·exact(Mo.refl _).bind λ_=>(Sub.evU hs _).bind λ_=>Mo.refl _
 ·exact(Mo.refl _).bind λ_=>(Sub.evUs hs _).bind λ_=>Mo.refl _
 ·exact(Mo.refl _).bind λ_=>(Mo.refl _).bind λ_=>(Mo.refl _).bind λ_=>(Sub.evUs hs _).bind λ_=>(Mo.refl _).bind (by grind[Sub.effBsl])
 ·exact(Mo.refl _).bind λ_=>(Sub.evC hs _).bind λ_=>(Sub.load hs _ _).map _
 ·exact(Mo.refl _).bind λ_=>(Sub.evC hs _).bind λ_=>(Sub.evU hs _).bind λ_=>Sub.effStore hs _ _ _
 ·exact(Sub.evC hs _).bind λ_=>Mo.refl _
 ·exact(Sub.ev hs _).bind λ_=>(Sub.ev hs _).bind λ_=>Mo.refl _
 ·exact(Sub.evB hs _).map _
 ·exact(Sub.evI hs _).bind λ_=>Mo.refl _
 ·exact(Mo.refl _).bind λ_=>(Mo.refl _).bind λ_=>(Sub.evC hs _).bind λ_=>(Sub.convC hs _ _ _ _).map _
 ·exact(Mo.refl _).bind λ_=>(Mo.refl _).bind λ_=>(Mo.refl _).bind λ_=>(Sub.evI hs _).bind λ_=>(Sub.evI hs _).bind λ_=>Mo.refl _
 ·refine(Mo.refl _).bind λ_=>(Sub.evC hs _).bind λ_=>(Sub.evO hs _).bind λ_=>(Sub.evO hs _).bind λ_=>Mo.map _ ?_;split
  ·exact(Mo.refl _).bind (by grind[Sub.sliceV])
  ·exact Mo.refl _
 ·exact(Mo.refl _).bind λ_=>(Sub.evC hs _).bind λ_=>Mo.refl _
 ·exact(Mo.refl _).bind λ_=>(Sub.evU hs _).bind λ_=>Mo.refl _
 ·exact(Mo.refl _).bind λ_=>(Sub.evC hs _).bind λ_=>(Sub.evI hs _).bind λ_=>(Sub.idxAddr hs _ _ _ _).map _
 ·exact(Mo.refl _).bind λ_=>(Sub.evU hs _).bind λ_=>(Sub.evI hs _).bind λ_=>Mo.refl _
 ·exact(Sub.ev hs _).bind λ_=>Mo.refl _
 ·exact Mo.ite ((Sub.evLC hs _).map _) (Mo.refl _)
 ·grind[Sub.effBuiltin]
 ·exact Mo.refl _
end
theorem RZ(h:List (Nat×Blk))(k:Nat)(cs:List C)(a:cs.all (λc=>c.id?.isNone)=true):DZ h k cs=[]:=by
 cases k with
 |zero=>rfl
 |succ k=>
  grind[DZ,List.flatMap_eq_nil_iff,Option.isNone_iff_eq_none]
theorem QY{cs:List C}{ds:List D}(b:GD cs=true)(h:cs.mapM (toD (λ_=>false) a.h 4)=some ds):a.shut cs=some (ds,a):=by
 unfold St.shut;rw[RZ _ _ _ b];unfold St.sealW;have:(λx=>([]:List Nat).contains x)=λ_=>false:=by funext x;rfl
 rw[this,h];rfl
theorem OW{b:Nat}{f:St}{l:List (Nat×List C)}{x:Eff}(h:effBsl d j b f.h l=some x):FG j b (some d) f l=some (f.eff (some d) x):=by
 unfold effBsl at h;unfold FG;split at h
 ·rename_i k;rw[if_pos k];obtain⟨o,g,a⟩:=jzd.1 h;rw[g];simp only[aG];split at a
  ·rename_i e;rw[if_pos e];cases a;rfl
  ·rename_i e;rw[if_neg e];split at a
   ·rename_i m;obtain⟨p,i,rfl⟩:=jze.1 a;rw[QY m i];rfl
   ·cases a
 ·cases h
theorem jgd{i:TI}{c:C}{v:U}{f:St}{d:Option Nat}{x:Eff}(h:effStore i c v f=some x):((f.store i c v).map λs=>s.put d (.tup []))=some (f.eff d x):=by
 unfold effStore at h;unfold St.store;split at h
 ·rename_i o;rw[if_pos o.1];split at h
  ·obtain⟨k,l,a⟩:=jzd.1 h;dsimp only;rw[l];simp only[aG];rw[show ∀b e,St.storeU b e v f k=St.storeB b e v.cells f k from λb e=>by cases v<;>first|rfl|simp_all];split at a
   ·split at a
    ·rename_i j;cases a;simp only[St.storeB,if_pos j,aH];rfl
    ·cases a
   ·split at a
    ·rename_i p;obtain⟨q,m,g⟩:=jzd.1 a;split at g
     ·rename_i j;cases g;simp only[St.storeB];rw[QY p m];simp only[aG];rw[l];simp only[if_pos j,aH];rfl
     ·cases g
    ·cases a
   ·cases a
   ·cases a
   ·cases a
  ·cases h
 ·cases h
theorem jb2{c:C}{news:List D}{m:Nat}{g:St}{x:Eff}(h:effApp j d c news m g.h=some x):g.app j d c news m=some (g.eff (some d) x):=by
 unfold effApp at h;unfold St.app;split at h
 ·unfold HG at h;unfold St.appGo;split at h
  ·rename_i e;rw[if_pos e];cases h;rfl
  ·cases h
 ·obtain⟨b,i,a⟩:=jzd.1 h;dsimp only;rw[i];simp only[aG];split at a
  ·split at a
   ·rename_i e;dsimp only;rw[if_pos e];unfold HG at a;unfold St.appGo;split at a
    ·rename_i f;rw[if_pos f];cases a;rfl
    ·cases a
   ·cases a
  ·cases a
 ·cases h
theorem jay(h a:List (Nat×Blk)): ∀(k:Nat) (c:C),toD (λ_=>false) h k c=toD (λ_=>false) a k c
 |0,c=>by cases c<;>simp[toD]
 |k+1,c=>by cases c<;>simp[toD]
theorem XK(h:List (Nat×Blk)): ∀(k:Nat) (c:C) (x:D),toD (λ_=>false) [] k c=some x->toD (λ_=>true) h k c=some x
 |0,c,x,a=>by cases c<;>simp_all [toD]
 |k+1,c,x,a=>by cases c<;>simp_all [toD]
theorem TN(h:List (Nat×Blk))(k:Nat): ∀(cs:List C) (ds:List D),cs.mapM (toD (λ_=>false) [] k)=some ds->cs.mapM (toD (λ_=>true) h k)=some ds
 |[],ds,a=>by simpa using a
 |c::r,ds,a=>by
  simp only[aD,Option.pure_def,Option.bind_eq_bind,jzd,Option.some.injEq]at a ⊢;obtain⟨x,e,b,f,rfl⟩:=a;exact⟨x,XK h k c x e,b,TN h k r b f,rfl⟩
theorem jig(h a:List (Nat×Blk))(f:FuncId)(cs:List C):clo h f cs=clo a f cs:=by
 unfold clo;have:(toD (λ_=>false) h 4)=toD (λ_=>false) a 4:=funext λc=>jay h a 4 c;rw[this]
theorem Cj{a:Option α}{f:α->V}{b:St}{d:Option Nat}{x:Eff}(h:a.map (λy=>Eff.val (f y))=some x):(a.map λy=>b.put d (f y))=some (b.eff d x):=by
 obtain⟨y,rfl,rfl⟩:=jze.1 h;rfl
theorem AY{a:Option α}{f:α->Option Eff}{g:α->Option St}{r:St}{x:Eff}(h:a.bind f=some x)(b: ∀y,f y=some x->g y=some r):a.bind g=some r:=by
 obtain⟨y,rfl,e⟩:=jzd.1 h;exact b y e
theorem Ql{o:Option Nat}{b:Blk}{c:Nat->C}{x:Eff}(h:(o.map λd=>Eff.new b (vC (c d)))=some x):mk o a b c=some (a.eff o x):=by
 cases o with
 |none=>cases h
 |some d=>cases h;rfl
theorem Zf{l c:Int}{x:Eff}(h:IX d j l c=some x):FC j (some d) a l c=some (a.eff (some d) x):=by
 unfold IX at h;unfold FC;split at h
 ·rename_i b;rw[if_pos b];obtain⟨z,e,rfl⟩:=jze.1 h;have:j.zero.mapM a.cD=some z:=TN a.h 4 _ _ e;rw[this];rfl
 ·cases h
theorem jiF{T:AH}{b:Builtin}{f:List TypeId}{args:List Operand}{d:Option Nat}{e:St}{x:Eff}(h:effBuiltin T b f args d e=some x):FK T b f args d e=some (e.eff d x):=by
 unfold effBuiltin at h;unfold FK;split at h
 ·refine AY h λi h=> ?_;unfold G3;split at h
  ·rename_i a;rw[a];cases h;rfl
  ·rename_i a;rw[a];exact AY h λ_ h=>Cj h
 ·obtain⟨k,g,h⟩:=jzd.1 h;subst g;simp only[aG];refine AY h λ_ h=>AY h λ_ h=>AY h λ_ h=>AY h λ_ h=>AY h λ_ h=> ?_;split at h
  ·rename_i j;rw[if_pos j];grind[AY,jb2]
  ·cases h
 ·exact AY h λ_ h=>AY h λ_ h=>Cj h
 ·exact AY h λ_ h=>AY h λ_ h=>Cj h
 ·cases h
theorem jkv{T:AH}{o:Oper}{f:St}{x:Eff}(h:effOp T o f=some x):DH T o f=some (f.eff o.dst x):=by
 unfold effOp at h;unfold DH;split at h
 ·rename_i a;rw[a];obtain⟨d,k,h⟩:=jzd.1 h;rw[k];unfold GH;simp only[aG];refine AY h λ_ h=>AY h λ_ h=> ?_;obtain⟨j,q,rfl⟩:=jze.1 h;rw[q];rfl
 ·rename_i a;rw[a];exact Cj h
 ·rename_i l a;rw[a];split
  ·rename_i b;cases b;exact(l rfl).elim
  ·rename_i b;cases b
  ·rename_i b;cases b;exact Cj h
  case h_32=>exact(‹∀x:Operand,Op.assign _=Op.assign x->False› _ rfl).elim
  all_goals (rename_i b;cases b)
 ·rename_i a;rw[a];exact AY h λ_ h=>Cj h
 ·grind[AY,Ql]
 ·rename_i a;rw[a];refine AY h λ_ h=>AY h λ_ h=> ?_;split at h
  ·rename_i g;rw[if_pos g];exact Ql h
  ·cases h
 ·rename_i a;rw[a];exact AY h λ_ h=>AY h λ_ h=>Cj h
 ·rename_i a;rw[a];refine AY h λ_ h=>AY h λ_ h=>AY h λ_ h=>AY h λ_ h=> ?_;obtain⟨d,k,h⟩:=jzd.1 h;grind[OW]
 ·rename_i a;rw[a];exact AY h λ_ h=>AY h λ_ h=>Cj h
 ·grind[AY,jgd]
 ·rename_i a;rw[a];exact AY h λ_ h=>Cj h
 ·rename_i y _ a;rw[a];dsimp only;rw[if_neg (λe=>by
   obtain⟨_,_,h⟩:=jzd.1 h;obtain⟨_,m,_⟩:=jzd.1 h;unfold Ga at e;split at e
   ·cases m
   ·cases e)]
  exact AY h λ_ h=>AY h λ_ h=>Cj h
 ·rename_i a;rw[a];exact Cj h
 ·rename_i a;rw[a];exact AY h λ_ h=>Cj h
 ·rename_i a;rw[a];exact AY h λ_ h=>AY h λ_ h=>AY h λ_ h=>Cj h
 ·rename_i a;rw[a];refine AY h λ_ h=>AY h λ_ h=>AY h λ_ h=>AY h λ_ h=>AY h λ_ h=> ?_;obtain⟨d,k,h⟩:=jzd.1 h;grind[Zf]
 ·rename_i a;rw[a];exact AY h λ_ h=>AY h λ_ h=>AY h λ_ h=>AY h λ_ h=>Cj h
 ·rename_i a;rw[a];refine AY h λ_ h=>AY h λ_ h=>AY h λ_ h=>AY h λ_ h=> ?_;split at h
  ·cases h
  ·rename_i g;rw[if_neg g];exact Cj h
 ·rename_i a;rw[a];exact AY h λ_ h=>AY h λ_ h=>Cj h
 ·rename_i a;rw[a];exact AY h λ_ h=>AY h λ_ h=>AY h λ_ h=>Cj h
 ·rename_i a;rw[a];exact AY h λ_ h=>AY h λ_ h=>AY h λ_ h=>Cj h
 ·rename_i a;rw[a];exact AY h λ_ h=>Cj h
 ·rename_i a;rw[a];dsimp only;split at h
  ·rename_i p;rw[if_pos p];obtain⟨r,i,rfl⟩:=jze.1 h;rw[i,jig [] f.h];rfl
  ·cases h
 ·grind[jiF]
 ·cases h
end Go.Va
namespace Go.Va
open Go.RowKit
variable [DrC]
variable [Gv]
structure FS where
 t:Nat->Option V
 h:Nat->Option Blk
def St.fs(s:St):FS:=⟨λk=>lk k s.t,λk=>lk k s.h⟩
def Eff.v:Eff->V
 | .val v=>v
 | .new _ v=>v
 | .put _ _=> .tup []
 | .app _ _ v=>v
 | .dat x=>vC (.d x)
def Eff.b(d:Option Nat):Eff->Nat->Option (Option Blk)
 | .val _,_=>none
 | .dat _,_=>none
 | .new b _,k=>if d.getD 0=k then some (some b) else none
 | .put i b,k=>if i=k then some (some b) else none
 | .app i b _,k=>if d.getD 0=k then some (some b) else if i=k then some none else none
structure Step where
 d:Option Nat
 x:Eff
 deriving Inhabited
def Step.hits(s:Step)(k:Nat):Prop:=(s.x.b s.d k).isSome=true
def FS.upd(F:FS)(s:Step):FS:=
 ⟨λt=>if s.d=some t then some s.x.v else F.t t,λk=>(s.x.b s.d k).getD (F.h k)⟩
def FS.run(F:FS)(l:List Step):FS:=l.foldl FS.upd F
structure Step.Indep (s s':Step):Prop where
 d: ∀t,s.d=some t->s'.d≠some t
 h: ∀k,s.hits k-> ¬s'.hits k
theorem FS.ext'{F G:FS}(a: ∀t,F.t t=G.t t)(b: ∀t,F.h t=G.h t):F=G:=by
 cases F;cases G;simp only[FS.mk.injEq];grind
theorem Ma{s:Step}{k:Nat}(h: ¬s.hits k):s.x.b s.d k=none:=by
 unfold Step.hits at h;simp_all
theorem FS.upd_comm(F:FS){s s':Step}(h:s.Indep s'):(F.upd s).upd s'=(F.upd s').upd s:=by
 refine FS.ext' (λt=> ?_) λk=> ?_
 ·simp only[FS.upd];by_cases a:s.d=some t
  ·have:=h.d t a;simp[a,this]
  ·simp[a]
 ·simp only[FS.upd];by_cases b:s.hits k
  ·rw[Ma (h.h k b)];rfl
  ·rw[Ma b];rfl
theorem FS.run_append(F:FS)(l m:List Step):F.run (l++m)=(F.run l).run m:=by simp[FS.run]
theorem FS.run_late(F:FS)(s:Step): ∀(l m:List Step),(∀s'∈m,s'.Indep s)->(F.run (l++m)).upd s=F.run (l++s::m)
 |l,[],_=>by simp[FS.run]
 |l,a::m,h=>by
  have f:=FS.run_late F s (l++[a]) m λs' b=>h s' (by simp[b]);rw[show l++a::m=l++[a]++m by simp,f];have e:=FS.upd_comm (F.run l) (h a O1);simp only[FS.run_append]at e ⊢;show((((F.run l).upd a).upd s).run m)=((((F.run l).upd s).upd a).run m);rw[e]
theorem FS.run_h(F:FS)(k:Nat): ∀l:List Step,(∀s∈l,¬s.hits k)->(F.run l).h k=F.h k
 |[],_=>rfl
 |s::l,h=>by
  show((F.upd s).run l).h k=_;rw[FS.run_h (F.upd s) k l λa hs=>h a (by simp[hs])];simp only[FS.upd,Ma (h s O1),Option.getD_none]
theorem FS.upd_t(F G:FS)(s:Step)(t:Nat)(h:F.t t=G.t t):(F.upd s).t t=(G.upd s).t t:=by
 simp[FS.upd,h]
theorem FS.upd_h(F G:FS)(s:Step)(k:Nat)(h:F.h k=G.h k):(F.upd s).h k=(G.upd s).h k:=by
 grind[FS.upd]
theorem FS.run_t_filter(p:Nat->Bool)(f:Nat->Step)(t:Nat): ∀(l:List Nat) (F G:FS),F.t t=G.t t->(∀j∈l,p j=false->(f j).d≠some t)->
  (F.run (l.map f)).t t=(G.run ((l.filter p).map f)).t t
 |[],_,_,h,_=>h
 |j::l,F,G,h,b=>by
  rw[List.filter_cons];split
  ·exact FS.run_t_filter p f t l (F.upd (f j)) (G.upd (f j)) (FS.upd_t _ _ _ _ h) λe a=>b e (by simp[a])
  ·rename_i g;refine FS.run_t_filter p f t l (F.upd (f j)) G ?_ λe a=>b e (by simp[a]);have:=b j O1 (by simpa using g);simp[FS.upd,this,h]
theorem FS.run_h_filter(p:Nat->Bool)(f:Nat->Step)(k:Nat): ∀(l:List Nat) (F G:FS),F.h k=G.h k->(∀j∈l,p j=false-> ¬(f j).hits k)->
  (F.run (l.map f)).h k=(G.run ((l.filter p).map f)).h k
 |[],_,_,h,_=>h
 |j::l,F,G,h,b=>by
  rw[List.filter_cons];split
  ·exact FS.run_h_filter p f k l (F.upd (f j)) (G.upd (f j)) (FS.upd_h _ _ _ _ h) λe a=>b e (by simp[a])
  ·rename_i g;refine FS.run_h_filter p f k l (F.upd (f j)) G ?_ λe a=>b e (by simp[a]);have:=FS.run_h F k [f j] (by simpa using b j O1 (by simpa using g));exact this.trans h
end Go.Va
namespace Go.Va
open _root_.List renaming range → aD, filter_append → aG, filter_congr → aH, filter_cons → aI, map_append → aJ, range_add → aL, mem_range → aM
open Go.RowKit
variable [DrC]
variable [Gv]
variable{i:Nat}
theorem LF{n:Nat}(h:i<n):aD n=aD i++i::(aD (n - i - 1)).map (i+1+ ·):=by
 have a:n=i+(1+(n - i - 1)):=O
 conv=>lhs;rw[a]
 rw[aL,aL];simp[Function.comp_def,Nat.add_assoc]
def Co(n:Nat)(L:Nat->Bool):List Nat:=(aD n).filter L
theorem PY{n:Nat}(h:i<n){L L':Nat->Bool}(hi:L i=false)(a:L' i=true)(b: ∀j,j≠i->L' j=L j):
  ∃A B,Co n L=A++B/\Co n L'=A++i::B/\ ∀j∈B,i<j/\j<n/\L j=true:=by
 refine⟨(aD i).filter L,((aD (n - i - 1)).map (i+1+ ·)).filter L,?_,?_,?_⟩
 ·unfold Co;rw[LF h,aG,aI,if_neg (by simp[hi])]
 ·unfold Co;rw[LF h,aG,aI,if_pos a];congr 1
  ·grind[aH]
  ·congr 1;refine aH λj e=>b j ?_;obtain⟨k,_,rfl⟩:=jzk.1 e;omega
 grind
structure Plan (F0:FS) (n:Nat) (f:Nat->Step) (E:Nat->St) (pred:Nat->Nat->Bool):Prop where
 lt: ∀j i,pred j i=true->j<i
 ind: ∀i j,i<j->j<n->pred i j=false->(f j).Indep (f i)
 t: ∀i,i<n-> ∀t v,lk t (E i).t=some v->(F0.run ((aD i).map f)).t t=some v/\ ∀j,j<n->j≠i->pred j i=false->pred i j=false->(f j).d≠some t
 h: ∀i,i<n-> ∀k b,lk k (E i).h=some b->(F0.run ((aD i).map f)).h k=some b/\ ∀j,j<n->j≠i->pred j i=false->pred i j=false-> ¬(f j).hits k
section
variable {F0:FS} {n:Nat} {f:Nat->Step} {E:Nat->St} {pred:Nat->Nat->Bool} {L:Nat->Bool}
theorem Plan.filter_eq(e:Plan F0 n f E pred)(hi:i<n)(m: ∀j,pred j i=true->L j=true):
  (aD i).filter (λj=>pred j i)=(Co n L).filter (λj=>pred j i):=by
 unfold Co;rw[List.filter_filter,LF hi,aG,aI];have g:(pred i i&&L i)=false:=by
  cases h:pred i i with
  |false=>rfl
  |true=>exact absurd (e.lt i i h) (Nat.lt_irrefl i)
 rw[if_neg (by simp[g])];have l:((aD (n - i - 1)).map (i+1+ ·)).filter (λa=>pred a i&&L a)=[]:=by
  rw[List.filter_eq_nil_iff];intro j b;obtain⟨k,_,rfl⟩:=jzk.1 b;cases h:pred (i+1+k) i with
  |false=>simp[h]
  |true=>exact absurd (e.lt _ _ h) O
 rw[l,List.append_nil];refine aH λj b=> ?_;simp_all
theorem Plan.sub(a:Plan F0 n f E pred)(hi:i<n)(w:L i=false)(r: ∀j,pred j i=true->L j=true)(y: ∀j,L j=true-> ∀k,pred k j=true->L k=true)
  {s:St} (hs:s.fs=F0.run ((Co n L).map f)):(E i).Sub s:=by
 have q: ∀j∈Co n L,j<n/\L j=true:=λj g=>by
  obtain⟨p,l⟩:=List.mem_filter.1 g;grind
 refine⟨λt v x=> ?_,λk b e=> ?_⟩
 ·obtain⟨p,l⟩:=a.t i hi t v x;have m:=FS.run_t_filter (λj=>pred j i) f t (aD i) F0 F0 rfl λj g o=>by
   have:=aM.1 g;refine l j O O o ?_;cases h:pred i j with
   |false=>rfl
   |true=>exact absurd (a.lt _ _ h) O
  have e:=FS.run_t_filter (λj=>pred j i) f t (Co n L) F0 F0 rfl O3;rw[a.filter_eq hi r,<-e]at m;have:s.fs.t t=some v:=O3;exact this
 ·obtain⟨p,l⟩:=a.h i hi k b e;have m:=FS.run_h_filter (λj=>pred j i) f k (aD i) F0 F0 rfl λj g o=>by
   have:=aM.1 g;refine l j O O o ?_;cases h:pred i j with
   |false=>rfl
   |true=>exact absurd (a.lt _ _ h) O
  have e:=FS.run_h_filter (λj=>pred j i) f k (Co n L) F0 F0 rfl O3;rw[a.filter_eq hi r,<-e]at m;have:s.fs.h k=some b:=O3;exact this
theorem Plan.next(q:Plan F0 n f E pred)(hi:i<n){L':Nat->Bool}(b:L i=false)(a:L' i=true)(o: ∀j,j≠i->L' j=L j)(t: ∀j,L j=true-> ∀k,pred k j=true->L k=true):
  (F0.run ((Co n L).map f)).upd (f i)=F0.run ((Co n L').map f):=by
 obtain⟨A,B,e,g,h⟩:=PY hi b a o;rw[e,g,aJ,aJ,List.map_cons];refine FS.run_late F0 (f i) _ _ λs hs=> ?_;obtain⟨j,p,rfl⟩:=jzk.1 hs;obtain⟨l,m,r⟩:=h j p;refine q.ind i j l m ?_;grind
end
end Go.Va
namespace Go.Va
open _root_.List renaming range → aD, length_append → aG, length_cons → aH
open Go.RowKit
variable [DrC]
variable [Gv]
variable{a:Array Bool}{i:Nat}{K:St->Prop}{w:World}{Q:Exit->Act->World->Prop}
section
variable {P:Program} {T:AH} {X:Cx} {pred:Nat->Nat->Bool}
structure Edges (ops:List Oper) (pred:Nat->Nat->Bool):Prop where
 has: ∀i o,ops[i]? =some o-> ∀e∈o.after,Region.binds .any e=true->pred e.on i=true
 gen: ∀i o,ops[i]? =some o-> ∀j,pred j i=true-> ∃e∈o.after,Region.binds .any e=true/\(e.on=j\/pred j e.on=true)
theorem Ml{ops:Array Oper}(hs:a.size=ops.size):i∈Region.ready .any ops a↔ ∃o,ops[i]? =some o/\a.getD i false=false/\ ∀e∈o.after,Region.binds .any e=true->a.getD e.on false=true:=by
 unfold Region.ready;rw[List.mem_filter,List.mem_range,AR];constructor
 ·rintro⟨h,j,b⟩;have f:ops[i]? =some ops[i]:=O1;rw[f]at b;refine⟨_,f,?_,λe g k=> ?_⟩
  ·grind
  ·simp only[Option.map_some,Option.getD_some]at b;have:=Array.all_eq_true_iff_forall_mem.1 b e g;grind
 grind
def Ci(n m:Nat):Array Bool:=((aD n).map λj=>decide (j<m)).toArray
theorem Gu(n m:Nat):(Ci n m).size=n:=by simp[Ci]
theorem CO(n m j:Nat)(h:j<n):(Ci n m).getD j false=decide (j<m):=by
 simp[Ci,Cn,h]
theorem L6{n m:Nat}{l:Array Bool}(hs:l.size=n)(h: ∀j,j<n->l.getD j false=decide (j<m)):l=Ci n m:=by
 apply Array.ext
 ·rw[hs,Gu]
 ·intro j a b;have:=h j O;rw[<-CO n m j O]at this;simpa [Cn,a,b]using this
def Cut(n:Nat)(pred:Nat->Nat->Bool)(m:Nat):Prop:= ∀i,m<=i->i<n-> ∀j,j<m->pred j i=true
theorem QC{n:Nat}(hs:a.size=n)(hi:i<n)(j:Nat):(a.setIfInBounds i true).getD j false=if j=i then true else a.getD j false:=by
 by_cases b:j=i
 ·simp_all
 simp_all[Cn,Array.getElem?_setIfInBounds,Ne.symm]
theorem PF{ops:List Oper}{pred:Nat->Nat->Bool}(g:Edges ops pred)(hs:a.size=ops.length)(t: ∀j,a.getD j false=true-> ∀k,pred k j=true->a.getD k false=true)
   (hi:i∈Region.ready .any ops.toArray a): ∃o,ops[i]? =some o/\i<ops.length/\a.getD i false=false/\ ∀j,pred j i=true->a.getD j false=true:=by
 obtain⟨o,m,f,q⟩:=(Ml (by simpa using hs)).1 hi;have b:ops[i]? =some o:=by simpa using m
 refine⟨o,b,O3,f,λj l=> ?_⟩;obtain⟨e,h,r,p⟩:=g.gen i o b j l;grind
theorem Px{ops:List Oper}{pred:Nat->Nat->Bool}(h:Edges ops pred)(f: ∀j i,pred j i=true->j<i)(hs:a.size=ops.length)(o:Region.ready .any ops.toArray a=[]):
  ∀j,j<ops.length->a.getD j false=true:=by
 intro j
 induction j using Nat.strongRecOn with
 |_ j p=>
  intro m;cases k:a.getD j false with
  |true=>rfl
  |false=>
   have l:ops.toArray[j]? =some ops[j]:=O1;have:j∈Region.ready .any ops.toArray a:=(Ml (by simpa using hs)).2 ⟨_,l,k,λe b g=>by
    have:=f _ _ (h.has j ops[j] O1 e b g);grind⟩
   grind
def Frz(K:St->Prop)(s:St):Prop:= ∃l:List (List Nat),K (l.foldl (λs a=>s.freeze a) s)
theorem Frz.of{s:St}(h:K s):Frz K s:=⟨[],h⟩
theorem ja3{a:Act}:BX X (Frz K) a w->BX X K a w:=λ⟨M,Z,w0,ρ,s,g,e,h,l,f⟩=>by
 induction l generalizing ρ s with
 |nil=>exact⟨_,_,_,_,_,g,e,h,f⟩
 |cons b l i=>exact i _ _ (g.of (TrLe.freeze b)) (e.freeze b) f
theorem Qv{ops:List Oper}(h:Ev X.n X.pin ops=true)(k:Dk P T)(l: ∀Y,X.Y=some Y->YlOk P Y){o:Oper}(p:ops[i]? =some o){a:Act}{M Z:Addr->Prop}{w0:World}{ρ:AE}{s:St}
  (j:Lk X M Z w0 s a) (b:Rel M Z w0 ρ s a w) (m:a.tmps.size=X.n) (q:Ca P T ops o s K) {next:Act->World->Prop} (f: ∀a w,BX X K a w->next a w):Go.wpOp P ops.toArray Q i next a w:=by
 have e:=PM (Q:=Q) k l j b m h O3 q;unfold Go.wpOp;have g:ops.toArray[i]? =some o:=by simpa using p
 rw[g];dsimp only;split
 ·rw[if_pos ‹_›]at e;grind[Oper.wp_mono]
 grind
theorem QH{ops:List Oper}{a:Act}(h:Q .normal a w):wpAny P .any ops.toArray Q 0 (Ci ops.length ops.length) a w:=by
 refine⟨?_,h⟩;rw[List.eq_nil_iff_forall_not_mem];grind[Ml,Gu,CO]
theorem jan(E:Dk P T)(F: ∀Y,X.Y=some Y->YlOk P Y){ops:List Oper}(t:Ev X.n X.pin ops=true){pred:Nat->Nat->Bool}(H:Edges ops pred)(L: ∀j i,pred j i=true->j<i){m:Nat}{o:Oper}(x:ops[m]? =some o)
  (e:Cut ops.length pred (m+1)) (q:Cut ops.length pred m)  {a:Act}  (I:BX X (λs=>Ca P T ops o s K) a w) {b:Nat} (next: ∀a w,BX X K a w->wpAny P .any ops.toArray Q b (Ci ops.length (m+1)) a w):
  wpAny P .any ops.toArray Q (b+1) (Ci ops.length m) a w:=by
 have hm:m<ops.length:=O3;have G: ∀j,(Ci ops.length m).getD j false=true-> ∀k,pred k j=true->(Ci ops.length m).getD k false=true:=(by grind[Nat.lt_or_ge,Array.getD_eq_getD_getElem?,Ci,CO])
 refine⟨λhr=> ?_,λi hi=> ?_⟩
 ·grind[Px,Gu,CO]
 ·obtain⟨o',g,f,v,y⟩:=PF H (Gu _ _) G hi;rw[CO _ _ _ f]at v;have r:m<=i:=by simpa using v
  have:i=m:=by
   rcases Nat.eq_or_lt_of_le r with h|h
   ·exact h.symm
   ·have:=y m (e i O f m O);grind[CO]
  subst this;rw[x]at g;cases g;obtain⟨M,Z,w0,ρ,s,z,p,N,S⟩:=I;refine Qv t E F x z p N S λW w' J=> ?_;rw[L6 (n:=ops.length) (l:=(Ci ops.length i).setIfInBounds i true) (m:=i+1) (by simp[Gu]) (by grind[QC,Gu,CO])];grind
theorem jjV(hT:Dk P T)(hY: ∀Y,X.Y=some Y->YlOk P Y){ops:List Oper}(W:Ev X.n X.pin ops=true){fuel0 lo hi:Nat}(hhi:hi<=ops.length)(v:Cut ops.length pred hi)
  (p: ∀a w,BX X K a w->wpAny P .any ops.toArray Q fuel0 (Ci ops.length hi) a w)
  {F0:FS} {f:Nat->Step} {E:Nat->St} (hp:Plan F0 hi f E pred) (he:Edges ops pred)
  (H: ∀i o,lo<=i->i<hi->ops[i]? =some o-> ∀(L:Nat->Bool) (s:St),L i=false->(∀j,L j=true-> ∀k,pred k j=true->L k=true)->(E i).Sub s->s.fs=F0.run ((Co hi L).map f)->
   ∀K:St->Prop,(∀s',s'.fs=s.fs.upd (f i)->K s')->Ca P T ops o s (Frz K))
  (hK: ∀s,s.fs=F0.run ((aD hi).map f)->K s):
  ∀(e:Nat) (b:Array Bool) (a:Act) (w:World),b.size=ops.length->((aD hi).filter λj=> !b.getD j false).length=e->(∀j,j<lo->b.getD j false=true)->(∀j,hi<=j->b.getD j false=false)->
   (∀j,b.getD j false=true-> ∀k,pred k j=true->b.getD k false=true)->
   BX X (λs=>s.fs=F0.run ((Co hi λj=>b.getD j false).map f)) a w->wpAny P .any ops.toArray Q (fuel0+e) b a w:=by
 intro e
 induction e with
 |zero=>
  intro b a w hs hf S x t ⟨M,Z,w0,ρ,s,G,h1,r,h3⟩;have hall: ∀j,j<hi->b.getD j false=true:=(by simp_all)
  rw[L6 (m:=hi) hs O3];refine p a w ⟨M,Z,w0,ρ,s,G,h1,r,hK s ?_⟩;rw[h3];unfold Co;rw[List.filter_eq_self.2 O3]
 |succ e ih=>
  intro b a w hs hf S x t hg;obtain⟨j0,hj0,hl0⟩: ∃j,j<hi/\b.getD j false=false:=by
   have:((aD hi).filter λj=> !b.getD j false)≠[]:=O3;simp_all
  show wpAny P .any ops.toArray Q (fuel0+e+1) b a w;refine⟨λF=> ?_,λi J=> ?_⟩
  ·have:=Px he hp.lt hs F j0 O;grind
  ·obtain⟨o,ho,y,r,F⟩:=PF he hs t J;have g:i<hi:=by
    rcases Nat.lt_or_ge i hi with h|h
    ·exact h
    ·have:=F j0 (v i h y j0 hj0);grind
   have N:lo<=i:=by
    grind
   obtain⟨M,Z,w0,ρ,s,G,z,hn,q⟩:=hg;have l:=QC hs y;refine Qv W hT hY ho G z hn (H i o N g ho (λj=>b.getD j false) s r t (hp.sub g r F t q) q (λs'=>s'.fs=s.fs.upd (f i)) λs' h=>h) ?_;intro a' w' I;obtain⟨M',Z',w0',ρ',s',gL,g1,g2,g3⟩:=ja3 I;refine ih _ a' w' (by simpa using hs) ?_ (λj hj=> ?_) (λj hj=> ?_) ?_ ⟨M',Z',w0',ρ',s',gL,g1,g2,?_⟩
   ·obtain⟨A,B,e1,e2,_⟩:=PY g (L:=λj=> !(b.setIfInBounds i true).getD j false) (L':=λj=> !b.getD j false) (by rw[l];simp) (by simp[r]) O3;grind[Co,aG,aH]
   ·grind
   ·grind
   ·grind
   ·show s'.fs=_;rw[g3,q];exact hp.next g (L:=λj=>b.getD j false) r (by rw[l];simp) O3 t
def GX(P:Program)(T:AH)(ops:List Oper)(pred:Nat->Nat->Bool)(hi:Nat):Nat->(Nat->Bool)->St->(St->Prop)->Prop
 |0,_,a,K=>K a
 |n+1,L,a,K=> ∀i o,i<hi->ops[i]? =some o->L i=false->(∀j,pred j i=true->L j=true)->Ca P T ops o a λs=>GX P T ops pred hi n (λj=>L j||j==i) s K
theorem XU(hT:Dk P T)(hY: ∀Y,X.Y=some Y->YlOk P Y){ops:List Oper}(F:Ev X.n X.pin ops=true){fuel0 lo hi:Nat}(hhi:hi<=ops.length)(g:Cut ops.length pred hi)
  (f: ∀a w,BX X K a w->wpAny P .any ops.toArray Q fuel0 (Ci ops.length hi) a w) (he:Edges ops pred) (hlt: ∀j i,pred j i=true->j<i):
  ∀(e:Nat) (b:Array Bool) (a:Act) (w:World),b.size=ops.length->((aD hi).filter λj=> !b.getD j false).length=e->(∀j,j<lo->b.getD j false=true)->(∀j,hi<=j->b.getD j false=false)->
   (∀j,b.getD j false=true-> ∀k,pred k j=true->b.getD k false=true)->
   BX X (λs=>GX P T ops pred hi e (λj=>b.getD j false) s K) a w->wpAny P .any ops.toArray Q (fuel0+e) b a w:=by
 intro e
 induction e with
 |zero=>
  intro b a w hs hf E l N ⟨M,Z,w0,ρ,s,x,h1,v,h3⟩;have J: ∀j,j<hi->b.getD j false=true:=(by simp_all)
  rw[L6 (m:=hi) hs O3];exact f a w ⟨M,Z,w0,ρ,s,x,h1,v,h3⟩
 |succ e ih=>
  intro b a w hs hf E l N hg;obtain⟨j0,hj0,hl0⟩: ∃j,j<hi/\b.getD j false=false:=by
   have:((aD hi).filter λj=> !b.getD j false)≠[]:=O3;simp_all
  show wpAny P .any ops.toArray Q (fuel0+e+1) b a w;refine⟨λG=> ?_,λi z=> ?_⟩
  ·grind[Px]
  ·obtain⟨o,S,q,v,G⟩:=PF he hs N z;have p:i<hi:=by
    rcases Nat.lt_or_ge i hi with h|h
    ·exact h
    ·have:=G j0 (g i h q j0 hj0);grind
   have hil:lo<=i:=by
    grind
   obtain⟨M,Z,w0,ρ,s,x,r,hn,y⟩:=hg;have t:=QC hs q;refine Qv F hT hY S x r hn (y i o p S v G) ?_;intro W w' ⟨M',Z',H,I,s',gL,g1,g2,g3⟩;refine ih _ W w' (by simpa using hs) ?_ (λj hj=> ?_) (λj hj=> ?_) ?_ ⟨M',Z',H,I,s',gL,g1,g2,?_⟩
   ·obtain⟨A,B,e1,e2,_⟩:=PY p (L:=λj=> !(b.setIfInBounds i true).getD j false) (L':=λj=> !b.getD j false) (by rw[t];simp) (by simp[v]) O3;grind[Co,aG,aH]
   ·grind
   ·grind
   ·grind
   grind
end
end Go.Va
namespace Go.Va
open _root_.List renaming range → aD, filter_eq_nil_iff → aI, filter_eq_self → aJ, filter_append → aL, range_add → aN
open _root_.Nat renaming lt_or_ge → aG, sub_self → aO
open _root_.Array renaming getD_eq_getD_getElem? → aH, replicate → aM
open Go.RowKit
variable [DrC]
variable [Gv]
def V2(P:Program)(T:AH)(ops:List Oper)(F0:FS)(lo hi:Nat)(f:Nat->Step)(E:Nat->St)(pred:Nat->Nat->Bool):Prop:=
 ∀i o,lo<=i->i<hi->ops[i]? =some o-> ∀(L:Nat->Bool) (s:St),L i=false->(∀j,L j=true-> ∀k,pred k j=true->L k=true)->(E i).Sub s->s.fs=F0.run ((Co hi L).map f)->
  ∀K:St->Prop,(∀a,a.fs=s.fs.upd (f i)->K a)->Ca P T ops o s (Frz K)
def FW(P:Program)(T:AH)(ops:List Oper)(pred:Nat->Nat->Bool):Nat->Nat->St->(St->Prop)->Prop
 |0,lo,a,K=>lo=ops.length/\K a
 |k+1,lo,a,K=>(lo=ops.length/\K a)\/
  (∃o,ops[lo]? =some o/\Cut ops.length pred (lo+1)/\Ca P T ops o a (λs=>FW P T ops pred k (lo+1) s K))\/
  (∃(hi:Nat) (b e:List Nat) (f:Nat->Step) (E:Nat->St),lo<=hi/\hi<=ops.length/\Cut ops.length pred hi/\Plan (purges e (a.freeze b)).fs hi f E pred/\(∀i,i<lo->f i=⟨none,.val (.tup [])⟩)/\
   V2 P T ops (purges e (a.freeze b)).fs lo hi f E pred/\ ∃s,s.fs=(purges e (a.freeze b)).fs.run ((aD hi).map f)/\FW P T ops pred k hi s K)\/
  (∃l:List (Nat×Nat),FW P T ops pred k lo (rns l a) K)\/
  ∃hi,lo<=hi/\hi<=ops.length/\Cut ops.length pred hi/\GX P T ops pred hi (hi - lo) (λj=>decide (j<lo)) a λs=> ∃g:St,g.le s/\FW P T ops pred k hi g K
def Kz(P:Program)(T:AH)(ops:List Oper)(a:St)(K:St->Prop):Prop:=
 ∃(pred:Nat->Nat->Bool) (n:Nat),Edges ops pred/\(∀j i,pred j i=true->j<i)/\FW P T ops pred n 0 a K
def JS(P:Program)(T:AH)(ops:List Oper)(a:Bool)(b:St)(K:St->Prop):Prop:=
 if a then Kz P T ops b K else Xj P T ops ops b K
def Hr(Q:Bk)(e:Exit)(s:St):Prop:=
 match e with
 | .goto _=>False
 |e=>Q e s
def Bl(P:Program)(T:AH):Code->St->Bk->Prop
 | .skip,e,Q=>Q .normal e
 | .region _ g f,e,Q=>JS P T g.toList f e (IG Q)
 | .seq a b,e,Q=>Bl P T a e (DO (Bl P T b) Q)
 | .cond c x y,e,Q=>Ie (e.evB c) e (Bl P T x) (Bl P T y) Q
 | .block id c,e,Q=>Bl P T c e (Gf id Q)
 | .loop c,e,Q=>HN (Bl P T c) e Q
 | .exit id,e,Q=>Q (.exit id) e
 | .ret,e,Q=>Q .ret e
 | .scope c,e,Q=>Bl P T c e (Hr Q)
 | .label _,e,Q=>Q .normal e
 |_,_,_=>False
variable{K:St->Prop}{Q:Exit->Act->World->Prop}
section
variable {P:Program} {T:AH} {X:Cx} {M Z:Addr->Prop} {w0 w:World} {a:Act}
theorem Rel.drew{ρ:AE}{b:St}(h:Rel M Z w0 ρ b a w):Rel M Z w0 ρ b a { w with drawn:=w.drawn+1 }:=h.ext (Ext.drew w)
theorem Rel.sub{ρ:AE}{f:St}(h:Rel M Z w0 ρ f a w){e:St}(hs:e.Sub f):Rel M Z w0 ρ e a w where
 fr:=h.fr
 heap:=⟨h.heap.owns,λi b g=>h.heap.rep i b (hs.h i b g)⟩
 mine:=h.mine
 out:=h.out
 mz:=h.mz
 tmps:=λt v j=>h.tmps t v (hs.t t v j)
 defers:=h.defers
 mps:=h.mps
theorem NA{s s':St}(h:s.fs=s'.fs):s.Sub s':=by
 simp only[St.fs,FS.mk.injEq]at h;exact⟨λk x a=>by rw[<-congrFun h.1 k];exact a,λk x a=>by rw[<-congrFun h.2 k];exact a⟩
theorem Rel.purges: ∀(l:List Nat) {ρ:AE} {e:St},Rel M Z w0 ρ e a w-> ∃b,Rel M Z w0 b (purges l e) a w
 |[],_,_,h=>⟨_,h⟩
 |i::l,_,_,h=>Rel.purges l (h.purge i)
theorem YR(F:FS):F.upd ⟨none,.val (.tup [])⟩=F:=O5
theorem Nq(F:FS): ∀l:List Step,(∀s∈l,s=⟨none,.val (.tup [])⟩)->F.run l=F
 |[],_=>rfl
 |s::l,h=>by
  show(F.upd s).run l=F;rw[h s O1,YR];exact Nq F l O3
theorem TrLe.fs{s s':St}(h:s.fs=s'.fs):TrLe s s':=λx r a=>(NA h).t _ _ a
theorem Zp(hT:Dk P T)(hY: ∀Y,X.Y=some Y->YlOk P Y){ops:List Oper}(y:Ev X.n X.pin ops=true)(hQ: ∀a w,BX X K a w->Q .normal a w)
  {pred:Nat->Nat->Bool} (he:Edges ops pred) (J: ∀j i,pred j i=true->j<i): ∀(n lo:Nat) (a:Act) (w:World),lo<=ops.length->Cut ops.length pred lo->
   BX X (λt=>FW P T ops pred n lo t K) a w->wpAny P .any ops.toArray Q (ops.length - lo) (Ci ops.length lo) a w:=by
 intro n
 induction n with
 |zero=>
  intro lo a w I m ⟨M,Z,w0,ρ,t,v,h1,h2,h3,h4⟩;subst h3;rw[aO];exact QH (hQ a w ⟨M,Z,w0,ρ,t,v,h1,h2,h4⟩)
 |succ n ih=>
  intro lo a w I m ⟨M,Z,w0,ρ,t,v,e,L,h⟩;rcases h with⟨rfl,h4⟩|⟨o,ho,x,H⟩|⟨hi,F,S,f,E,hlh,p,x,hp,hidle,z,s1,hs1,H⟩|⟨l,H⟩|⟨hi,hlh,p,x,H⟩
  ·rw[aO];exact QH (hQ a w ⟨M,Z,w0,ρ,t,v,e,L,h4⟩)
  ·have hm:lo<ops.length:=O3;rw[show ops.length - lo=ops.length - (lo+1)+1 by omega];exact jan hT hY y he J ho x m ⟨M,Z,w0,ρ,t,v,e,L,H⟩ O3
  ·obtain⟨G,g⟩:=Rel.purges S (e.freeze F);have q:((aD hi).filter λj=> !(Ci ops.length lo).getD j false).length=hi - lo:=by
    have b:aD hi=aD lo++(aD (hi - lo)).map (lo+ ·):=by
     conv=>lhs;rw[show hi=lo+(hi - lo) by omega,aN]
    rw[b,aL,aI.2,aJ.2]
    ·simp
    ·intro j r;obtain⟨k,hk,rfl⟩:=jzk.1 r;grind[CO]
    grind[CO]
   have hout: ∀j,ops.length<=j->(Ci ops.length lo).getD j false=false:=(by grind[aH,Ci])
   have:=jjV hT hY y (fuel0:=ops.length - hi) (lo:=lo) p x (K:=λs=>s.fs=(Va.purges S (t.freeze F)).fs.run ((aD hi).map f))
    (λa w ⟨M,Z,w0,ρ,s,gL,W,g2,g3⟩=>ih hi a w p x ⟨M,Z,w0,ρ,s1,gL.of (by grind[TrLe.fs]),W.sub (by grind[NA]),g2,H⟩) hp he z (λ_ h=>h) (hi - lo) (Ci ops.length lo) a w (Gu _ _) q (by grind[CO]) (λj r=> ?_) (λj r k hk=> ?_) ⟨M,Z,w0,G,_,(v.of (TrLe.freeze F)).of (TrLe.purges S),g,L,?_⟩
   ·grind
   ·grind[aG,CO]
   ·grind[aG,CO]
   ·unfold Co;refine(Nq _ _ λs hs=> ?_).symm;obtain⟨j,r,rfl⟩:=jzk.1 hs;grind[CO]
  ·obtain⟨G,g⟩:=Rel.rns l e;exact ih lo a w I m ⟨M,Z,w0,G,_,v.of (TrLe.rns l),g,L,H⟩
  ·have q:((aD hi).filter λj=> !(Ci ops.length lo).getD j false).length=hi - lo:=by
    have b:aD hi=aD lo++(aD (hi - lo)).map (lo+ ·):=by
     conv=>lhs;rw[show hi=lo+(hi - lo) by omega,aN]
    rw[b,aL,aI.2,aJ.2]
    ·simp
    ·intro j r;obtain⟨k,hk,rfl⟩:=jzk.1 r;grind[CO]
    grind[CO]
   have hout: ∀j,ops.length<=j->(Ci ops.length lo).getD j false=false:=(by grind[aH,Ci])
   have:=XU hT hY y (fuel0:=ops.length - hi) (lo:=lo) p x (K:=λs=> ∃N:St,N.le s/\FW P T ops pred n hi N K)
    (λa w ⟨M,Z,w0,ρ,s,gL,W,g2,N,g3,g4⟩=>ih hi a w p x ⟨M,Z,w0,ρ,N,gL.of (TrLe.le g3),W.weaken g3,g2,g4⟩) he J (hi - lo) (Ci ops.length lo) a w (Gu _ _) q (by grind[CO]) (λj r=> ?_) (λj r k hk=> ?_) ⟨M,Z,w0,ρ,t,v,e,L,?_⟩
   ·grind
   ·grind[aG,CO]
   ·grind[aG,CO]
   ·have:(λj=>(Ci ops.length lo).getD j false)=λj=>decide (j<lo):=by
     funext j;grind[aG,CO,decide_eq_false]
    grind
theorem jbb(m:Dk P T)(o: ∀Y,X.Y=some Y->YlOk P Y){ops:List Oper}(f:Ev X.n X.pin ops=true)(l: ∀a w,BX X K a w->Q .normal a w)
  (h:BX X (λg=>Kz P T ops g K) a w):wpAny P .any ops.toArray Q ops.length (aM ops.length false) a w:=by
 obtain⟨M,Z,w0,ρ,g,k,b,q,pred,n,p,e,r⟩:=h;have:=Zp m o f l p e n 0 a w (Nat.zero_le _) (λi _ _ j t=>O) ⟨M,Z,w0,ρ,g,k,b,q,r⟩;rw[Nat.sub_zero]at this;rwa [show aM ops.length false=Ci ops.length 0 from L6 O1 (by simp_all)]
end
end Go.Va
namespace Go.Va
open Go.RowKit
variable [DrC]
variable [Gv]
section
variable {P:Program} {T:AH} {X:Cx} {w:World} {n:Nat}
def B6(n:Nat)(a:List Nat):Code->Bool
 | .region _ b _=>Ev n a b.toList
 | .seq x y=>B6 n a x&&B6 n a y
 | .cond _ x y=>B6 n a x&&B6 n a y
 | .block _ c=>B6 n a c
 | .loop c=>B6 n a c
 | .scope c=>B6 n a c
 |_=>true
theorem _root_.Go.Code.wp.mono'{P:Program}{c:Code}{Q b:Exit->Act->World->Prop}{a:Act}{w:World}(h:c.wp P Q a w)(f: ∀e a w,Q e a w->b e a w):c.wp P b a w:=wp_mono h f
def Jz(X:Cx)(Q:Bk):Exit->Act->World->Prop:=λe=>BX X (Q e)
theorem Dr(v:Dk P T)(z: ∀Y,X.Y=some Y->YlOk P Y)(H:P.follows .mixedOrders=true): ∀(c:Code) (Q:Bk) (a:Act) (w:World),B6 X.n X.pin c=true->BX X (λr=>Bl P T c r Q) a w->c.wp P (Jz X Q) a w
 | .skip,Q,a,w,_,h=>wp_skip h
 | .region id ops draw,Q,a,w,f,h=>by
  have hl:ops=ops.toList.toArray:=O1;cases draw with
  |false=>
   rw[hl];exact wp_region_lit (Rg v z (ops:=ops.toList) f (λa w h=>h) ops.toList a w (λo ho=>ho) h)
  |true=>
   refine wp_region_any H ?_;obtain⟨M,Z,w0,ρ,r,q,h1,h2,t⟩:=h;have:=jbb (Q:=Jz X Q) (K:=IG Q) v z (ops:=ops.toList) f (λa w h=>h) (a:=a) (w:={ w with drawn:=w.drawn+1 }) ⟨M,Z,w0,ρ,r,q,h1.drew,h2,t⟩;simpa using this
 | .seq x y,Q,a,w,f,h=>by
  simp only[B6,AR]at f;refine wp_seq ((Dr v z H x (DO (Bl P T y) Q) a w f.1 h).mono' λe F L G=> ?_);cases e<;>first|exact Dr v z H y Q F L f.2 G|exact G
 | .cond c x y,Q,a,w,f,⟨M,Z,w0,ρ,r,q,i,hn,p⟩=>by
  simp only[B6,AR]at f;unfold Bl Ie at p;split at p
  ·rename_i b hb;refine wp_cond_split (i.evB hb) (λht=> ?_) (λhf=> ?_)
   ·exact Dr v z H x Q a w f.1 ⟨M,Z,w0,ρ,r,q,i,hn,p.1 ht⟩
   ·exact Dr v z H y Q a w f.2 ⟨M,Z,w0,ρ,r,q,i,hn,p.2 hf⟩
  ·exact p.elim
 | .block id c,Q,a,w,f,h=>by
  refine wp_block ((Dr v z H c (Gf id Q) a w f h).mono' λe F L G=> ?_);cases e<;>try exact G
  rename_i j;obtain⟨M,Z,w0,ρ,r,q,h1,h2,t⟩:=G;simp only[Exit.inBlock];simp only[Gf]at t;split
  ·rw[if_pos ‹_›]at t;exact⟨M,Z,w0,ρ,r,q,h1,h2,t⟩
  ·rw[if_neg ‹_›]at t;exact⟨M,Z,w0,ρ,r,q,h1,h2,t⟩
 | .loop c,Q,a,w,f,⟨M,Z,w0,ρ,r,q,i,hn,p⟩=>by
  obtain⟨I,rs,⟨s,m0,hle,hI⟩,E⟩:=p;intro b k cs;have key: ∀(m:Nat) (a:Act) (w:World),(∃M Z w0 ρ s,Lk X M Z w0 s a/\Rel M Z w0 ρ s a w/\a.tmps.size=X.n/\I s m)->
    ∃e F L,Jz X Q e F L/\Arrives P (lone (b.at a (.code c:: .inLoop c::k)) cs w) b k cs e F L:=by
   intro m
   induction m using Nat.strongRecOn with
   |_ m ih=>
    rintro a w ⟨M,Z,w0,ρ,s,q,h1,h2,t⟩;have hc:=Dr v z H c (DO (Kw I rs m) Q) a w f ⟨M,Z,w0,ρ,s,q,h1,h2,E s m t⟩;obtain⟨e,W,w1,J,g⟩:=hc b (.inLoop c::k) cs;cases e with
    |normal=>
     obtain⟨M',Z',w0',ρ1,s1,gL,g1,g2,s2,m2,g3,g4,g5⟩:=J;obtain⟨ρ2,g1'⟩:=Rel.rns rs g1;obtain⟨e2,a2,w2,hq2,N⟩:=ih m2 g5 W w1 ⟨M',Z',w0',ρ2,s2,(gL.of (TrLe.rns rs)).of (TrLe.le g3),g1'.weaken g3,g2,g4⟩;exact⟨e2,a2,w2,hq2,.of_steps (Steps.trans g (.one step_inLoop)) N⟩
    |exit id=>exact⟨_,W,w1,J,.pass (x:= .inLoop c) rfl O1 g⟩
    |goto l=>exact⟨_,W,w1,J,.pass (x:= .inLoop c) rfl O1 g⟩
    |ret=>exact⟨_,W,w1,J,.pass (x:= .inLoop c) rfl O1 g⟩
    |panic ch=>exact⟨_,W,w1,J,.pass (x:= .inLoop c) rfl O1 g⟩
    |outgrown=>exact⟨_,W,w1,J,.pass (x:= .inLoop c) rfl O1 g⟩
  obtain⟨ρ0,S⟩:=Rel.rns rs i;obtain⟨e,F,L,J,g⟩:=key _ a w ⟨M,Z,w0,ρ0,s,(q.of (TrLe.rns rs)).of (TrLe.le hle),S.weaken hle,hn,hI⟩;exact⟨e,F,L,J,.of_steps (.one step_loop) g⟩
 | .exit id,Q,a,w,_,h=>wp_exit h
 | .ret,Q,a,w,_,h=>wp_ret h
 | .rangeFunc _ _ _ _,Q,a,w,_,⟨_,_,_,_,_,_,_,_,p⟩=>p.elim
 | .scope c,Q,a,w,f,h=>by
  refine wp_scope_straight ((Dr v z H c (Hr Q) a w f h).mono' λe F L G=> ?_);cases e with
  |goto l=>obtain⟨_,_,_,_,_,_,_,_,p⟩:=G;exact p.elim
  |_=>exact G
 | .label _,Q,a,w,_,h=>wp_label h
 | .goto _,Q,a,w,_,⟨_,_,_,_,_,_,_,_,p⟩=>p.elim
 | .refuse _,Q,a,w,_,⟨_,_,_,_,_,_,_,_,p⟩=>p.elim
end
end Go.Va
