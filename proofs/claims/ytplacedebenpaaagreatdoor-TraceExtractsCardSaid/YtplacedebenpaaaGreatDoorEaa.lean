/- a part of the proof -/
import Derived.Calls
import Derived.Orders
import Derived.Below
import Derived.Laws.IdiomCopy
import Derived.Laws.MakeOwn
import Derived.Laws.Append
set_option linter.all false
namespace Go.Va
theorem O{p:Prop}(h:p:=by omega):p:=h
theorem O1{p:Prop}(h:p:=by simp):p:=h
theorem O2{p:Prop}(h:p:=by decide):p:=h
theorem O3{p:Prop}(h:p:=by grind):p:=h
theorem O4{p:Prop}(h:p:=by kernel_rfl):p:=h
theorem O5{p:Prop}(h:p:=by rfl):p:=h
theorem O6{p:Prop}(h:p:=by decide+kernel):p:=h
abbrev AD:= @List.getElem?_eq_getElem
abbrev AL:= @List.getD_eq_getElem?_getD
abbrev AZ:= @List.getElem_mem
abbrev jzd:= @Option.bind_eq_some_iff
abbrev jze:= @Option.map_eq_some_iff
abbrev BQ:= @List.drop_eq_getElem_cons
abbrev jzg:= @List.getElem?_eq_some_iff
abbrev Cr:= @List.take_succ_eq_append_getElem
abbrev Ba:= @List.take_of_length_le
abbrev AR:= @Bool.and_eq_true
abbrev jzk:= @List.mem_map
abbrev A8:= @List.length_take
abbrev AX:= @Nat.mod_eq_of_lt
abbrev jzn:= @List.mem_cons
abbrev E8:= @List.not_mem_nil
abbrev BC:= @Nat.mul_le_mul_right
abbrev AO:= @Nat.le_refl
abbrev BM:= @List.take_length
abbrev BY:= @List.mem_of_getElem?
abbrev Bi:= @Option.some.inj
abbrev Bs:= @Nat.min_eq_left
abbrev jzv:= @List.length_eq_zero_iff
abbrev Cn:= @Array.getD_eq_getD_getElem?
abbrev B9:= @List.getElem?_eq_none
abbrev jzy:= @List.all_eq_true
abbrev DU:= @List.drop_of_length_le
abbrev Bf:= @List.getElem?_map
inductive D where
 |int (k:IntKind) (n:Int)
 |bool (b:Bool)
 |str (s:ByteArray)
 |slice (n:Nat) (cs:List D)
 |ref (cs:List D)
 |fn (f:FuncId) (caps:List D)
 |nilFn
 |nilPtr
 |iface (t:TypeId) (cs:List D)
 |lit (x:Value)
 |any
 |nn
 deriving Inhabited
inductive C where
 |d (x:D)
 |nl
 |sl (id off n:Nat)
 |ptr (id off:Nat)
 |bad
 |mp (it:Bool) (id:Nat)
 deriving Inhabited
inductive U where
 |c (x:C)
 |agg (cs:List C)
 |clo (f:FuncId) (cs:List C)
 deriving Inhabited
inductive A where
 |c (x:D)
 |agg (cs:List D)
 deriving Inhabited
inductive V where
 |u (x:U)
 |tup (xs:List U)
 |tr (x:Value) (ys:List (List A))
 deriving Inhabited
def YS:Nat:=1000000
inductive Ky where
 |s (b:ByteArray)
 |n (i:Int)
 deriving Inhabited
inductive Ob where
 |mp (es:List (Ky×Int))
 |it (s:ByteArray) (p:Nat)
 deriving Inhabited
inductive Blk where
 |row (sz:Nat) (cs:List D) (app:Bool)
 |box (cs:List C)
 |fbox (f:FuncId) (cs:List C)
 |mp (x:Ob)
 |gh (cs:List C)
 deriving Inhabited
structure St where
 t:List (Nat×V)
 h:List (Nat×Blk)
 deriving Inhabited
def lk{α:Type}(k:Nat):List (Nat×α)->Option α
 |[]=>none
 |(j,v)::r=>if j=k then some v else lk k r
def rm{α:Type}(k:Nat):List (Nat×α)->List (Nat×α)
 |[]=>[]
 |(j,v)::r=>if j=k then rm k r else (j,v)::rm k r
structure TI where
 agg:Bool:=false
 size:Nat:=1
 bytes:Nat:=8
 zero:List C:=[]
 sl:Option Nat:=none
 arr:Option (Nat×Nat):=none
 flds:List (Nat×Nat):=[]
 flat:Bool:=false
 mp:Bool:=false
 mpi:Bool:=false
 trunc:Bool:=false
 deriving Inhabited
abbrev AH:=Nat->Option TI
inductive RC where
 |d (x:D)
 |own (sz n:Nat) (cs:List D)
 deriving Inhabited
inductive RU where
 |c (x:RC)
 |agg (cs:List RC)
 deriving Inhabited
inductive R where
 |u (x:RU)
 |tup (xs:List RU)
 deriving Inhabited
def C.id? :C->Option Nat
 | .sl i _ _=>some i
 | .ptr i _=>some i
 | .mp _ i=>some i
 |_=>none
def C.on(g:Nat->C->C)(c:C):C:=
 match c with
 | .sl i o n=>g i (.sl i o n)
 | .ptr i o=>g i (.ptr i o)
 | .mp q i=>g i (.mp q i)
 |c=>c
def U.on(g:Nat->C->C):U->U
 | .c x=> .c (x.on g)
 | .agg a=> .agg (a.map (C.on g))
 | .clo f a=> .clo f (a.map (C.on g))
def V.on(g:Nat->C->C):V->V
 | .u x=> .u (x.on g)
 | .tup xs=> .tup (xs.map (U.on g))
 | .tr x a=> .tr x a
def Blk.on(g:Nat->C->C):Blk->Blk
 | .row sz a app=> .row sz a app
 | .box a=> .box (a.map (C.on g))
 | .fbox f a=> .fbox f (a.map (C.on g))
 | .mp x=> .mp x
 | .gh a=> .gh (a.map (C.on g))
def St.on(g:Nat->C->C)(a:St):St:=
 {t:=a.t.map λe=>(e.1,e.2.on g),h:=a.h.map λe=>(e.1,e.2.on g) }
def Bm(i:Nat):Nat->C->C:=λj c=>if j=i then .bad else c
def St.purge(a:Nat)(b:St):St:={ b.on (Bm a)with h:=rm a (b.on (Bm a)).h }
def St.put(dst:Option Nat)(v:V)(a:St):St:=
 match dst with
 |some d=>{ a with t:=(d,v)::rm d a.t }
 |none=>a
def St.blk(a:Nat)(b:Blk)(e:St):St:={ e with h:=(a,b)::rm a e.h }
def St.drop(b:Nat)(a:St):St:={ a with h:=rm b a.h }
def St.new(a:Nat)(b:Blk)(e:St):St:=(e.purge a).blk a (b.on (Bm a))
def C.to(i:Nat):C->C
 | .sl _ o n=> .sl i o n
 | .ptr _ o=> .ptr i o
 | .mp q _=> .mp q i
 |c=>c
def C0(i j:Nat):Nat->C->C:=λk c=>if k=j then c.to i else if k=i then .bad else c
def St.rn(i j:Nat)(a:St):St:=
 if i=j then a else
 match lk j a.h with
 |none=>a
 |some b=>{ a.on (C0 i j)with h:=(i,b.on (C0 i j))::rm i (rm j (a.on (C0 i j)).h) }
def rns:List (Nat×Nat)->St->St
 |[],s=>s
 |(i,j)::r,s=>rns r (s.rn i j)
def purges(l:List Nat)(s:St):St:=l.foldl (λs i=>s.purge i) s
def cut{α:Type}(off n:Nat)(l:List α):List α:=(l.drop off).take n
def toD(ok:Nat->Bool)(h:List (Nat×Blk)):Nat->C->Option D
 |_,.d x=>some x
 |_,.nl=>some (.slice 0 [])
 |_,.bad=>none
 |_,.mp _ _=>none
 |_,.sl i a n=>if ok i then (match lk i h with
  |some (.row e b _)=>if (a+n)*e<=b.length then some (.slice n (cut (a*e) (n*e) b)) else none
  |_=>none) else none
 |0,.ptr i _=>if ok i then some .any else none
 |k+1,.ptr i a=>if ok i then (match lk i h with
  |some (.row _ b _)=>some (.ref (b.drop a))
  |some (.box b)=>((b.drop a).mapM (toD ok h k)).map .ref
  |some (.fbox f b)=>if a=0 then (b.mapM (toD ok h k)).map λg=> .ref [.fn f g] else none
  |some (.mp _)=>none
  |some (.gh _)=>none
  |none=>none) else none
def St.cD(a:St)(c:C):Option D:=toD (λ_=>true) a.h 4 c
def DZ(h:List (Nat×Blk)):Nat->List C->List Nat
 |0,_=>[]
 |k+1,a=>a.flatMap λc=>match c.id? with
  |none=>[]
  |some i=>i::(match lk i h with
   |some (.box bs)=>DZ h k bs
   |some (.fbox _ bs)=>DZ h k bs
   |_=>[])
def Du(h:List (Nat×Blk))(ok:Nat->Bool):Nat->C->C:=λi c=>if ok i then (match toD ok h 4 c with|some x=> .d x|none=> .bad) else c
def Ds{α:Type}(ok:Nat->Bool)(h:List (Nat×α)):List (Nat×α):=h.filter λe=> !ok e.1
def St.freezeK(ok:Nat->Bool)(a:St):St:=
 let s:=a.on (Du a.h ok)
 {s with h:=Ds ok s.h }
def St.freeze(ids:List Nat)(a:St):St:=
 match ids with
 |[]=>a
 |i::r=>a.freezeK ((i::r).contains ·)
def St.sealW(ids:List Nat)(cs:List C)(a:St):Option (List D×St):=
 (cs.mapM (toD (ids.contains ·) a.h 4)).map λb=>(b,a.freeze ids)
def St.shut(cs:List C)(a:St):Option (List D×St):=a.sealW (DZ a.h 5 cs) cs
def cCell:Value->Option C
 | .int k n=>some (.d (.int k n))
 | .bool b=>some (.d (.bool b))
 | .string s=>some (.d (.str s))
 | .slice none 0 0=>some .nl
 | .pointer none=>some (.d .nilPtr)
 | .nilFunc=>some (.d .nilFn)
 |_=>none
def cVal:Value->Option V
 | .agg cs=>(cs.toList.mapM cCell).map λl=> .u (.agg l)
 |v=>(cCell v).map λc=> .u (.c c)
def St.ev(a:St):Operand->Option V
 | .tmp t=>lk t a.t
 | .const v=>cVal v
 | .func f=>some (.u (.c (.d (.fn f []))))
 | .global _=>none
def U.cells:U->List C
 | .c x=>[x]
 | .agg cs=>cs
 | .clo _ _=>[.bad]
def U.all:U->List C
 | .c x=>[x]
 | .agg a=>a
 | .clo _ a=>a
def St.evU(a:St)(x:Operand):Option U:=
 match a.ev x with
 |some (.u u)=>some u
 |_=>none
def St.evC(a:St)(x:Operand):Option C:=
 match a.ev x with
 |some (.u (.c c))=>some c
 |_=>none
def St.evI(a:St)(x:Operand):Option (IntKind×Int):=
 match a.ev x with
 |some (.u (.c (.d (.int k n))))=>some (k,n)
 |_=>none
def St.evB(a:St)(x:Operand):Option Bool:=
 match a.ev x with
 |some (.u (.c (.d (.bool b))))=>some b
 |_=>none
def vI(k:IntKind)(n:Int):V:= .u (.c (.d (.int k n)))
def vB(b:Bool):V:= .u (.c (.d (.bool b)))
def vC(c:C):V:= .u (.c c)
def Dz(p:Prop)[Decidable p]:Option Unit:=if p then some () else none
def HW(k:IntKind)(n:Int):Prop:=k.min<=n/\n<=k.max
instance (k:IntKind) (n:Int):Decidable (HW k n):=inferInstanceAs (Decidable (_/\_))
def DJ(k:IntKind)(n:Int):Option V:=
 if k.signed then (Dz (HW k n)).map λ_=>vI k n else some (vI k (n%2^k.bits))
def Om(k:IntKind)(a b:Int):Int:=k.wrap (BitVec.ofInt k.bits a&&&BitVec.ofInt k.bits b).toNat
def Da(k:IntKind)(a b:Int):Int:=k.wrap (BitVec.ofInt k.bits a|||BitVec.ofInt k.bits b).toNat
def RX(k:IntKind)(a b:Int):Int:=k.wrap (BitVec.ofInt k.bits a^^^BitVec.ofInt k.bits b).toNat
def To(k:IntKind)(a b:Int):Int:=k.wrap (BitVec.ofInt k.bits a&&& ~~~ (BitVec.ofInt k.bits b)).toNat
def CW(k:IntKind)(a b:Int):Int:=k.wrap (a*2^min b.toNat k.bits)
def Ge(k:IntKind)(a b:Int):Int:=a.fdiv (2^min b.toNat k.bits)
def binI(e:BinOp)(k:IntKind)(a b:Int):Option V:=
 match e with
 | .add=>DJ k (a+b)
 | .sub=>DJ k (a - b)
 | .mul=>DJ k (a*b)
 | .quo=>(Dz (b≠0)).bind λ_=>DJ k (a.tdiv b)
 | .rem=>(Dz (b≠0)).map λ_=>vI k (a.tmod b)
 | .eql=>some (vB (decide (a=b)))
 | .neq=>some (vB (!decide (a=b)))
 | .lss=>some (vB (decide (a<b)))
 | .leq=>some (vB (decide (a<=b)))
 | .gtr=>some (vB (decide (b<a)))
 | .geq=>some (vB (decide (b<=a)))
 | .and=>some (vI k (Om k a b))
 | .or=>some (vI k (Da k a b))
 | .xor=>some (vI k (RX k a b))
 | .andNot=>some (vI k (To k a b))
 |_=>none
def shiftI(e:BinOp)(k:IntKind)(a b:Int):Option V:=
 match e with
 | .shl=>(Dz (0<=b)).map λ_=>vI k (CW k a b)
 | .shr=>(Dz (0<=b)).map λ_=>vI k (Ge k a b)
 |_=>none
def JM(z:C)(x y:C):Option Bool:=
 match z,x,y with
 | .d (.int _ _),.d (.int k a),.d (.int e b)=>if k=e then some (decide (a=b)) else none
 | .d (.bool _),.d (.bool a),.d (.bool b)=>some (decide (a=b))
 |_,_,_=>none
def Ey:List C->List C->List C->Option Bool
 |[],[],[]=>some true
 |z::q,a::r,b::s=>(JM z a b).bind λe=>(Ey q r s).map λf=>e&&f
 |_,_,_=>none
def G6(e:BinOp)(a b:ByteArray):Option V:=
 match e with
 | .eql=>some (vB (a.toList==b.toList))
 | .neq=>some (vB (!(a.toList==b.toList)))
 | .add=>(Dz (a.size+b.size<=140737488355328)).map λ_=>vC (.d (.str (a++b)))
 |_=>none
def EJ(i:TI)(x y:V):Option Bool:=
 match x,y with
 | .u (.c a),.u (.c b)=>
  (match i.zero with
  |[.d (.bool _)]=>if i.agg then none else (match a,b with
   | .d (.bool a),.d (.bool b)=>some (decide (a=b))
   |_,_=>none)
  |[.d .nilFn]=>if i.agg then none else (match a,b with
   | .d .nilFn,.d .nilFn=>some true
   | .d (.fn _ _),.d .nilFn=>some false
   |_,_=>none)
  |[.nl]=>if i.agg then none else (match a,b with
   | .nl,.nl=>some true
   | .d (.slice n _),.nl=>if n=0 then none else some false
   |_,_=>none)
  |_=>none)
 | .u (.agg xs),.u (.agg e)=>if i.flat then Ey i.zero xs e else none
 |_,_=>none
def GC(a:BinOp)(b:Bool):Option V:=
 match a with
 | .eql=>some (vB b)
 | .neq=>some (vB !b)
 |_=>none
def Ga:Operand->Bool
 | .const .nilIface=>true
 |_=>false
def FO(T:AH)(a:BinOp)(t:TypeId)(c:C):Option V:=(T t).bind λi=>
 match c,i.zero with
 | .d (.lit .nilIface),[.d (.lit .nilIface)]=>if i.agg then none else GC a true
 | .d .nn,[.d (.lit .nilIface)]=>if i.agg then none else GC a false
 |_,_=>none
def binV(T:AH)(op:BinOp)(t:TypeId)(x y:V):Option V:=
 match x,y with
 | .u (.c (.d (.int k a))),.u (.c (.d (.int e b)))=>
  (match op with
  | .shl=>shiftI .shl k a b
  | .shr=>shiftI .shr k a b
  |op=>if k=e then binI op k a b else none)
 | .u (.c (.d (.str a))),.u (.c (.d (.str b)))=>G6 op a b
 |x,y=>(T t).bind λi=>(EJ i x y).bind (GC op)
def Blk.rd:Blk->Nat->Nat->Option (List C)
 | .row _ b _,a,k=>if a+k<=b.length then some ((cut a k b).map .d) else none
 | .box b,a,k=>if a+k<=b.length then some (cut a k b) else none
 | .fbox _ _,_,_=>none
 | .mp _,_,_=>none
 | .gh _,_,_=>none
def Blk.at:Blk->Nat->Option C
 | .row _ b _,a=>(b[a]?).map .d
 | .box b,a=>b[a]?
 | .fbox _ _,_=>none
 | .mp _,_=>none
 | .gh _,_=>none
def Blk.ld:Blk->Nat->Option U
 | .row _ b _,a=>(b[a]?).map λx=> .c (.d x)
 | .box b,a=>(b[a]?).map .c
 | .fbox f b,a=>if a=0 then some (.clo f b) else none
 | .mp _,_=>none
 | .gh _,_=>none
def splice{α:Type}(off:Nat)(new l:List α):List α:=l.take off++new++l.drop (off+new.length)
def DE(a:Nat->Option (Nat×Nat))(cs:List C):List (Nat×List C)->Option (List C)
 |[]=>some cs
 |(i,v)::r=>(a i).bind λp=>if v.length=p.2/\p.1+p.2<=cs.length then DE a (splice p.1 v cs) r else none
def St.load(i:TI)(c:C)(e:St):Option U:=
 match c with
 | .ptr b a=>(lk b e.h).bind λk=>if i.agg then (k.rd a i.size).map .agg else k.ld a
 | .d (.ref cs)=>if i.agg then (if i.size<=cs.length then some (.agg ((cs.take i.size).map .d)) else none) else (cs[0]?).map λx=> .c (.d x)
 |_=>none
def St.storeB(b off:Nat)(v:List C)(e:St):Blk->Option St
 | .box a=>if off+v.length<=a.length then some (e.blk b (.box (splice off v a))) else none
 | .row _ _ _=>(e.shut v).bind λp=>match lk b p.2.h with
  |some (.row f a app)=>if off+p.1.length<=a.length then some (p.2.blk b (.row f (splice off p.1 a) app)) else none
  |_=>none
 | .fbox _ _=>none
 | .mp _=>none
 | .gh _=>none
def St.storeU(b off:Nat)(v:U)(a:St)(k:Blk):Option St:=
 match v with
 | .clo f e=>(match k with| .box [_]=>if off=0 then some (a.blk b (.fbox f e)) else none|k=>a.storeB b off [.bad] k)
 | .c x=>a.storeB b off [x] k
 | .agg xs=>a.storeB b off xs k
def St.store(i:TI)(c:C)(v:U)(e:St):Option St:=
 if v.cells.length=i.size then
  match c with
  | .ptr b a=>(lk b e.h).bind (e.storeU b a v)
  |_=>none
 else none
def mk(d:Option Nat)(a:St)(b:Blk)(c:Nat->C):Option St:=d.map λd=>(a.new d b).put (some d) (vC (c d))
def St.evUs(a:St):List (Nat×Operand)->Option (List (Nat×List C))
 |[]=>some []
 |(i,x)::r=>(a.evU x).bind λu=>(a.evUs r).map λl=>(i,u.cells)::l
def Qy(T:AH)(i:TI):Option (List (Nat×Nat)):=i.flds.mapM λp=>(T p.2).map λj=>(p.1,j.size)
def Kk(a:List (Nat×Nat))(f:Nat):Option (Nat×Nat):=a[f]?
def F3(sz:Nat)(i:Nat):Option (Nat×Nat):=some (i*sz,sz)
def rep{α:Type}:Nat->List α->List α
 |0,_=>[]
 |n+1,z=>z++rep n z
def build(T:AH)(i:TI)(a:List (Nat×List C)):Option U:=
 match i.arr with
 |some (_,e)=>(T e).bind λj=>(DE (F3 j.size) i.zero a).map .agg
 |none=>if i.agg then (Qy T i).bind λb=>(DE (Kk b) i.zero a).map .agg else none
def Gb(n:Nat)(lo hi:Option Int)(k:Nat->Nat->C):Option C:=
 if 0<=lo.getD 0/\lo.getD 0<=hi.getD n/\hi.getD n<=n then some (k (lo.getD 0).toNat ((hi.getD n).toNat - (lo.getD 0).toNat)) else none
def sliceS(x:C)(lo hi:Option Int):Option C:=
 match x with
 | .d (.str s)=>Gb s.size lo hi λl m=> .d (.str (s.extract l (l+m)))
 |_=>none
def St.evO(a:St):Option Operand->Option (Option Int)
 |none=>some none
 |some x=>(a.evI x).map λp=>some p.2
def CP:Nat:=140737488355328
def St.appGo(e:TI)(d:Nat)(cs:List D)(n:Nat)(news:List D)(m:Nat)(a:St):Option St:=
 if (n+m)*e.bytes<=CP/\n+m<=CP then some ((a.new d (.row e.size (cs++news) true)).put (some d) (vC (.sl d 0 (n+m)))) else none
def St.app(e:TI)(d:Nat)(x:C)(news:List D)(m:Nat)(g:St):Option St:=
 match x with
 | .nl=>g.appGo e d [] 0 news m
 | .sl i a n=>(lk i g.h).bind λb=>match b with
  | .row sz f app=>if app=true/\a=0/\sz=e.size/\f.length=n*sz then (g.drop i).appGo e d f n news m else if e.trunc=true/\app=true/\a=0/\sz=e.size/\n*sz<=f.length then (g.drop i).appGo e d (f.take (n*sz)) n news m else none
  |_=>none
 |_=>none
def St.src(e:TI)(x:C)(g:St):Option (Nat×List D):=
 match x with
 | .nl=>some (0,[])
 | .d (.slice n a)=>if a.length=n*e.size then some (n,a) else none
 | .sl i f n=>(lk i g.h).bind λb=>match b with
  | .row sz a _=>if sz=e.size/\(f+n)*sz<=a.length then some (n,cut (f*sz) (n*sz) a) else none
  |_=>none
 |_=>none
def Ce(i:TI):Bool:=
 match i.agg,i.sl,i.arr,i.zero with
 |false,none,none,[.d (.str _)]=>true
 |_,_,_,_=>false
def lenC:C->Option Nat
 | .nl=>some 0
 | .sl _ _ n=>some n
 | .d (.slice n _)=>some n
 |_=>none
def lenS:C->Option Nat
 | .d (.str s)=>some s.size
 |_=>none
def DL(e:Bool)(k:IntKind):Int->List (IntKind×Int)->Option V
 |a,[]=>some (vI k a)
 |a,(f,b)::r=>if f=k then DL e k (if e then (if a<b then b else a) else (if b<a then b else a)) r else none
def copyTo(e:TI)(d:Option Nat)(i off n:Nat)(b:St)(s:Nat×List D):Blk->Option St
 | .row sz a app=>
  if sz=e.size/\(off+n)*sz<=a.length then
   some ((b.blk i (.row sz (splice (off*sz) (s.2.take (min s.1 n*sz)) a) app)).put d (vI .i64 (min s.1 n:Nat)))
  else none
 |_=>none
def G3(i:TI)(d:Option Nat)(a:St)(x:Operand):Option St:=
 match i.arr with
 |some (n,_)=>some (a.put d (vI .i64 n))
 |none=>(a.evC x).bind λc=>(if i.sl.isSome then lenC c else if Ce i then lenS c else none).map λ(n:Nat)=>a.put d (vI .i64 (n:Int))
def clearTo(j:TI)(z:List D)(d:Option Nat)(e:St):C->Option St
 | .nl=>some (e.put d (.tup []))
 | .sl b a n=>(lk b e.h).bind λk=>match k with
  | .row sz f app=>if sz=j.size/\(a+n)*sz<=f.length then some ((e.blk b (.row sz (splice (a*sz) (rep n z) f) app)).put d (.tup [])) else none
  |_=>none
 |_=>none
def MF(i:TI):Bool:=match i.agg,i.zero with|false,[.d (.int _ _)]=>true|_,_=>false
def J1(s:ByteArray):List D:=s.data.toList.map λb=> .int .u8 b.toNat
def J0(k j:TI)(d:Nat)(a:St):C->C->Option St
 | .nl,.d (.int .i64 n)=>if MF k=true/\0<n/\n*j.bytes<=CP/\n<=CP then some ((a.new d (.row j.size [] true)).put (some d) (vC (.sl d 0 n.toNat))) else none
 |c,.d (.str s)=>if Ce k=true/\j.size=1 then a.app j d c (J1 s) s.size else none
 |_,_=>none
def Ko(i:TI)(d:Option Nat)(a:St)(x:Operand):Option St:=
 if i.sl.isSome then (match a.evC x with|some .nl=>some (a.put d (vI .i64 0))|_=>none) else none
def FK(T:AH)(b:Builtin)(m:List TypeId)(args:List Operand)(d:Option Nat)(a:St):Option St:=
 match b,m,args with
 | .len,[t],[x]=>(T t).bind λi=>G3 i d a x
 | .append,[t,f],[x,y]=>
  d.bind λd=>(T t).bind λi=>i.sl.bind λe=>(T e).bind λj=>(a.evC x).bind λc=>(a.evC y).bind λs=>
   if f=t then (a.src j s).bind λp=>a.app j d c p.2 p.1 else (T f).bind λk=>J0 k j d a c s
 | .copy,[t,f],[x,y]=>
  (T t).bind λi=>i.sl.bind λe=>(T e).bind λj=>(a.evC x).bind λc=>(a.evC y).bind λs=>
   match c with
   | .sl b g n=>if f=t then (a.src j s).bind λp=>(lk b a.h).bind (copyTo j d b g n a p) else none
   |_=>none
 | .min,_,x::r=>(a.evI x).bind λp=>(r.mapM a.evI).bind λl=>(DL false p.1 p.2 l).map λv=>a.put d v
 | .clear,[t],[x]=>(T t).bind λi=>i.sl.bind λe=>(T e).bind λj=>(a.evC x).bind λc=>(j.zero.mapM (toD (λ_=>false) a.h 4)).bind λz=>clearTo j z d a c
 | .max,_,x::r=>(a.evI x).bind λp=>(r.mapM a.evI).bind λl=>(DL true p.1 p.2 l).map λv=>a.put d v
 | .cap,[t],[x]=>(T t).bind λi=>Ko i d a x
 |_,_,_=>none
def GH(T:AH)(ty:TypeId)(d:Option Nat)(a:St):Option St:=
 d.bind λd=>(T ty).bind λi=>i.sl.bind λe=>(T e).map λj=>(a.new d (.row j.size [] true)).put (some d) (vC (.sl d 0 0))
def EU:C->Bool
 | .ptr _ _=>true
 |_=>false
def FG(j:TI)(a:Nat)(d:Option Nat)(e:St)(l:List (Nat×List C)):Option St:=
 if a*j.size<=10000/\a<=10000 then (DE (F3 j.size) (rep a j.zero) l).bind λb=>
  if j.size=1/\b.any EU=true then mk d e (.box b) λd=> .sl d 0 a else (e.shut b).bind λp=>mk d p.2 (.row j.size p.1 true) λd=> .sl d 0 a else none
def FC(j:TI)(d:Option Nat)(a:St)(l c:Int):Option St:=
 if 0<=l/\l<=c/\c*j.bytes<=CP/\c<=CP then
  (j.zero.mapM a.cD).bind λz=>mk d a (.row j.size (rep l.toNat z) true) λd=> .sl d 0 l.toNat
 else none
def nilChk:C->Option C
 | .ptr i a=>some (.ptr i a)
 | .d (.ref cs)=>some (.d (.ref cs))
 | .d (.fn f caps)=>some (.d (.fn f caps))
 |_=>none
def fldAddr(o:Nat):C->Option C
 | .ptr i a=>some (.ptr i (a+o))
 | .d (.ref cs)=>some (.d (.ref (cs.drop o)))
 |_=>none
def isRow(h:List (Nat×Blk))(b sz:Nat):Bool:=
 match lk b h with
 |some (.row a _ _)=>decide (a=sz)
 |some (.box _)=>decide (sz=1)
 |_=>false
def sliceV(h:List (Nat×Blk))(x:C)(lo hi:Option Int)(sz:Nat):Option C:=
 match x with
 | .sl i a n=>if isRow h i sz=true then Gb n lo hi λl m=> .sl i (a+l) m else none
 | .nl=>Gb 0 lo hi λ_ _=> .nl
 | .d (.slice n b)=>if b.length=n*sz then Gb n lo hi λl m=> .d (.slice m (cut (l*sz) (m*sz) b)) else none
 |_=>none
def idxSl(h:List (Nat×Blk))(sz:Nat)(i:Int):C->Option C
 | .sl b a n=>if 0<=i/\i<n/\isRow h b sz=true then some (.ptr b ((a+i.toNat)*sz)) else none
 | .d (.slice n e)=>if 0<=i/\i<n/\e.length=n*sz then some (.d (.ref (e.drop (i.toNat*sz)))) else none
 |_=>none
def idxArr(n sz:Nat)(i:Int):C->Option C
 | .ptr b a=>if 0<=i/\i<n then some (.ptr b (a+i.toNat*sz)) else none
 | .d (.ref cs)=>if 0<=i/\i<n then some (.d (.ref (cs.drop (i.toNat*sz)))) else none
 |_=>none
def idxAddr(T:AH)(h:List (Nat×Blk))(i:TI)(n:Int)(c:C):Option C:=
 match i.arr with
 |some (m,e)=>(T e).bind λj=>idxArr m j.size n c
 |none=>i.sl.bind λe=>(T e).bind λj=>idxSl h j.size n c
def part(j:TI)(off:Nat)(cs:List C):Option U:=
 if j.agg then (if off+j.size<=cs.length then some (.agg (cut off j.size cs)) else none) else (cs[off]?).map .c
def fieldOf(T:AH)(i:TI)(f:Nat):U->Option U
 | .agg cs=>(i.flds[f]?).bind λp=>(T p.2).bind λj=>part j p.1 cs
 |_=>none
def indexOf(T:AH)(i:TI)(n:Int):U->Option U
 | .agg cs=>i.arr.bind λp=>(T p.2).bind λj=>if 0<=n/\n<p.1 then part j (n.toNat*j.size) cs else none
 | .c (.d (.str s))=>if Ce i=true/\0<=n/\n<s.size then (s[n.toNat]?).map λb=> .c (.d (.int .u8 b.toNat)) else none
 |_=>none
def tupAt(i:Nat):V->Option U
 | .tup us=>us[i]?
 |_=>none
def LY(i:TI)(n:Int):Option V:=
 if i.agg then none else
 match i.zero with
 |[.d (.int k _)]=>some (vI k (k.wrap n))
 |_=>none
def Iv:List D->Option (List Int)
 |[]=>some []
 | .int .u8 n::r=>(Iv r).map (n:: ·)
 |_=>none
def jcf(T:AH)(e:Nat):Bool:=match T e with|some i=> !i.agg&&(match i.zero with|[.d (.int .u8 _)]=>true|_=>false)|none=>false
def MM(l:List Int):ByteArray:=l.foldl (λr n=>r.push (UInt8.ofNat n.toNat)) ByteArray.empty
def Un(T:AH)(j:TI):Bool:=match j.sl with|some e=>jcf T e|none=>false
def convC(T:AH)(h:List (Nat×Blk))(j i:TI):C->Option V
 | .d (.int _ n)=>LY i n
 | .sl b a n=>if Ce i=true/\Un T j=true/\0<n then (lk b h).bind λk=>(match k with
  | .row 1 cs _=>if a+n<=cs.length then (Iv (cut a n cs)).map λl=>vC (.d (.str (MM l))) else none
  |_=>none) else none
 |_=>none
def C.pure? :C->Option D
 | .d x=>some x
 | .nl=>some (.slice 0 [])
 |_=>none
def ifaceOf(i:TI)(t:TypeId):U->Option C
 | .agg cs=>if i.agg then (cs.mapM C.pure?).map λa=> .d (.iface t a) else none
 |_=>none
def assertOf(i:TI)(t:TypeId):C->Option V
 | .d (.iface t' a)=>if i.agg=true/\2<=i.size then (if t'=t then some (.tup [.agg (a.map .d),.c (.d (.bool true))]) else some (.tup [.agg i.zero,.c (.d (.bool false))])) else none
 |_=>none
def pickV(b:Bool)(x y:Option V):Option V:=if b then x else y
def D6:Ky->Ky->Bool
 | .s a,.s b=>a==b
 | .n a,.n b=>a==b
 |_,_=>false
def Ky.num:Ky->Bool
 | .s _=>false
 | .n _=>true
def B5(k:Ky):List (Ky×Int)->Nat->Option (Nat×Int)
 |[],_=>none
 |(a,v)::r,i=>if D6 k a then some (i,v) else B5 k r (i+1)
def GY(k:Ky)(v:Int)(a:List (Ky×Int)):List (Ky×Int):=match B5 k a 0 with
 |some p=>a.set p.1 (k,v)
 |none=>a++[(k,v)]
def C.str? :C->Option ByteArray
 | .d (.str s)=>some s
 |_=>none
def C.key?(b:Bool):C->Option Ky
 | .d (.str s)=>if b then none else some (.s s)
 | .d (.int .i64 n)=>if b then some (.n n) else none
 |_=>none
def HO(a:St):C->Option (Nat×List (Ky×Int))
 | .mp false i=>(lk i a.h).bind λb=>match b with| .mp (.mp es)=>some (i,es)|_=>none
 |_=>none
def found(c:Bool)(a:List (Ky×Int))(k:Ky):V:=if c then .tup [.c (.d (.int .i64 (((B5 k a 0).map (·.2)).getD 0))),.c (.d (.bool (B5 k a 0).isSome))] else .u (.c (.d (.int .i64 (((B5 k a 0).map (·.2)).getD 0))))
def Hh(a:St)(d:Option Nat)(c b:Bool)(m k:C):Option St:=(HO a m).bind λp=>(k.key? b).bind λs=>if p.2.all (λe=>e.1.num==b)=true then some (a.put d (found c p.2 s)) else none
def G7(a:St)(d:Option Nat)(b:Bool)(m k v:C):Option St:=(HO a m).bind λp=>(k.key? b).bind λs=>match v with
 | .d (.int .i64 n)=>if p.2.all (λe=>e.1.num==b)=true then some ((a.blk p.1 (.mp (.mp (GY s n p.2)))).put d (.tup [])) else none
 |_=>none
def KL(a:St):C->Option (Nat×ByteArray×Nat)
 | .mp true i=>(lk i a.h).bind λb=>match b with| .mp (.it s p)=>some (i,s,p)|_=>none
 |_=>none
def GN(a:St)(d:Option Nat)(c:C):Option St:=(KL a c).map λq=>
 if q.2.2<q.2.1.size then (a.blk q.1 (.mp (.it q.2.1 (q.2.2+(Utf8.decode q.2.1 q.2.2).2)))).put d (.tup [.c (.d (.bool true)),.c (.d (.int .i64 q.2.2)),.c (.d (.int .i32 (Utf8.decode q.2.1 q.2.2).1))])
 else a.put d (.tup [.c (.d (.bool false))])
def clo(h:List (Nat×Blk))(f:FuncId)(cs:List C):U:=
 match cs.mapM (toD (λ_=>false) h 4)with
 |some a=> .c (.d (.fn f a))
 |none=> .clo f cs
def Fq:U->Blk
 | .clo f a=> .fbox f a
 | .c x=> .box [x]
 | .agg a=> .box a
def DH(T:AH)(o:Oper)(g:St):Option St:=
 match o.op with
 | .assign (.const (.slice none 0 0))=>GH T o.type o.dst g
 | .move x| .assign x=>(g.ev x).map λv=>g.put o.dst v
 | .pick c a b=>(g.evB c).bind λc=>(pickV c (g.ev a) (g.ev b)).map λv=>g.put o.dst v
 | .alloc t=>(T t).bind λi=>mk o.dst g (.box i.zero) λd=> .ptr d 0
 | .box t x=>(T t).bind λi=>(g.evU x).bind λu=>if u.cells.length=i.size then mk o.dst g (Fq u) (λd=> .ptr d 0) else none
 | .build t q=>(T t).bind λi=>(g.evUs q.toList).bind λl=>(build T i l).map λu=>g.put o.dst (.u u)
 | .buildSlice t w q=>(T t).bind λi=>i.sl.bind λe=>(T e).bind λj=>(g.evUs q.toList).bind (FG j w o.dst g)
 | .load t a=>(T t).bind λi=>(g.evC a).bind λc=>(g.load i c).map λu=>g.put o.dst (.u u)
 | .store t a x=>(T t).bind λi=>(g.evC a).bind λc=>(g.evU x).bind λu=>(g.store i c u).map λs=>s.put o.dst (.tup [])
 | .nilCheck x=>(g.evC x).bind λc=>(nilChk c).map λc=>g.put o.dst (vC c)
 | .binOp op t x y _=>if Ga y=true then (g.evC x).bind λc=>(FO T op t c).map λv=>g.put o.dst v else (g.ev x).bind λa=>(g.ev y).bind λb=>(binV T op t a b).map λv=>g.put o.dst v
 | .unOp .not _ x=>(g.evB x).map λb=>g.put o.dst (vB !b)
 | .unOp .neg _ x=>(g.evI x).bind λp=>(DJ p.1 (0 - p.2)).map λv=>g.put o.dst v
 | .convert s t x=>(T s).bind λj=>(T t).bind λi=>(g.evC x).bind λc=>(convC T g.h j i c).map λv=>g.put o.dst v
 | .makeSlice t l c=>(T t).bind λi=>i.sl.bind λe=>(T e).bind λj=>(g.evI l).bind λl=>(g.evI c).bind λc=>FC j o.dst g l.2 c.2
 | .slice t x lo hi none=>(T t).bind λi=>(g.evC x).bind λc=>(g.evO lo).bind λl=>(g.evO hi).bind λh=>
   (match i.sl with|some e=>(T e).bind λj=>sliceV g.h c l h j.size|none=>if Ce i then sliceS c l h else none).map λv=>g.put o.dst (vC v)
 | .fieldAddr t x f=>(T t).bind λi=>(g.evC x).bind λc=>(i.flds[f]?).bind λp=>(T p.2).bind λj=>if j.size=0 then none else (fldAddr p.1 c).map λc=>g.put o.dst (vC c)
 | .field t x f=>(T t).bind λi=>(g.evU x).bind λu=>(fieldOf T i f u).map λu=>g.put o.dst (.u u)
 | .indexAddr t x i=>(T t).bind λz=>(g.evC x).bind λc=>(g.evI i).bind λn=>(idxAddr T g.h z n.2 c).map λc=>g.put o.dst (vC c)
 | .index t x i=>(T t).bind λz=>(g.evU x).bind λu=>(g.evI i).bind λn=>(indexOf T z n.2 u).map λu=>g.put o.dst (.u u)
 | .extract x i=>(g.ev x).bind λv=>(tupAt i v).map λu=>g.put o.dst (.u u)
 | .makeFunc (.func f) first r=>if first.toList=[] then (r.toList.mapM g.evC).map λE=>g.put o.dst (.u (clo g.h f E)) else none
 | .call { callee:= .builtin b,args,argTypes }=>FK T b argTypes.toList args.toList o.dst g
 | .makeInterface t x=>(T t).bind λi=>(g.evU x).bind λu=>(ifaceOf i t u).map λc=>g.put o.dst (vC c)
 | .makeMap t none=>(T t).bind λi=>if i.mp then mk o.dst g (.mp (.mp [])) λd=> .mp false d else none
 | .range t x=>(T t).bind λi=>if Ce i=true then (g.evC x).bind λc=>c.str?.bind λs=>mk o.dst g (.mp (.it s 0)) λd=> .mp true d else none
 | .next x true=>(g.evC x).bind λc=>GN g o.dst c
 | .lookup t m k c=>(T t).bind λi=>if i.mp then (g.evC m).bind λm=>(g.evC k).bind λk=>Hh g o.dst c i.mpi m k else none
 | .mapUpdate t m k x=>(T t).bind λi=>if i.mp then (g.evC m).bind λm=>(g.evC k).bind λk=>(g.evC x).bind λx=>G7 g o.dst i.mpi m k x else none
 | .typeAssert x _ t true=>(T t).bind λi=>(g.evC x).bind λc=>(assertOf i t c).map λv=>g.put o.dst v
 |_=>none
def U.toA(ids:List Nat)(h:List (Nat×Blk)):U->Option A
 | .c x=>(toD (ids.contains ·) h 4 x).map .c
 | .agg a=>(a.mapM (toD (ids.contains ·) h 4)).map .agg
 | .clo f a=>(a.mapM (toD (ids.contains ·) h 4)).map λb=> .c (.fn f b)
def D.flat:D->Bool
 | .slice _ _=>false
 | .ref _=>false
 | .fn _ _=>false
 | .iface _ _=>false
 |_=>true
def RC.flat:RC->Bool
 | .d x=>x.flat
 | .own _ _ a=>a.all D.flat
def RU.flat:RU->Bool
 | .c x=>x.flat
 | .agg cs=>cs.all RC.flat
def R.flat:R->Bool
 | .u x=>x.flat
 | .tup xs=>xs.all RU.flat
def RC.imp(k:Nat):RC->C
 | .d x=> .d x
 | .own _ n _=> .sl k 0 n
def RU.imp(k:Nat):RU->U
 | .c x=> .c (x.imp k)
 | .agg cs=> .agg (cs.map (RC.imp k))
def R.imp(k:Nat):R->V
 | .u x=> .u (x.imp k)
 | .tup xs=> .tup (xs.map (RU.imp k))
def RC.rows:RC->List Blk
 | .d _=>[]
 | .own sz _ a=>[.row sz a true]
def RU.rows:RU->List Blk
 | .c x=>x.rows
 | .agg cs=>cs.flatMap RC.rows
def R.rows:R->List Blk
 | .u x=>x.rows
 | .tup xs=>xs.flatMap RU.rows
def St.back(dst:Option Nat)(a:List Nat)(e:R)(f:St):St:=
 let s:=if e.flat then f else f.freeze a
 let k:=dst.getD 0
 (match e.rows with|[]=>s|b::_=>s.new k b).put dst (e.imp k)
def St.backW(dst:Option Nat)(ids:List Nat)(e:List (Nat×Blk))(a:R)(b:St):St:=
 ({ b with h:=e++Ds (ids.contains ·) b.h }:St).put dst (a.imp 0)
def St.argsW(b:St)(ids:List Nat)(e:List U)(caps:List D):Option (List A):=(e.mapM (U.toA ids b.h)).map λa=>a++caps.map .c
def St.reachU(a:St)(b:List U):List Nat:=DZ a.h 5 (b.flatMap U.all)
def GB:List Nat:=[0,1,4,5]
def R9(k:Nat)(w:World):Prop:= ∃a,w.cell? ⟨k,0,none⟩=some a/\(a= .nilIface\/ ∃e b,a= .iface e b)
def GW(w:World):Prop:=(∃m,w.cell? ⟨0,0,none⟩=some (.int .i64 m))/\(∃t f,w.heap[1]? =some (.cells (((List.range 20).map λi=>((10^i:Nat):Int)).map λz=>Value.int .u64 z).toArray t f))/\R9 4 w/\R9 5 w
class DrC where
 dr:Nat->Nat->Prop
 refl: ∀a,dr a a
 le: ∀{a b},a<=b->dr a b
 trans: ∀{a b c},dr a b->dr b c->dr a c
instance (priority:=low) drT:DrC:=⟨λ_ _=>True,λ_=>trivial,λ_=>trivial,λ_ _=>trivial⟩
abbrev jd6:DrC:=⟨λa b=>a<=b,AO,λh=>h,Nat.le_trans⟩
def DR[DrC](a b:Nat):Prop:=DrC.dr a b
theorem DR.refl[DrC](a:Nat):DR a a:=DrC.refl a
theorem DR.le[DrC]{a b:Nat}(h:a<=b):DR a b:=DrC.le h
theorem DR.trans[DrC]{a b c:Nat}(h:DR a b)(k:DR b c):DR a c:=DrC.trans h k
theorem Wc{w w':World}{k:Nat}(a:w'.heap[k]? =w.heap[k]?):w'.cell? ⟨k,0,none⟩=w.cell? ⟨k,0,none⟩:=by
 unfold World.cell?;simp only;rw[a]
theorem GW.keep{w w':World}(h:GW w)(a: ∀k∈GB,w'.heap[k]? =w.heap[k]?):GW w':=by
 obtain⟨⟨m,j⟩,⟨t,f,l⟩,⟨b,g,o⟩,⟨e,i,p⟩⟩:=h;exact⟨⟨m,(Wc (a 0 O2)).trans j⟩,⟨t,f,(a 1 O2).trans l⟩,⟨b,(Wc (a 4 O2)).trans g,o⟩,⟨e,(Wc (a 5 O2)).trans i,p⟩⟩
end Go.Va
namespace Go.Va
open _root_.Nat renaming beq → aD
open Go.RowKit
structure Own where
 g:Nat
 o:Nat
 sz:Nat
 room:Nat
 app:Bool
 nil:Bool
 gone:Bool:=nil
def Own.has(x:Own)(a:Addr):Prop:=x.gone=false/\a.block=x.g/\(x.nil=true\/x.o<=a.off)/\(x.nil=true\/a.off<x.o+x.room*x.sz)
def Own.mp(x:Own):Prop:=x.nil=true/\x.gone=false
abbrev Own.at(x:Own)(j:Nat):Addr:=⟨x.g,x.o+j,none⟩
abbrev one(v:Value):Prop:=v.oneCell'=true
inductive RepD (w:World) (Z:Addr->Prop):D->Value->Prop
 |int (k:IntKind) (n:Int):RepD w Z (.int k n) (.int k n)
 |bool (b:Bool):RepD w Z (.bool b) (.bool b)
 |str (s:ByteArray):RepD w Z (.str s) (.string s)
 |slice (n:Nat) (cs:List D) (a:Addr) (c:Nat) (vs:Nat->Value) (hs:cs≠[]->a.spot=none) (hn:n<=c) (hc:c<=maxLen)
   (h1: ∀(j:Nat) (x:D),cs[j]? =some x->w.cell? ⟨a.block,a.off+j,none⟩=some (vs j))
   (h2: ∀(j:Nat) (x:D),cs[j]? =some x-> ¬Z ⟨a.block,a.off+j,none⟩)
   (h3: ∀(j:Nat) (x:D),cs[j]? =some x->RepD w Z x (vs j)):RepD w Z (.slice n cs) (.slice (some a) n c)
 |snil:RepD w Z (.slice 0 []) (.slice none 0 0)
 |ref (cs:List D) (a:Addr) (vs:Nat->Value) (hs:cs≠[]->a.spot=none)
   (h1: ∀(j:Nat) (x:D),cs[j]? =some x->w.cell? ⟨a.block,a.off+j,none⟩=some (vs j))
   (h2: ∀(j:Nat) (x:D),cs[j]? =some x-> ¬Z ⟨a.block,a.off+j,none⟩)
   (h3: ∀(j:Nat) (x:D),cs[j]? =some x->RepD w Z x (vs j)):RepD w Z (.ref cs) (.pointer (some a))
 |fn (f:FuncId) (caps:List D) (vs:List Value) (hl:caps.length=vs.length)
   (h3: ∀(j:Nat) (x:D) (v:Value),caps[j]? =some x->vs[j]? =some v->RepD w Z x v):RepD w Z (.fn f caps) (.func (.func f) #[] vs.toArray)
 |nilFn:RepD w Z .nilFn .nilFunc
 |nilPtr:RepD w Z .nilPtr (.pointer none)
 |iface (t:TypeId) (cs:List D) (vs:List Value) (hl:cs.length=vs.length)
   (h3: ∀(j:Nat) (x:D) (v:Value),cs[j]? =some x->vs[j]? =some v->RepD w Z x v):RepD w Z (.iface t cs) (.iface t (.agg vs.toArray))
 |lit (x:Value) (h:one x):RepD w Z (.lit x) x
 |any (x:Value) (h:one x):RepD w Z .any x
 |nn (t:TypeId) (x:Value):RepD w Z .nn (.iface t x)
abbrev AE:=Nat->Option Own
def Ar(ρ:AE)(Z:Addr->Prop)(a:Addr):Prop:=Z a\/ ∃i o,ρ i=some o/\o.has a
def RepC(ρ:AE)(w:World)(Z:Addr->Prop):C->Value->Prop
 | .d x,v=>RepD w (Ar ρ Z) x v
 | .nl,v=>v= .slice none 0 0
 | .sl i b n,v=> ∃o,ρ i=some o/\b+n<=o.room/\
   ((o.nil=true/\v= .slice none 0 0/\b=0/\n=0)\/
   (o.nil=false/\ ∃a c,v= .slice (some a) n c/\n<=c/\c<=maxLen/\(c=0\/a=o.at (b*o.sz))/\(o.app=true->b+c<=o.room)))
 | .ptr i b,v=> ∃o,ρ i=some o/\o.nil=false/\v= .pointer (some (o.at b))
 | .bad,v=>one v
 | .mp q i,v=> ∃o,ρ i=some o/\v=(if q=true then .pointer (some ⟨o.g,0,none⟩) else .map (some o.g))
def RepL{α:Type}(r:α->Value->Prop)(a:List α)(vs:List Value):Prop:=
 a.length=vs.length/\ ∀(j:Nat) (x:α) (v:Value),a[j]? =some x->vs[j]? =some v->r x v
def RepU(ρ:AE)(w:World)(Z:Addr->Prop):U->Value->Prop
 | .c x,v=>RepC ρ w Z x v
 | .agg b,v=> ∃a:List Value,v= .agg a.toArray/\RepL (RepC ρ w Z) b a
 | .clo f b,v=> ∃a:List Value,v= .func (.func f) #[] a.toArray/\RepL (RepC ρ w Z) b a
def RepV(ρ:AE)(w:World)(Z:Addr->Prop):V->Value->Prop
 | .u x,v=>RepU ρ w Z x v
 | .tup xs,v=> ∃a:List Value,v= .tuple a.toArray/\RepL (RepU ρ w Z) xs a
 | .tr _ _,_=>True
def Ky.v:Ky->Value
 | .s b=> .string b
 | .n i=> .int .i64 i
def Ee(e:Ky×Int):Value×Value:=(e.1.v,.int .i64 e.2)
def IQ:Ob->Obj->Prop
 | .mp es,.map a _=>a.toList.map (λe=>(e.key,e.val))=es.map Ee
 | .it s p,.stringIter f b=>f=s/\b=p
 |_,_=>False
def Fc(y:Obj):Prop:= ∀c e f,y≠ .cells c e f
class Gv where
 gv:Nat->Value->Prop
instance (priority:=low):Gv:=⟨λ_ _=>False⟩
section
variable [Gv]
def RepB(ρ:AE)(w:World)(Z:Addr->Prop)(o:Own):Blk->Prop
 | .row sz a app=>o.sz=sz/\o.app=app/\a.length<=o.room*sz/\((o.nil=true->o.room=0)/\o.gone=o.nil)/\
   ∀(j:Nat) (x:D),a[j]? =some x-> ∃v,w.cell? (o.at j)=some v/\RepD w (Ar ρ Z) x v
 | .box a=>o.sz=1/\o.room=a.length/\(o.nil=false/\o.gone=false)/\
   ∀(j:Nat) (c:C),a[j]? =some c-> ∃v,w.cell? (o.at j)=some v/\one v/\RepC ρ w Z c v
 | .fbox f a=>o.sz=1/\o.room=1/\(o.nil=false/\o.gone=false)/\ ∃v,w.cell? (o.at 0)=some v/\RepU ρ w Z (.clo f a) v
 | .mp x=>o.room=0/\o.mp/\ ∃y,w.heap[o.g]? =some y/\IQ x y
 | .gh a=>o.room=0/\(o.nil=true/\o.gone=true)/\ ∀(j:Nat) (c:C),a[j]? =some c-> ∀v,Gv.gv j v->RepC ρ w Z c v
end
variable [DrC]
structure Ext (w w':World):Prop extends Below w.heap.size w w' where
 drawn:DR w.drawn w'.drawn
structure Fr (M:Addr->Prop) (w0 w:World):Prop where
 os:w.os=w0.os
 drawn:DR w0.drawn w.drawn
 tape:w.tape=w0.tape
 output:w.output=w0.output
 size:w0.heap.size<=w.heap.size
 cell: ∀(a:Addr) (v:Value),¬M a->w0.cell? a=some v->w.cell? a=some v
 frz: ∀a:Addr,¬M a->a.block<w0.heap.size->w.frozen? a=w0.frozen? a
 blk: ∀k,k<w0.heap.size->(∀a:Addr,a.block=k-> ¬M a)->w.heap[k]? =w0.heap[k]?
structure ZOk (w:World) (Z Z1:Addr->Prop):Prop where
 lt: ∀ad,Z ad->ad.block<w.heap.size
 gl: ∀k∈GB,k<w.heap.size/\ ∀ad:Addr,ad.block=k-> ¬Z1 ad
 gw:GW w
instance {w:World} {Z Z1:Addr->Prop}:CoeFun (ZOk w Z Z1) λ_=> ∀a,Z a->a.block<w.heap.size:=⟨ZOk.lt⟩
variable{w:World}{α:Type}
theorem ZOk.keep{w':World}{Z Z1 M Z' b:Addr->Prop}(h:ZOk w Z Z1)(f:Fr M w w')(l: ∀a,M a->Z1 a)(i: ∀a,Z' a->a.block<w'.heap.size)(m: ∀a,b a->Z1 a\/w.heap.size<=a.block):ZOk w' Z' b where
 lt:=i
 gl:=λk g=>⟨Nat.lt_of_lt_of_le (h.gl k g).1 f.size,λa e o=>by
  have q:=h.gl k g;grind⟩
 gw:=h.gw.keep λk g=>f.blk k (h.gl k g).1 λa e j=>(h.gl k g).2 a e (l a j)
theorem ZOk.mono{Z Z1 a:Addr->Prop}(h:ZOk w Z Z1)(g: ∀b,a b->Z1 b):ZOk w Z a:=⟨h.lt,λk f=>⟨(h.gl k f).1,λb e i=>(h.gl k f).2 b e (g b i)⟩,h.gw⟩
theorem ZOk.sub{Z Z1 Z' b:Addr->Prop}(h:ZOk w Z Z1)(f: ∀a,Z' a->a.block<w.heap.size)(i: ∀a,b a->Z1 a):ZOk w Z' b:=⟨f,λk g=>⟨(h.gl k g).1,λa e j=>(h.gl k g).2 a e (i a j)⟩,h.gw⟩
structure Owns (ρ:AE) (w:World):Prop where
 cells: ∀i o,ρ i=some o->o.gone=false-> ∀j,j<o.room*o.sz->(∃v,w.cell? (o.at j)=some v)/\w.frozen? (o.at j)=false
 apart: ∀i i' o o',ρ i=some o->ρ i'=some o'->i≠i'-> ∀a,o.has a-> ¬o'.has a
 lim: ∀i o,ρ i=some o->o.room<=maxLen
structure Heap [Gv] (ρ:AE) (w:World) (Z:Addr->Prop) (h:List (Nat×Blk)):Prop where
 owns:Owns ρ w
 rep: ∀i b,lk i h=some b-> ∃o,ρ i=some o/\RepB ρ w Z o b
def Mps(ρ:AE)(w:World):Prop:= ∀i o,ρ i=some o->o.mp-> ∃y,w.heap[o.g]? =some y/\Fc y
structure Rel [Gv] (M:Addr->Prop) (Z:Addr->Prop) (w0:World) (ρ:AE) (st:St) (a:Act) (w:World):Prop where
 fr:Fr M w0 w
 heap:Heap ρ w Z st.h
 mine: ∀i o ad,ρ i=some o->o.has ad->M ad\/w0.heap.size<=ad.block
 out:ZOk w0 Z λad=>Z ad\/M ad
 mz: ∀ad,M ad-> ¬Z ad
 tmps: ∀t v,lk t st.t=some v->RepV ρ w Z v (a.tmps.getD t undef)
 defers:a.defers=[]
 mps:Mps ρ w
def A.rep(w:World)(Z:Addr->Prop):A->Value->Prop
 | .c x,v=>RepD w Z x v
 | .agg cs,v=> ∃a:List Value,v= .agg a.toArray/\RepL (RepD w Z) cs a
def B3(k:Nat)(bs:List Blk)(o:Own):AE:=λi=>match bs with|[]=>none|_=>if i=k then some o else none
def Hb[Gv](w w':World)(Z:Addr->Prop)(r:R)(v:Value):Prop:=
 r.rows.length<=1/\ ∃o:Own,(∀a,o.has a->w.heap.size<=a.block)/\
  ∀k,RepV (B3 k r.rows o) w' Z (r.imp k) v/\Heap (B3 k r.rows o) w' Z (match r.rows with|[]=>[]|b::_=>[(k,b)])
def CY (P : Program) (f : FuncId) : Prop := ∃ fn, P.funcs[f]? = some fn ∧ fn.body.isSome = true ∧ (fn.name == "runtime.NumGoroutine") = false
def CallsF(P:Program)(f:FuncId)(b:List A)(r:R):Prop:=
 CY P f/\ ∀[Gv] (w:World) (Z:Addr->Prop) (vals:List Value),ZOk w Z Z->RepL (A.rep w Z) b vals->
  Calls P f vals.toArray w λe a=> ∃v,e= .returned v/\Ext w a/\Hb w a Z r v
def Cells(ρ:AE)(a:Addr):Prop:= ∃i o,ρ i=some o/\o.has a
def Fw(P:Program)(f:FuncId)(j:List U)(h g:List (Nat×Blk))(r:R):Prop:=
 CY P f/\r.rows=[]/\ ∀[Gv] (w:World) (Z:Addr->Prop) (ρ:AE) (vals:List Value),ZOk w Z (Ar ρ Z)->Heap ρ w Z h->(∀b,Cells ρ b-> ¬Z b)->(∀i o,ρ i=some o->(lk i h).isSome=true)->
  RepL (RepU ρ w Z) j vals->
  Calls P f vals.toArray w λe a=> ∃v,e= .returned v/\Fr (Cells ρ) w a/\Heap ρ a Z g/\RepV (λ_=>none) a (Ar ρ Z) (r.imp 0) v
def GJ(P:Program)(f:FuncId)(q:List U)(p k:List C)(h m:List (Nat×Blk))(v:V):Prop:=
 CY P f/\ ∀[Gv] (w:World) (Z:Addr->Prop) (ρ:AE) (vals:List Value),ZOk w Z (Ar ρ Z)->Heap ρ w Z h->(∀b,Cells ρ b-> ¬Z b)->(∀i o,ρ i=some o->(lk i h).isSome=true)->
  RepL (RepU ρ w Z) q vals->
  Calls P f vals.toArray w λe g=> ∃x,e= .returned x/\ ∃a,Fr (Cells ρ) w g/\Heap a g Z m/\(∀i o,a i=some o->(lk i m).isSome=true)/\(∀b,Cells a b->Cells ρ b\/w.heap.size<=b.block)/\
   (∀(j:Nat) (c l:C),p[j]? =some c->k[j]? =some l-> ∀y,RepC ρ w Z c y->RepC a g Z l y)/\RepV a g Z v x
structure Yl where
 g:FuncId
 caps:List Value
 J:List (List A)->(Addr->Prop)->(Addr->Prop)->World->Prop
def Yl.x(Y:Yl):Value:= .func (.func Y.g) #[] Y.caps.toArray
structure YlOk (P:Program) (Y:Yl):Prop where
 sub: ∀rest R D w,Y.J rest R D w->(∀ad,R ad->D ad)/\(∀ad,D ad->ad.block<w.heap.size)
 stable: ∀rest R D (w w':World) (M:Addr->Prop),Y.J rest R D w->(∀ad,M ad-> ¬D ad)->Fr M w w'->Y.J rest R D w'
 step: ∀y rest R (D D2:Addr->Prop) (w:World) (vals:List Value),Y.J (y::rest) R D w->(∀ad,D ad->D2 ad)->ZOk w D2 (λad=>R ad\/ ¬D2 ad)->RepL (A.rep w λad=>R ad\/ ¬D2 ad) y vals->
  CY P Y.g/\Calls P Y.g (vals++Y.caps).toArray w λe w'=>e= .returned (.tuple #[])/\ ∃R' D',Y.J rest R' D' w'/\Fr R w w'/\(∀ad,R' ad->R ad\/w.heap.size<=ad.block)/\(∀ad,D' ad->D2 ad\/w.heap.size<=ad.block)/\(∀ad,D ad->D' ad)
def Gy(P:Program)(x:Value)(f:FuncId)(j:List A)(k:List (List A)):Prop:=
 CY P f/\ ∀(Y:Yl),Y.x=x->YlOk P Y-> ∀(w:World) (Z:Addr->Prop) (vals:List Value) (b:List (List A)) (R D:Addr->Prop),
  Y.J (k++b) R D w->ZOk w Z Z->(∀a,R a->Z a)->RepL (A.rep w Z) j vals->
  Calls P f vals.toArray w λe i=>e= .returned (.tuple #[])/\ ∃h g,Y.J b h g i/\Fr R w i/\(∀a,h a->R a\/w.heap.size<=a.block)/\(∀a,g a->D a\/ ¬Z a\/w.heap.size<=a.block)/\(∀a,D a->g a)
def Ld(P:Program)(f:FuncId)(y:List A)(cs:List C)(h k:List (Nat×Blk)):Prop:=
 CY P f/\ ∀[Gv] (w:World) (Z:Addr->Prop) (ρ:AE) (vals a:List Value),ZOk w Z (Ar ρ Z)->Heap ρ w Z h->(∀g,Cells ρ g-> ¬Z g)->(∀i o,ρ i=some o->(lk i h).isSome=true)->
  RepL (A.rep w (Ar ρ Z)) y vals->RepL (RepC ρ w Z) cs a->
  Calls P f (vals++a).toArray w λe j=>e= .returned (.tuple #[])/\ ∃b,Fr (Cells ρ) w j/\Heap b j Z k/\(∀i o,b i=some o->(lk i k).isSome=true)/\(∀g,Cells b g->Cells ρ g\/w.heap.size<=g.block)/\RepL (RepC b j Z) cs a
def CallsA(P:Program)(f:FuncId)(sz n:Nat)(cs:List D)(j:List A)(m:Nat)(cs':List D):Prop:=
 CY P f/\ ∀[Gv] (w:World) (Z:Addr->Prop) (ρ:AE) (k:Nat) (h:Value) (vals:List Value),ZOk w Z (Ar ρ Z)->Heap ρ w Z [(k,.row sz cs true)]->(∀b,Cells ρ b-> ¬Z b)->(∀i o,ρ i=some o->i=k)->
  RepC ρ w Z (.sl k 0 n) h->RepL (A.rep w (Ar ρ Z)) j vals->
  Calls P f (h::vals).toArray w λe g=> ∃v,e= .returned v/\ ∃a,Fr (Cells ρ) w g/\Heap a g Z [(k,.row sz cs' true)]/\(∀i o,a i=some o->i=k)/\(∀b,Cells a b->Cells ρ b\/w.heap.size<=b.block)/\RepC a g Z (.sl k 0 m) v
def AI{α:Type}(o:Option α)(k:α->Prop):Prop:= ∃x,o=some x/\k x
theorem CR(x:α)(k:α->Prop):AI (some x) k=k x:=by simp[AI]
theorem jao(k:α->Prop):AI none k=False:=by simp[AI]
theorem jkG(c:Prop)[Decidable c](x:Option α)(k:α->Prop):AI (if c then x else none) k=(c/\AI x k):=by
 grind[AI]
def Mg{α β:Type}(f:α->Option β)(k:β->Prop)(x:α):Prop:=AI (f x) k
theorem Yt{β:Type}(o:Option α)(f:α->Option β)(k:β->Prop):AI (o.bind f) k=AI o (Mg f k):=by
 cases o<;>simp[AI,Mg]
def M0{α β:Type}(f:α->β)(k:β->Prop)(x:α):Prop:=k (f x)
theorem jgR{β:Type}(o:Option α)(f:α->β)(k:β->Prop):AI (o.map f) k=AI o (M0 f k):=by
 cases o<;>simp[AI,M0]
def G9(P:Program)(g:FuncId)(b:List A)(k:R->Prop):Prop:= ∃a,CallsF P g b a/\k a
def Jc(dst:Option Nat)(ids:List Nat)(K:St->Prop)(b:St)(a:R):Prop:=K (b.back dst ids a)
def L4(P:Program)(dst:Option Nat)(b:St)(K:St->Prop)(g:FuncId)(ids:List Nat)(a:List A):Prop:=G9 P g a (Jc dst ids K b)
def DB(ids:List Nat)(cs:List C):Prop:= ∀c∈cs,∀i,c.id? =some i->i∈ids
def KW(ids:List Nat):Blk->Prop
 | .row _ _ _=>True
 | .box a=>DB ids a
 | .fbox _ a=>DB ids a
 | .mp _=>False
 | .gh _=>False
def Qh(P:Program)(dst:Option Nat)(j:St)(K:St->Prop)(g:FuncId)(caps:List D)(k:List U):Prop:=
 ∃(a:List Nat) (r:R) (e f:List (Nat×Blk)),Fw P g (k++caps.map λd=> .c (.d d)) e f r/\(∀u∈k,DB a u.all)/\
  (∀i b,lk i e=some b->i∈a/\lk i j.h=some b/\KW a b)/\(∀i∈a,(lk i e).isSome=true)/\K (j.backW dst a f r)
def St.rest(x:Value)(l:List (List A))(a:St):St:={ a with t:=(YS,.tr x l)::rm YS a.t }
def St.backY(dst:Option Nat)(ids:List Nat)(x:Value)(l:List (List A))(a:St):St:=((a.freeze ids).put dst (.tup [])).rest x l
def YV(P:Program)(dst:Option Nat)(b:St)(K:St->Prop)(g:FuncId)(caps:List D)(e:List U):Prop:=
 ∃(x:Value) (h a:List (List A)) (f:List A),lk YS b.t=some (.tr x (h++a))/\b.argsW (b.reachU e) e caps=some f/\Gy P x g f h/\K (b.backY dst (b.reachU e) x a)
def jiZ(P:Program)(dst:Option Nat)(b:St)(K:St->Prop)(g:FuncId)(caps:List D)(e:List U):Prop:=
 caps=[]/\ ∃(x:Value) (i a:List (List A)) (j:List A) (f:FuncId) (k:List D) (m:List A->List (List A)),lk YS b.t=some (.tr x (i.flatMap m++a))/\
  e.mapM (U.toA (b.reachU e) b.h)=some (j++[.c (.fn f k)])/\(∀l,Gy P l g (j++[.c (.lit l)]) i)/\(∀y∈i,Gy P x f (y++k.map .c) (m y))/\K (b.backY dst (b.reachU e) x a)
def FA(ids:List Nat)(cs:List C):Nat->C->C:=λi c=>if ids.contains i then (match c with| .ptr _ _=>if cs.any (λe=>match e with| .ptr j _=>j==i|_=>false) then c else .bad|_=> .bad) else c
def St.backX(dst:Option Nat)(ids b a:List Nat)(cs:List C)(f:List (Nat×Blk))(e:St):St:=
 ({ (purges b (e.freeze a)).on (FA ids cs)with h:=f++Ds (ids.contains ·) ((purges b (e.freeze a)).on (FA ids cs)).h }:St).put dst (.tup [])
structure HbOk (st:St) (cs:List C) (hA hB:List (Nat×Blk)) (fz ids nw:List Nat):Prop where
 frz: ∀i∈ids,i∉fz
 caps:DB ids cs
 old: ∀i b,lk i hA=some b->i∈ids/\lk i (purges nw (st.freeze fz)).h=some b/\KW ids b
 here: ∀i∈ids,(lk i hA).isSome=true
 free: ∀i∈nw,i∉ids
 new: ∀i b,lk i hB=some b->i∈ids\/i∈nw
def jdX(P:Program)(dst:Option Nat)(k:St)(K:St->Prop)(g:FuncId)(caps:List D)(q:List U):Prop:=
 caps=[]/\ ∃(e:List U) (f:FuncId) (i:List C) (m:List A) (l:List (List A)) (H:List (List A)->List (Nat×Blk)) (j b o:List Nat),q=e++[.clo f i]/\
  e.mapM (U.toA j k.h)=some m/\(∀p,Gy P p g (m++[.c (.lit p)]) l)/\(∀y a,(y::a)<:+l->Ld P f y i (H (y::a)) (H a))/\
  HbOk k i (H l) (H []) j b o/\K (k.backX dst b o j i (H []))
def jco(P:Program)(dst:Option Nat)(l:St)(K:St->Prop)(g:FuncId)(caps:List D)(v:List U):Prop:=
 caps=[]/\ ∃(e:List U) (q k:Nat) (f:FuncId) (i:List C) (p:List A) (m:List (List A)) (o:List A->List (List A)) (H:List (List A)->List (Nat×Blk)) (j b r:List Nat),v=e++[.clo q [.ptr k 0]]/\lk k l.h=some (.fbox f i)/\k∈j/\
  e.mapM (U.toA j l.h)=some p/\(∀t,Gy P t g (p++[.c (.lit t)]) m)/\(∀x y,y∈m->Gy P x q (y++[.c (.ref [.lit x])]) (o y))/\
  (∀y a,(y::a)<:+m.flatMap o->Ld P f y i (H (y::a)) (H a))/\
  HbOk l i (H (m.flatMap o)) (H []) j b r/\K (l.backX dst b r j i (H []))
def jip(P:Program)(dst:Option Nat)(e:St)(K:St->Prop)(g:FuncId)(caps:List D)(l:List U):Prop:=
 caps=[]/\ ∃(k n f m d:Nat) (j a:List D) (b:List U) (i:List A),l= .c (.sl k 0 n)::b/\lk k e.h=some (.row f j true)/\b.mapM (U.toA [] e.h)=some i/\dst=some d/\CallsA P g f n j i m a/\
  K (((e.drop k).new d (.row f a true)).put (some d) (vC (.sl d 0 m)))
def Z7(P:Program)(dst:Option Nat)(i:St)(K:St->Prop)(g:FuncId)(caps:List D)(j:List U):Prop:=
 caps=[]/\ ∃(e m d:Nat) (a:List D) (b:List U) (f:List A),j= .c .nl::b/\b.mapM (U.toA [] i.h)=some f/\dst=some d/\CallsA P g e 0 [] f m a/\
  K ((((i.new d (.row e [] true)).drop d).new d (.row e a true)).put (some d) (vC (.sl d 0 m)))
def WI(P:Program)(dst:Option Nat)(f:St)(K:St->Prop)(g:FuncId)(caps:List D)(o:List U):Prop:=
 caps=[]/\ ∃(e:List Nat) (k n i m d:Nat) (l a:List D) (b:List U) (j:List A),o= .c (.sl k 0 n)::b/\k∉e/\lk k (f.freeze e).h=some (.row i l true)/\b.mapM (U.toA e f.h)=some j/\dst=some d/\CallsA P g i n l j m a/\
  K ((((f.freeze e).drop k).new d (.row i a true)).put (some d) (vC (.sl d 0 m)))
def jeC(P:Program)(dst:Option Nat)(j:St)(K:St->Prop)(g:FuncId)(caps:List D)(k:List U):Prop:=
 caps=[]/\ ∃(i:List Nat) (e m d:Nat) (a:List D) (b:List U) (f:List A),k= .c .nl::b/\b.mapM (U.toA i j.h)=some f/\dst=some d/\CallsA P g e 0 [] f m a/\
  K (((((j.freeze i).new d (.row e [] true)).drop d).new d (.row e a true)).put (some d) (vC (.sl d 0 m)))
def C.same:C->C->Bool
 | .sl i o n,.sl j p m=>aD i j&&aD o p&&aD n m
 | .ptr i o,.ptr j p=>aD i j&&aD o p
 | .mp q i,.mp r j=>(q==r)&&aD i j
 |_,_=>false
def GM(c:C):List C->List C->C
 |x::r,y::s=>if C.same x c then y else GM c r s
 |_,_=> .bad
def Fs(ids e:List Nat)(b a:List C):Nat->C->C:=λi c=>if ids.contains i then GM c b a else if e.contains i then .bad else c
def St.backH(dst:Option Nat)(ids nw:List Nat)(b a:List C)(f:List (Nat×Blk))(v:V)(e:St):St:=
 ({ e.on (Fs ids nw b a)with h:=f++Ds (λi=>ids.contains i||nw.contains i) (e.on (Fs ids nw b a)).h }:St).put dst v
def L7(ids:List Nat):Nat->C->C:=λi c=>if ids.contains i then c else .bad
structure HOk (st:St) (h1 h2:List (Nat×Blk)) (ids nw:List Nat):Prop where
 old: ∀i b,lk i h1=some b->i∈ids/\ ∃b0,lk i st.h=some b0/\b=b0.on (L7 ids)
 here: ∀i∈ids,(lk i h1).isSome=true
 new: ∀i b,lk i h2=some b->i∈ids\/i∈nw
def Rx(P:Program)(dst:Option Nat)(j:St)(K:St->Prop)(g:FuncId)(caps:List D)(k:List U):Prop:=
 caps=[]/\ ∃(f b:List C) (h e:List (Nat×Blk)) (v:V) (a i:List Nat),GJ P g (k.map (U.on (L7 a))) f b h e v/\(∀x r,v≠ .tr x r)/\HOk j h e a i/\K (j.backH dst a i f b e v)
def Kl(P:Program)(dst:Option Nat)(a:St)(K:St->Prop)(g:FuncId)(caps:List D)(b:List U):Prop:=
 Qh P dst a K g caps b\/YV P dst a K g caps b\/jiZ P dst a K g caps b\/(jdX P dst a K g caps b\/jco P dst a K g caps b\/Z7 P dst a K g caps b\/WI P dst a K g caps b\/jeC P dst a K g caps b\/Rx P dst a K g caps b)\/jip P dst a K g caps b
def DM(P:Program)(dst:Option Nat)(a:St)(K:St->Prop)(g:FuncId)(caps:List D)(b:List U):Prop:=
 AI (a.argsW (a.reachU b) b caps) (L4 P dst a K g (a.reachU b))\/Kl P dst a K g caps b
def LX(P:Program)(dst:Option Nat)(a:St)(K:St->Prop)(g:FuncId)(cs:List C)(b:List U):Prop:=DM P dst a K g [] (b++cs.map .c)
def OI(dst:Option Nat)(b:St)(K:St->Prop)(x:Value)(e:List U):Prop:=
 ∃(f:List A) (a:List (List A)),lk YS b.t=some (.tr x (f::a))/\b.argsW (b.reachU e) e []=some f/\K (b.backY dst (b.reachU e) x a)
def Eh(P:Program)(dst:Option Nat)(args:List Operand)(a:St)(K:St->Prop)(u:U):Prop:=
 match u with
 | .c (.d (.fn g caps))=>AI (args.mapM a.evU) (DM P dst a K g caps)
 | .clo g b=>AI (args.mapM a.evU) (LX P dst a K g b)
 | .c (.d (.lit x))=>AI (args.mapM a.evU) (OI dst a K x)
 |_=>False
theorem Yk(P:Program)(dst:Option Nat)(args:List Operand)(a:St)(K:St->Prop)(x:Value):
  Eh P dst args a K (.c (.d (.lit x)))=AI (args.mapM a.evU) (OI dst a K x):=rfl
theorem KV(P:Program)(dst:Option Nat)(args:List Operand)(a:St)(K:St->Prop)(g:FuncId)(caps:List D):
  Eh P dst args a K (.c (.d (.fn g caps)))=AI (args.mapM a.evU) (DM P dst a K g caps):=rfl
theorem Oz(P:Program)(dst:Option Nat)(args:List Operand)(a:St)(K:St->Prop)(g:FuncId)(cs:List C):
  Eh P dst args a K (.clo g cs)=AI (args.mapM a.evU) (LX P dst a K g cs):=rfl
theorem jbQ(P:Program)(dst:Option Nat)(a:St)(K:St->Prop)(g:FuncId)(cs:List C)(b:List U):
  LX P dst a K g cs b=DM P dst a K g [] (b++cs.map .c):=rfl
theorem jeF(P:Program)(dst:Option Nat)(a:St)(K:St->Prop)(g:FuncId)(caps:List D)(b:List U):
  DM P dst a K g caps b=(AI (a.argsW (a.reachU b) b caps) (L4 P dst a K g (a.reachU b))\/Kl P dst a K g caps b):=rfl
theorem jfi(P:Program)(dst:Option Nat)(b:St)(K:St->Prop)(g:FuncId)(ids:List Nat)(a:List A):
  L4 P dst b K g ids a=G9 P g a (Jc dst ids K b):=rfl
def wpOp(P:Program)(T:AH)(o:Oper)(a:St)(K:St->Prop):Prop:=
 match o.op with
 | .call { callee:= .value f,args,.. }=>AI (a.evU f) (Eh P o.dst args.toList a K)
 |_=>AI (DH T o a) K
def JB{α:Type}(f:St->α->Prop)(k:α)(s:St):Prop:=f s k
theorem Wu(f:St->α->Prop)(k:α)(s:St):JB f k s=f s k:=rfl
def Gr(dst:Option Nat)(a:St)(K:St->Prop):Prop:=K (a.put dst (.tup []))
def EW(d:Nat)(a:Bool)(v:Option V)(e:St)(g f:St->(St->Prop)->Prop)(K:St->Prop):Prop:=
 match v with
 |some (.u (.c (.d (.bool b))))=>(b=a->g (e.put (some d) (vB a)) K)/\(b= !a->f (e.put (some d) (vB !a)) K)
 |some (.tup [])=>f e K
 |_=>False
theorem jcN(d:Nat)(a b:Bool)(e:St)(f g:St->(St->Prop)->Prop)(K:St->Prop):
  EW d a (some (.u (.c (.d (.bool b))))) e f g K=((b=a->f (e.put (some d) (vB a)) K)/\(b= !a->g (e.put (some d) (vB !a)) K)):=rfl
theorem Rm(d:Nat)(a:Bool)(e:St)(f b:St->(St->Prop)->Prop)(K:St->Prop):
  EW d a (some (.tup [])) e f b K=b e K:=rfl
def Ca(P:Program)(T:AH)(ops:List Oper)(o:Oper)(b:St)(K:St->Prop):Prop:=
 match o.guard with
 |none=>wpOp P T o b K
 |some (j,a)=>
  match (ops[j]?).bind (·.dst)with
  |some d=>EW d a (lk d b.t) b (wpOp P T o) (Gr o.dst) K
  |none=>False
def Xj(P:Program)(T:AH)(ops:List Oper):List Oper->St->(St->Prop)->Prop
 |[],a,K=>K a
 |o::r,a,K=>Ca P T ops o a (JB (Xj P T ops r) K)
def AW{α:Type}(l:List (Nat×α)):List (Nat×α)->Prop
 |[]=>True
 |(k,v)::r=>lk k l=some v/\AW l r
def St.le(a s:St):Prop:=AW s.t a.t/\AW s.h a.h
abbrev Bk:=Exit->St->Prop
def DO(k:St->Bk->Prop)(Q:Bk)(e:Exit)(s:St):Prop:=
 match e with
 | .normal=>k s Q
 |e=>Q e s
def Gf(a:Nat)(Q:Bk)(e:Exit)(s:St):Prop:=
 match e with
 | .exit j=>if j=a then Q .normal s else Q (.exit j) s
 |e=>Q e s
def Ie(b:Option Bool)(a:St)(e f:St->Bk->Prop)(Q:Bk):Prop:=
 match b with
 |some b=>(b=true->e a Q)/\(b=false->f a Q)
 |none=>False
theorem jbI(b:Bool)(a:St)(e f:St->Bk->Prop)(Q:Bk):Ie (some b) a e f Q=((b=true->e a Q)/\(b=false->f a Q)):=rfl
def Kw(I:St->Nat->Prop)(b:List (Nat×Nat))(n:Nat)(s':St)(_:Bk):Prop:= ∃a m,St.le a (rns b s')/\I a m/\m<n
def HN(a:St->Bk->Prop)(e:St)(Q:Bk):Prop:=
 ∃(I:St->Nat->Prop) (b:List (Nat×Nat)),(∃s n,s.le (rns b e)/\I s n)/\ ∀s n,I s n->a s (DO (Kw I b n) Q)
theorem jhH(k:St->Bk->Prop)(Q:Bk)(s:St):DO k Q .normal s=k s Q:=rfl
theorem YG(k:St->Bk->Prop)(Q:Bk)(s:St):DO k Q .ret s=Q .ret s:=rfl
theorem YE(k:St->Bk->Prop)(Q:Bk)(i:Nat)(s:St):DO k Q (.exit i) s=Q (.exit i) s:=rfl
theorem jjY(i:Nat)(Q:Bk)(s:St):Gf i Q .normal s=Q .normal s:=rfl
theorem jct(i:Nat)(Q:Bk)(s:St):Gf i Q .ret s=Q .ret s:=rfl
theorem jho(i j:Nat)(Q:Bk)(s:St):Gf i Q (.exit j) s=if j=i then Q .normal s else Q (.exit j) s:=rfl
def IG(Q:Bk)(s:St):Prop:=Q .normal s
theorem jg4(Q:Bk)(s:St):IG Q s=Q .normal s:=rfl
def fitC(b:St)(pure:Bool):C->RC->Prop
 |c,.d x=>(pure=true->c.id? =none)/\b.cD c=some x
 | .sl i 0 n,.own e m a=>m=n/\lk i b.h=some (.row e a true)/\a.length=n*e
 | .nl,.own _ m a=>m=0/\a=[]
 |_,_=>False
def fitL{α β:Type}(r:α->β->Prop):List α->List β->Prop
 |[],[]=>True
 |a::l,b::m=>r a b/\fitL r l m
 |_,_=>False
def fitU(a:St)(pure:Bool):U->RU->Prop
 | .c x,.c y=>fitC a pure x y
 | .agg cs,.agg b=>fitL (fitC a pure) cs b
 |_,_=>False
def fitV(a:St)(pure:Bool):V->R->Prop
 | .u x,.u y=>fitU a pure x y
 | .tup xs,.tup b=>fitL (fitU a pure) xs b
 |_,_=>False
def St.resU(T:AH)(a:St):ResultVar->Option U
 | .tmp t=>match lk t a.t with|some (.u u)=>some u|_=>none
 | .cell t b=>(T b).bind λi=>match lk t a.t with|some (.u (.c c))=>a.load i c|_=>none
def St.res(T:AH)(a:St)(rs:List ResultVar):Option V:=
 match rs with
 |[r]=>(a.resU T r).map .u
 |rs=>(rs.mapM (a.resU T)).map .tup
def HU(T:AH)(b:List ResultVar)(r:R)(e:Exit)(a:St):Prop:=
 (e= .ret\/e= .normal)/\ ∃v,a.res T b=some v/\r.rows.length<=1/\fitV a (!r.rows.isEmpty) v r
def A.toV:A->V
 | .c x=> .u (.c (.d x))
 | .agg cs=> .u (.agg (cs.map .d))
def CJ(k:Nat):List A->List (Nat×V)
 |[]=>[]
 |a::r=>(k,a.toV)::CJ (k+1) r
def St.init(a:List A):St:={ t:=CJ 0 a,h:=[] }
end Go.Va
