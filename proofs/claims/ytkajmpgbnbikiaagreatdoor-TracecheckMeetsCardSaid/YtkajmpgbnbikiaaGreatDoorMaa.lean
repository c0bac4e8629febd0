/- a part of the proof -/
import Derived.Calls
import Derived.Orders
import Derived.Below
import Derived.Laws.IdiomCopy
import Derived.Laws.MakeOwn
import Derived.Laws.Append
set_option linter.all false
namespace Go.Va
abbrev Am:= @List.getElem?_eq_getElem
abbrev Ax:= @List.getD_eq_getElem?_getD
abbrev AD:= @List.getElem_mem
abbrev jzd:= @Option.bind_eq_some_iff
abbrev jze:= @Option.map_eq_some_iff
abbrev AX:= @List.drop_eq_getElem_cons
abbrev jzg:= @List.getElem?_eq_some_iff
abbrev BX:= @List.take_succ_eq_append_getElem
abbrev AH:= @List.take_of_length_le
abbrev AC:= @Bool.and_eq_true
abbrev jzk:= @List.mem_map
abbrev AP:= @List.length_take
abbrev AI:= @Nat.mod_eq_of_lt
abbrev jzn:= @List.mem_cons
abbrev C1:= @List.not_mem_nil
abbrev Bk:= @Nat.mul_le_mul_right
abbrev Az:= @Nat.le_refl
abbrev B1:= @List.take_length
abbrev BB:= @List.mem_of_getElem?
abbrev AK:= @Option.some.inj
abbrev A7:= @Nat.min_eq_left
abbrev jzv:= @List.length_eq_zero_iff
abbrev BV:= @Array.getD_eq_getD_getElem?
abbrev By:= @List.getElem?_eq_none
abbrev jzy:= @List.all_eq_true
abbrev Cg:= @List.drop_of_length_le
abbrev Bi:= @List.getElem?_map
inductive D where
 |int (k:IntKind) (n:Int)
 |bool (b:Bool)
 |str (s:ByteArray)
 |slice (n:Nat) (cs:List D)
 |ref (cs:List D)
 |fn (f:FuncId) (caps:List D)
 |nilFn
 |nilPtr
 |iface (t:TypeId) (cs:List D)
 |lit (x:Value)
 |any
 deriving Inhabited
inductive C where
 |d (x:D)
 |nl
 |sl (id off n:Nat)
 |ptr (id off:Nat)
 |bad
 deriving Inhabited
inductive U where
 |c (x:C)
 |agg (cs:List C)
 |clo (f:FuncId) (cs:List C)
 deriving Inhabited
inductive A where
 |c (x:D)
 |agg (cs:List D)
 deriving Inhabited
inductive V where
 |u (x:U)
 |tup (xs:List U)
 |tr (x:Value) (ys:List (List A))
 deriving Inhabited
def YS:Nat:=1000000
inductive Blk where
 |row (sz:Nat) (cs:List D) (app:Bool)
 |box (cs:List C)
 |fbox (f:FuncId) (cs:List C)
 deriving Inhabited
structure St where
 t:List (Nat×V)
 h:List (Nat×Blk)
 deriving Inhabited
def lk{α:Type}(k:Nat):List (Nat×α)→Option α
 |[]=>none
 |(j,v)::r=>if j=k then some v else lk k r
def rm{α:Type}(k:Nat):List (Nat×α)→List (Nat×α)
 |[]=>[]
 |(j,v)::r=>if j=k then rm k r else (j,v)::rm k r
structure TI where
 agg:Bool:=false
 size:Nat:=1
 bytes:Nat:=8
 zero:List C:=[]
 sl:Option Nat:=none
 arr:Option (Nat×Nat):=none
 flds:List (Nat×Nat):=[]
 flat:Bool:=false
 deriving Inhabited
abbrev Au:=Nat→Option TI
inductive RC where
 |d (x:D)
 |own (sz n:Nat) (cs:List D)
 deriving Inhabited
inductive RU where
 |c (x:RC)
 |agg (cs:List RC)
 deriving Inhabited
inductive R where
 |u (x:RU)
 |tup (xs:List RU)
 deriving Inhabited
def C.id? :C→Option Nat
 | .sl i _ _=>some i
 | .ptr i _=>some i
 |_=>none
def C.on(g:Nat→C→C)(c:C):C:=
 match c with
 | .sl i o n=>g i (.sl i o n)
 | .ptr i o=>g i (.ptr i o)
 |c=>c
def U.on(g:Nat→C→C):U→U
 | .c x=> .c (x.on g)
 | .agg cs=> .agg (cs.map (C.on g))
 | .clo f cs=> .clo f (cs.map (C.on g))
def V.on(g:Nat→C→C):V→V
 | .u x=> .u (x.on g)
 | .tup xs=> .tup (xs.map (U.on g))
 | .tr x ys=> .tr x ys
def Blk.on(g:Nat→C→C):Blk→Blk
 | .row sz cs app=> .row sz cs app
 | .box cs=> .box (cs.map (C.on g))
 | .fbox f cs=> .fbox f (cs.map (C.on g))
def St.on(g:Nat→C→C)(st:St):St:=
 {t:=st.t.map fun e=>(e.1,e.2.on g),h:=st.h.map fun e=>(e.1,e.2.on g) }
def AY(i:Nat):Nat→C→C:=fun j c=>if j=i then .bad else c
def St.purge(id:Nat)(st:St):St:={ st.on (AY id)with h:=rm id (st.on (AY id)).h }
def St.put(dst:Option Nat)(v:V)(st:St):St:=
 match dst with
 |some d=>{ st with t:=(d,v)::rm d st.t }
 |none=>st
def St.blk(id:Nat)(b:Blk)(st:St):St:={ st with h:=(id,b)::rm id st.h }
def St.drop(id:Nat)(st:St):St:={ st with h:=rm id st.h }
def St.new(id:Nat)(b:Blk)(st:St):St:=(st.purge id).blk id (b.on (AY id))
def C.to(i:Nat):C→C
 | .sl _ o n=> .sl i o n
 | .ptr _ o=> .ptr i o
 |c=>c
def Do(i j:Nat):Nat→C→C:=fun k c=>if k=j then c.to i else if k=i then .bad else c
def St.rn(i j:Nat)(st:St):St:=
 if i=j then st else
 match lk j st.h with
 |none=>st
 |some b=>{ st.on (Do i j)with h:=(i,b.on (Do i j))::rm i (rm j (st.on (Do i j)).h) }
def rns:List (Nat×Nat)→St→St
 |[],s=>s
 |(i,j)::r,s=>rns r (s.rn i j)
def purges(l:List Nat)(s:St):St:=l.foldl (fun s i=>s.purge i) s
def AA{α:Type}(off n:Nat)(l:List α):List α:=(l.drop off).take n
def toD(ok:Nat→Bool)(h:List (Nat×Blk)):Nat→C→Option D
 |_,.d x=>some x
 |_,.nl=>some (.slice 0 [])
 |_,.bad=>none
 |_,.sl i off n=>if ok i then (match lk i h with
  |some (.row sz cs _)=>if (off+n)*sz≤cs.length then some (.slice n (AA (off*sz) (n*sz) cs)) else none
  |_=>none) else none
 |0,.ptr i _=>if ok i then some .any else none
 |k+1,.ptr i off=>if ok i then (match lk i h with
  |some (.row _ cs _)=>some (.ref (cs.drop off))
  |some (.box cs)=>((cs.drop off).mapM (toD ok h k)).map .ref
  |some (.fbox f cs)=>if off=0 then (cs.mapM (toD ok h k)).map fun ds=> .ref [.fn f ds] else none
  |none=>none) else none
def St.cD(st:St)(c:C):Option D:=toD (fun _=>true) st.h 4 c
def Bu(h:List (Nat×Blk)):Nat→List C→List Nat
 |0,_=>[]
 |k+1,cs=>cs.flatMap fun c=>match c.id? with
  |none=>[]
  |some i=>i::(match lk i h with
   |some (.box bs)=>Bu h k bs
   |some (.fbox _ bs)=>Bu h k bs
   |_=>[])
def DS(h:List (Nat×Blk))(ok:Nat→Bool):Nat→C→C:=fun i c=>if ok i then (match toD ok h 4 c with|some x=> .d x|none=> .bad) else c
def Ee{α:Type}(ok:Nat→Bool)(h:List (Nat×α)):List (Nat×α):=h.filter fun e=> !ok e.1
def St.freezeK(ok:Nat→Bool)(st:St):St:=
 let s:=st.on (DS st.h ok)
 {s with h:=Ee ok s.h }
def St.freeze(ids:List Nat)(st:St):St:=
 match ids with
 |[]=>st
 |i::r=>st.freezeK ((i::r).contains ·)
def St.sealW(ids:List Nat)(cs:List C)(st:St):Option (List D×St):=
 (cs.mapM (toD (ids.contains ·) st.h 4)).map fun ds=>(ds,st.freeze ids)
def St.shut(cs:List C)(st:St):Option (List D×St):=st.sealW (Bu st.h 5 cs) cs
def cCell:Value→Option C
 | .int k n=>some (.d (.int k n))
 | .bool b=>some (.d (.bool b))
 | .string s=>some (.d (.str s))
 | .slice none 0 0=>some .nl
 | .pointer none=>some (.d .nilPtr)
 | .nilFunc=>some (.d .nilFn)
 |_=>none
def cVal:Value→Option V
 | .agg cs=>(cs.toList.mapM cCell).map fun l=> .u (.agg l)
 |v=>(cCell v).map fun c=> .u (.c c)
def St.ev(st:St):Operand→Option V
 | .tmp t=>lk t st.t
 | .const v=>cVal v
 | .func f=>some (.u (.c (.d (.fn f []))))
 | .global _=>none
def U.cells:U→List C
 | .c x=>[x]
 | .agg cs=>cs
 | .clo _ _=>[.bad]
def U.all:U→List C
 | .c x=>[x]
 | .agg cs=>cs
 | .clo _ cs=>cs
def St.evU(st:St)(x:Operand):Option U:=
 match st.ev x with
 |some (.u u)=>some u
 |_=>none
def St.evC(st:St)(x:Operand):Option C:=
 match st.ev x with
 |some (.u (.c c))=>some c
 |_=>none
def St.evI(st:St)(x:Operand):Option (IntKind×Int):=
 match st.ev x with
 |some (.u (.c (.d (.int k n))))=>some (k,n)
 |_=>none
def St.evB(st:St)(x:Operand):Option Bool:=
 match st.ev x with
 |some (.u (.c (.d (.bool b))))=>some b
 |_=>none
def vI(k:IntKind)(n:Int):V:= .u (.c (.d (.int k n)))
def vB(b:Bool):V:= .u (.c (.d (.bool b)))
def vC(c:C):V:= .u (.c c)
def Dw(p:Prop)[Decidable p]:Option Unit:=if p then some () else none
def HX(k:IntKind)(n:Int):Prop:=k.min≤n∧n≤k.max
instance (k:IntKind) (n:Int):Decidable (HX k n):=inferInstanceAs (Decidable (_∧_))
def DN(k:IntKind)(n:Int):Option V:=
 if k.signed then (Dw (HX k n)).map fun _=>vI k n else some (vI k (n%2^k.bits))
def Q5(k:IntKind)(a b:Int):Int:=k.wrap (BitVec.ofInt k.bits a&&&BitVec.ofInt k.bits b).toNat
def Dr(k:IntKind)(a b:Int):Int:=k.wrap (BitVec.ofInt k.bits a|||BitVec.ofInt k.bits b).toNat
def Sz(k:IntKind)(a b:Int):Int:=k.wrap (BitVec.ofInt k.bits a^^^BitVec.ofInt k.bits b).toNat
def Rs(k:IntKind)(a b:Int):Int:=k.wrap (BitVec.ofInt k.bits a&&& ~~~ (BitVec.ofInt k.bits b)).toNat
def C6(k:IntKind)(a b:Int):Int:=k.wrap (a*2^min b.toNat k.bits)
def Gw(k:IntKind)(a b:Int):Int:=a.fdiv (2^min b.toNat k.bits)
def binI(op:BinOp)(k:IntKind)(a b:Int):Option V:=
 match op with
 | .add=>DN k (a+b)
 | .sub=>DN k (a - b)
 | .mul=>DN k (a*b)
 | .quo=>(Dw (b≠0)).bind fun _=>DN k (a.tdiv b)
 | .rem=>(Dw (b≠0)).map fun _=>vI k (a.tmod b)
 | .eql=>some (vB (decide (a=b)))
 | .neq=>some (vB (!decide (a=b)))
 | .lss=>some (vB (decide (a<b)))
 | .leq=>some (vB (decide (a≤b)))
 | .gtr=>some (vB (decide (b<a)))
 | .geq=>some (vB (decide (b≤a)))
 | .and=>some (vI k (Q5 k a b))
 | .or=>some (vI k (Dr k a b))
 | .xor=>some (vI k (Sz k a b))
 | .andNot=>some (vI k (Rs k a b))
 |_=>none
def shiftI(op:BinOp)(k:IntKind)(a b:Int):Option V:=
 match op with
 | .shl=>(Dw (0≤b)).map fun _=>vI k (C6 k a b)
 | .shr=>(Dw (0≤b)).map fun _=>vI k (Gw k a b)
 |_=>none
def KF(z:C)(x y:C):Option Bool:=
 match z,x,y with
 | .d (.int _ _),.d (.int k a),.d (.int k' b)=>if k=k' then some (decide (a=b)) else none
 | .d (.bool _),.d (.bool a),.d (.bool b)=>some (decide (a=b))
 |_,_,_=>none
def ED:List C→List C→List C→Option Bool
 |[],[],[]=>some true
 |z::q,a::r,b::s=>(KF z a b).bind fun e=>(ED q r s).map fun f=>e&&f
 |_,_,_=>none
def IB(op:BinOp)(a b:ByteArray):Option V:=
 match op with
 | .eql=>some (vB (a.toList==b.toList))
 | .neq=>some (vB (!(a.toList==b.toList)))
 | .add=>(Dw (a.size+b.size≤140737488355328)).map fun _=>vC (.d (.str (a++b)))
 |_=>none
def EH(i:TI)(x y:V):Option Bool:=
 match x,y with
 | .u (.c a),.u (.c b)=>
  (match i.zero with
  |[.d (.bool _)]=>if i.agg then none else (match a,b with
   | .d (.bool a),.d (.bool b)=>some (decide (a=b))
   |_,_=>none)
  |[.d .nilFn]=>if i.agg then none else (match a,b with
   | .d .nilFn,.d .nilFn=>some true
   | .d (.fn _ _),.d .nilFn=>some false
   |_,_=>none)
  |[.nl]=>if i.agg then none else (match a,b with
   | .nl,.nl=>some true
   | .d (.slice n _),.nl=>if n=0 then none else some false
   |_,_=>none)
  |_=>none)
 | .u (.agg xs),.u (.agg ys)=>if i.flat then ED i.zero xs ys else none
 |_,_=>none
def Gg(op:BinOp)(b:Bool):Option V:=
 match op with
 | .eql=>some (vB b)
 | .neq=>some (vB !b)
 |_=>none
def binV(T:Au)(op:BinOp)(t:TypeId)(x y:V):Option V:=
 match x,y with
 | .u (.c (.d (.int k a))),.u (.c (.d (.int k' b)))=>
  (match op with
  | .shl=>shiftI .shl k a b
  | .shr=>shiftI .shr k a b
  |op=>if k=k' then binI op k a b else none)
 | .u (.c (.d (.str a))),.u (.c (.d (.str b)))=>IB op a b
 |x,y=>(T t).bind fun i=>(EH i x y).bind (Gg op)
def Blk.rd:Blk→Nat→Nat→Option (List C)
 | .row _ cs _,off,k=>if off+k≤cs.length then some ((AA off k cs).map .d) else none
 | .box cs,off,k=>if off+k≤cs.length then some (AA off k cs) else none
 | .fbox _ _,_,_=>none
def Blk.at:Blk→Nat→Option C
 | .row _ cs _,off=>(cs[off]?).map .d
 | .box cs,off=>cs[off]?
 | .fbox _ _,_=>none
def Blk.ld:Blk→Nat→Option U
 | .row _ cs _,off=>(cs[off]?).map fun x=> .c (.d x)
 | .box cs,off=>(cs[off]?).map .c
 | .fbox f cs,off=>if off=0 then some (.clo f cs) else none
def splice{α:Type}(off:Nat)(new l:List α):List α:=l.take off++new++l.drop (off+new.length)
def DO(place:Nat→Option (Nat×Nat))(cs:List C):List (Nat×List C)→Option (List C)
 |[]=>some cs
 |(i,v)::r=>(place i).bind fun p=>if v.length=p.2∧p.1+p.2≤cs.length then DO place (splice p.1 v cs) r else none
def St.load(i:TI)(c:C)(st:St):Option U:=
 match c with
 | .ptr b off=>(lk b st.h).bind fun k=>if i.agg then (k.rd off i.size).map .agg else k.ld off
 | .d (.ref cs)=>if i.agg then (if i.size≤cs.length then some (.agg ((cs.take i.size).map .d)) else none) else (cs[0]?).map fun x=> .c (.d x)
 |_=>none
def St.storeB(b off:Nat)(v:List C)(st:St):Blk→Option St
 | .box cs=>if off+v.length≤cs.length then some (st.blk b (.box (splice off v cs))) else none
 | .row _ _ _=>(st.shut v).bind fun p=>match lk b p.2.h with
  |some (.row sz cs app)=>if off+p.1.length≤cs.length then some (p.2.blk b (.row sz (splice off p.1 cs) app)) else none
  |_=>none
 | .fbox _ _=>none
def St.storeU(b off:Nat)(v:U)(st:St)(k:Blk):Option St:=
 match v with
 | .clo f cs=>(match k with| .box [_]=>if off=0 then some (st.blk b (.fbox f cs)) else none|k=>st.storeB b off [.bad] k)
 | .c x=>st.storeB b off [x] k
 | .agg xs=>st.storeB b off xs k
def St.store(i:TI)(c:C)(v:U)(st:St):Option St:=
 if v.cells.length=i.size then
  match c with
  | .ptr b off=>(lk b st.h).bind (st.storeU b off v)
  |_=>none
 else none
def mk(d:Option Nat)(st:St)(b:Blk)(c:Nat→C):Option St:=d.map fun d=>(st.new d b).put (some d) (vC (c d))
def St.evUs(st:St):List (Nat×Operand)→Option (List (Nat×List C))
 |[]=>some []
 |(i,x)::r=>(st.evU x).bind fun u=>(st.evUs r).map fun l=>(i,u.cells)::l
def TV(T:Au)(i:TI):Option (List (Nat×Nat)):=i.flds.mapM fun p=>(T p.2).map fun j=>(p.1,j.size)
def Kg(ps:List (Nat×Nat))(f:Nat):Option (Nat×Nat):=ps[f]?
def GU(sz:Nat)(i:Nat):Option (Nat×Nat):=some (i*sz,sz)
def rep{α:Type}:Nat→List α→List α
 |0,_=>[]
 |n+1,z=>z++rep n z
def build(T:Au)(i:TI)(parts:List (Nat×List C)):Option U:=
 match i.arr with
 |some (_,e)=>(T e).bind fun j=>(DO (GU j.size) i.zero parts).map .agg
 |none=>if i.agg then (TV T i).bind fun ps=>(DO (Kg ps) i.zero parts).map .agg else none
def Fe(n:Nat)(lo hi:Option Int)(k:Nat→Nat→C):Option C:=
 if 0≤lo.getD 0∧lo.getD 0≤hi.getD n∧hi.getD n≤n then some (k (lo.getD 0).toNat ((hi.getD n).toNat - (lo.getD 0).toNat)) else none
def sliceS(x:C)(lo hi:Option Int):Option C:=
 match x with
 | .d (.str s)=>Fe s.size lo hi fun l m=> .d (.str (s.extract l (l+m)))
 |_=>none
def St.evO(st:St):Option Operand→Option (Option Int)
 |none=>some none
 |some x=>(st.evI x).map fun p=>some p.2
def Ed:Nat:=140737488355328
def St.appGo(e:TI)(d:Nat)(cs:List D)(n:Nat)(news:List D)(m:Nat)(st:St):Option St:=
 if (n+m)*e.bytes≤Ed∧n+m≤Ed then some ((st.new d (.row e.size (cs++news) true)).put (some d) (vC (.sl d 0 (n+m)))) else none
def St.app(e:TI)(d:Nat)(x:C)(news:List D)(m:Nat)(st:St):Option St:=
 match x with
 | .nl=>st.appGo e d [] 0 news m
 | .sl i off n=>(lk i st.h).bind fun b=>match b with
  | .row sz cs app=>if app=true∧off=0∧sz=e.size∧cs.length=n*sz then (st.drop i).appGo e d cs n news m else none
  |_=>none
 |_=>none
def St.src(e:TI)(x:C)(st:St):Option (Nat×List D):=
 match x with
 | .nl=>some (0,[])
 | .d (.slice n cs)=>if cs.length=n*e.size then some (n,cs) else none
 | .sl i off n=>(lk i st.h).bind fun b=>match b with
  | .row sz cs _=>if sz=e.size∧(off+n)*sz≤cs.length then some (n,AA (off*sz) (n*sz) cs) else none
  |_=>none
 |_=>none
def Dv(i:TI):Bool:=
 match i.agg,i.sl,i.arr,i.zero with
 |false,none,none,[.d (.str _)]=>true
 |_,_,_,_=>false
def lenC:C→Option Nat
 | .nl=>some 0
 | .sl _ _ n=>some n
 | .d (.slice n _)=>some n
 |_=>none
def lenS:C→Option Nat
 | .d (.str s)=>some s.size
 |_=>none
def D9(mx:Bool)(k:IntKind):Int→List (IntKind×Int)→Option V
 |a,[]=>some (vI k a)
 |a,(k',b)::r=>if k'=k then D9 mx k (if mx then (if a<b then b else a) else (if b<a then b else a)) r else none
def copyTo(e:TI)(d:Option Nat)(i off n:Nat)(st:St)(s:Nat×List D):Blk→Option St
 | .row sz cs app=>
  if sz=e.size∧(off+n)*sz≤cs.length then
   some ((st.blk i (.row sz (splice (off*sz) (s.2.take (min s.1 n*sz)) cs) app)).put d (vI .i64 (min s.1 n:Nat)))
  else none
 |_=>none
def GX(i:TI)(d:Option Nat)(st:St)(x:Operand):Option St:=
 match i.arr with
 |some (n,_)=>some (st.put d (vI .i64 n))
 |none=>(st.evC x).bind fun c=>(if i.sl.isSome then lenC c else if Dv i then lenS c else none).map fun(n:Nat)=>st.put d (vI .i64 (n:Int))
def clearTo(j:TI)(z:List D)(d:Option Nat)(st:St):C→Option St
 | .nl=>some (st.put d (.tup []))
 | .sl b off n=>(lk b st.h).bind fun k=>match k with
  | .row sz cs app=>if sz=j.size∧(off+n)*sz≤cs.length then some ((st.blk b (.row sz (splice (off*sz) (rep n z) cs) app)).put d (.tup [])) else none
  |_=>none
 |_=>none
def Fx(T:Au)(b:Builtin)(ts:List TypeId)(args:List Operand)(d:Option Nat)(st:St):Option St:=
 match b,ts,args with
 | .len,[t],[x]=>(T t).bind fun i=>GX i d st x
 | .append,[t,t'],[x,y]=>
  d.bind fun d=>(T t).bind fun i=>i.sl.bind fun e=>(T e).bind fun j=>(st.evC x).bind fun c=>(st.evC y).bind fun s=>
   if t'=t then (st.src j s).bind fun p=>st.app j d c p.2 p.1 else none
 | .copy,[t,t'],[x,y]=>
  (T t).bind fun i=>i.sl.bind fun e=>(T e).bind fun j=>(st.evC x).bind fun c=>(st.evC y).bind fun s=>
   match c with
   | .sl b off n=>if t'=t then (st.src j s).bind fun p=>(lk b st.h).bind (copyTo j d b off n st p) else none
   |_=>none
 | .min,_,x::r=>(st.evI x).bind fun p=>(r.mapM st.evI).bind fun l=>(D9 false p.1 p.2 l).map fun v=>st.put d v
 | .clear,[t],[x]=>(T t).bind fun i=>i.sl.bind fun e=>(T e).bind fun j=>(st.evC x).bind fun c=>(j.zero.mapM (toD (fun _=>false) st.h 4)).bind fun z=>clearTo j z d st c
 | .max,_,x::r=>(st.evI x).bind fun p=>(r.mapM st.evI).bind fun l=>(D9 true p.1 p.2 l).map fun v=>st.put d v
 |_,_,_=>none
def GC(T:Au)(ty:TypeId)(d:Option Nat)(st:St):Option St:=
 d.bind fun d=>(T ty).bind fun i=>i.sl.bind fun e=>(T e).map fun j=>(st.new d (.row j.size [] true)).put (some d) (vC (.sl d 0 0))
def EL:C→Bool
 | .ptr _ _=>true
 |_=>false
def Fy(j:TI)(len:Nat)(d:Option Nat)(st:St)(l:List (Nat×List C)):Option St:=
 if len*j.size≤10000∧len≤10000 then (DO (GU j.size) (rep len j.zero) l).bind fun cs=>
  if j.size=1∧cs.any EL=true then mk d st (.box cs) fun d=> .sl d 0 len else (st.shut cs).bind fun p=>mk d p.2 (.row j.size p.1 true) fun d=> .sl d 0 len else none
def Fw(j:TI)(d:Option Nat)(st:St)(l c:Int):Option St:=
 if 0≤l∧l≤c∧c*j.bytes≤Ed∧c≤Ed then
  (j.zero.mapM st.cD).bind fun z=>mk d st (.row j.size (rep l.toNat z) true) fun d=> .sl d 0 l.toNat
 else none
def nilChk:C→Option C
 | .ptr i off=>some (.ptr i off)
 | .d (.ref cs)=>some (.d (.ref cs))
 | .d (.fn f caps)=>some (.d (.fn f caps))
 |_=>none
def fldAddr(o:Nat):C→Option C
 | .ptr i off=>some (.ptr i (off+o))
 | .d (.ref cs)=>some (.d (.ref (cs.drop o)))
 |_=>none
def isRow(h:List (Nat×Blk))(b sz:Nat):Bool:=
 match lk b h with
 |some (.row sz' _ _)=>decide (sz'=sz)
 |some (.box _)=>decide (sz=1)
 |_=>false
def sliceV(h:List (Nat×Blk))(x:C)(lo hi:Option Int)(sz:Nat):Option C:=
 match x with
 | .sl i off n=>if isRow h i sz=true then Fe n lo hi fun l m=> .sl i (off+l) m else none
 | .nl=>Fe 0 lo hi fun _ _=> .nl
 | .d (.slice n cs)=>if cs.length=n*sz then Fe n lo hi fun l m=> .d (.slice m (AA (l*sz) (m*sz) cs)) else none
 |_=>none
def idxSl(h:List (Nat×Blk))(sz:Nat)(i:Int):C→Option C
 | .sl b off n=>if 0≤i∧i<n∧isRow h b sz=true then some (.ptr b ((off+i.toNat)*sz)) else none
 | .d (.slice n cs)=>if 0≤i∧i<n∧cs.length=n*sz then some (.d (.ref (cs.drop (i.toNat*sz)))) else none
 |_=>none
def idxArr(n sz:Nat)(i:Int):C→Option C
 | .ptr b off=>if 0≤i∧i<n then some (.ptr b (off+i.toNat*sz)) else none
 | .d (.ref cs)=>if 0≤i∧i<n then some (.d (.ref (cs.drop (i.toNat*sz)))) else none
 |_=>none
def idxAddr(T:Au)(h:List (Nat×Blk))(i:TI)(n:Int)(c:C):Option C:=
 match i.arr with
 |some (m,e)=>(T e).bind fun j=>idxArr m j.size n c
 |none=>i.sl.bind fun e=>(T e).bind fun j=>idxSl h j.size n c
def part(j:TI)(off:Nat)(cs:List C):Option U:=
 if j.agg then (if off+j.size≤cs.length then some (.agg (AA off j.size cs)) else none) else (cs[off]?).map .c
def fieldOf(T:Au)(i:TI)(f:Nat):U→Option U
 | .agg cs=>(i.flds[f]?).bind fun p=>(T p.2).bind fun j=>part j p.1 cs
 |_=>none
def indexOf(T:Au)(i:TI)(n:Int):U→Option U
 | .agg cs=>i.arr.bind fun p=>(T p.2).bind fun j=>if 0≤n∧n<p.1 then part j (n.toNat*j.size) cs else none
 | .c (.d (.str s))=>if Dv i=true∧0≤n∧n<s.size then (s[n.toNat]?).map fun b=> .c (.d (.int .u8 b.toNat)) else none
 |_=>none
def tupAt(i:Nat):V→Option U
 | .tup us=>us[i]?
 |_=>none
def Nw(i:TI)(n:Int):Option V:=
 if i.agg then none else
 match i.zero with
 |[.d (.int k _)]=>some (vI k (k.wrap n))
 |_=>none
def Io:List D→Option (List Int)
 |[]=>some []
 | .int .u8 n::r=>(Io r).map (n:: ·)
 |_=>none
def SO(T:Au)(e:Nat):Bool:=match T e with|some i=> !i.agg&&(match i.zero with|[.d (.int .u8 _)]=>true|_=>false)|none=>false
def Lu(l:List Int):ByteArray:=l.foldl (fun r n=>r.push (UInt8.ofNat n.toNat)) ByteArray.empty
def RW(T:Au)(j:TI):Bool:=match j.sl with|some e=>SO T e|none=>false
def convC(T:Au)(h:List (Nat×Blk))(j i:TI):C→Option V
 | .d (.int _ n)=>Nw i n
 | .sl b off n=>if Dv i=true∧RW T j=true∧0<n then (lk b h).bind fun k=>(match k with
  | .row 1 cs _=>if off+n≤cs.length then (Io (AA off n cs)).map fun l=>vC (.d (.str (Lu l))) else none
  |_=>none) else none
 |_=>none
def C.pure? :C→Option D
 | .d x=>some x
 | .nl=>some (.slice 0 [])
 |_=>none
def ifaceOf(i:TI)(t:TypeId):U→Option C
 | .agg cs=>if i.agg then (cs.mapM C.pure?).map fun ds=> .d (.iface t ds) else none
 |_=>none
def assertOf(i:TI)(t:TypeId):C→Option V
 | .d (.iface t' cs)=>if i.agg=true∧2≤i.size then (if t'=t then some (.tup [.agg (cs.map .d),.c (.d (.bool true))]) else some (.tup [.agg i.zero,.c (.d (.bool false))])) else none
 |_=>none
def pickV(b:Bool)(x y:Option V):Option V:=if b then x else y
def clo(h:List (Nat×Blk))(f:FuncId)(cs:List C):U:=
 match cs.mapM (toD (fun _=>false) h 4)with
 |some ds=> .c (.d (.fn f ds))
 |none=> .clo f cs
def Dx(T:Au)(o:Oper)(st:St):Option St:=
 match o.op with
 | .assign (.const (.slice none 0 0))=>GC T o.type o.dst st
 | .move x| .assign x=>(st.ev x).map fun v=>st.put o.dst v
 | .pick c a b=>(st.evB c).bind fun c=>(pickV c (st.ev a) (st.ev b)).map fun v=>st.put o.dst v
 | .alloc t=>(T t).bind fun i=>mk o.dst st (.box i.zero) fun d=> .ptr d 0
 | .box t x=>(T t).bind fun i=>(st.evU x).bind fun u=>if u.cells.length=i.size then mk o.dst st (.box u.cells) (fun d=> .ptr d 0) else none
 | .build t parts=>(T t).bind fun i=>(st.evUs parts.toList).bind fun l=>(build T i l).map fun u=>st.put o.dst (.u u)
 | .buildSlice t len parts=>(T t).bind fun i=>i.sl.bind fun e=>(T e).bind fun j=>(st.evUs parts.toList).bind (Fy j len o.dst st)
 | .load t a=>(T t).bind fun i=>(st.evC a).bind fun c=>(st.load i c).map fun u=>st.put o.dst (.u u)
 | .store t a x=>(T t).bind fun i=>(st.evC a).bind fun c=>(st.evU x).bind fun u=>(st.store i c u).map fun s=>s.put o.dst (.tup [])
 | .nilCheck x=>(st.evC x).bind fun c=>(nilChk c).map fun c=>st.put o.dst (vC c)
 | .binOp op t x y _=>(st.ev x).bind fun a=>(st.ev y).bind fun b=>(binV T op t a b).map fun v=>st.put o.dst v
 | .unOp .not _ x=>(st.evB x).map fun b=>st.put o.dst (vB !b)
 | .unOp .neg _ x=>(st.evI x).bind fun p=>(DN p.1 (0 - p.2)).map fun v=>st.put o.dst v
 | .convert s t x=>(T s).bind fun j=>(T t).bind fun i=>(st.evC x).bind fun c=>(convC T st.h j i c).map fun v=>st.put o.dst v
 | .makeSlice t l c=>(T t).bind fun i=>i.sl.bind fun e=>(T e).bind fun j=>(st.evI l).bind fun l=>(st.evI c).bind fun c=>Fw j o.dst st l.2 c.2
 | .slice t x lo hi none=>(T t).bind fun i=>(st.evC x).bind fun c=>(st.evO lo).bind fun l=>(st.evO hi).bind fun h=>
   (match i.sl with|some e=>(T e).bind fun j=>sliceV st.h c l h j.size|none=>if Dv i then sliceS c l h else none).map fun v=>st.put o.dst (vC v)
 | .fieldAddr t x f=>(T t).bind fun i=>(st.evC x).bind fun c=>(i.flds[f]?).bind fun p=>(T p.2).bind fun j=>if j.size=0 then none else (fldAddr p.1 c).map fun c=>st.put o.dst (vC c)
 | .field t x f=>(T t).bind fun i=>(st.evU x).bind fun u=>(fieldOf T i f u).map fun u=>st.put o.dst (.u u)
 | .indexAddr t x i=>(T t).bind fun ti=>(st.evC x).bind fun c=>(st.evI i).bind fun n=>(idxAddr T st.h ti n.2 c).map fun c=>st.put o.dst (vC c)
 | .index t x i=>(T t).bind fun ti=>(st.evU x).bind fun u=>(st.evI i).bind fun n=>(indexOf T ti n.2 u).map fun u=>st.put o.dst (.u u)
 | .extract x i=>(st.ev x).bind fun v=>(tupAt i v).map fun u=>st.put o.dst (.u u)
 | .makeFunc (.func f) first captured=>if first.toList=[] then (captured.toList.mapM st.evC).map fun cs=>st.put o.dst (.u (clo st.h f cs)) else none
 | .call { callee:= .builtin b,args,argTypes }=>Fx T b argTypes.toList args.toList o.dst st
 | .makeInterface t x=>(T t).bind fun i=>(st.evU x).bind fun u=>(ifaceOf i t u).map fun c=>st.put o.dst (vC c)
 | .typeAssert x _ t true=>(T t).bind fun i=>(st.evC x).bind fun c=>(assertOf i t c).map fun v=>st.put o.dst v
 |_=>none
def U.toA(ids:List Nat)(h:List (Nat×Blk)):U→Option A
 | .c x=>(toD (ids.contains ·) h 4 x).map .c
 | .agg cs=>(cs.mapM (toD (ids.contains ·) h 4)).map .agg
 | .clo f cs=>(cs.mapM (toD (ids.contains ·) h 4)).map fun ds=> .c (.fn f ds)
def D.flat:D→Bool
 | .slice _ _=>false
 | .ref _=>false
 | .fn _ _=>false
 | .iface _ _=>false
 |_=>true
def RC.flat:RC→Bool
 | .d x=>x.flat
 | .own _ _ cs=>cs.all D.flat
def RU.flat:RU→Bool
 | .c x=>x.flat
 | .agg cs=>cs.all RC.flat
def R.flat:R→Bool
 | .u x=>x.flat
 | .tup xs=>xs.all RU.flat
def RC.imp(k:Nat):RC→C
 | .d x=> .d x
 | .own _ n _=> .sl k 0 n
def RU.imp(k:Nat):RU→U
 | .c x=> .c (x.imp k)
 | .agg cs=> .agg (cs.map (RC.imp k))
def R.imp(k:Nat):R→V
 | .u x=> .u (x.imp k)
 | .tup xs=> .tup (xs.map (RU.imp k))
def RC.rows:RC→List Blk
 | .d _=>[]
 | .own sz _ cs=>[.row sz cs true]
def RU.rows:RU→List Blk
 | .c x=>x.rows
 | .agg cs=>cs.flatMap RC.rows
def R.rows:R→List Blk
 | .u x=>x.rows
 | .tup xs=>xs.flatMap RU.rows
def St.back(dst:Option Nat)(passed:List Nat)(res:R)(st:St):St:=
 let s:=if res.flat then st else st.freeze passed
 let k:=dst.getD 0
 (match res.rows with|[]=>s|b::_=>s.new k b).put dst (res.imp k)
def St.backW(dst:Option Nat)(ids:List Nat)(h2:List (Nat×Blk))(res:R)(st:St):St:=
 ({ st with h:=h2++Ee (ids.contains ·) st.h }:St).put dst (res.imp 0)
def St.argsW(st:St)(ids:List Nat)(us:List U)(caps:List D):Option (List A):=(us.mapM (U.toA ids st.h)).map fun as=>as++caps.map .c
def St.reachU(st:St)(us:List U):List Nat:=Bu st.h 5 (us.flatMap U.all)
end Go.Va
namespace Go.Va
open Go.RowKit
structure Own where
 g:Nat
 o:Nat
 sz:Nat
 room:Nat
 app:Bool
 nil:Bool
 gone:Bool:=nil
def Own.has(x:Own)(a:Addr):Prop:=x.gone=false∧a.block=x.g∧x.o≤a.off∧a.off<x.o+x.room*x.sz
abbrev Own.at(x:Own)(j:Nat):Addr:=⟨x.g,x.o+j,none⟩
abbrev one(v:Value):Prop:=v.oneCell'=true
inductive RepD (w:World) (Z:Addr→Prop):D→Value→Prop
 |int (k:IntKind) (n:Int):RepD w Z (.int k n) (.int k n)
 |bool (b:Bool):RepD w Z (.bool b) (.bool b)
 |str (s:ByteArray):RepD w Z (.str s) (.string s)
 |slice (n:Nat) (cs:List D) (a:Addr) (c:Nat) (vs:Nat→Value) (hs:cs≠[]→a.spot=none) (hn:n≤c) (hc:c≤maxLen)
   (h1: ∀(j:Nat) (x:D),cs[j]? =some x→w.cell? ⟨a.block,a.off+j,none⟩=some (vs j))
   (h2: ∀(j:Nat) (x:D),cs[j]? =some x→ ¬Z ⟨a.block,a.off+j,none⟩)
   (h3: ∀(j:Nat) (x:D),cs[j]? =some x→RepD w Z x (vs j)):RepD w Z (.slice n cs) (.slice (some a) n c)
 |snil:RepD w Z (.slice 0 []) (.slice none 0 0)
 |ref (cs:List D) (a:Addr) (vs:Nat→Value) (hs:cs≠[]→a.spot=none)
   (h1: ∀(j:Nat) (x:D),cs[j]? =some x→w.cell? ⟨a.block,a.off+j,none⟩=some (vs j))
   (h2: ∀(j:Nat) (x:D),cs[j]? =some x→ ¬Z ⟨a.block,a.off+j,none⟩)
   (h3: ∀(j:Nat) (x:D),cs[j]? =some x→RepD w Z x (vs j)):RepD w Z (.ref cs) (.pointer (some a))
 |fn (f:FuncId) (caps:List D) (vs:List Value) (hl:caps.length=vs.length)
   (h3: ∀(j:Nat) (x:D) (v:Value),caps[j]? =some x→vs[j]? =some v→RepD w Z x v):RepD w Z (.fn f caps) (.func (.func f) #[] vs.toArray)
 |nilFn:RepD w Z .nilFn .nilFunc
 |nilPtr:RepD w Z .nilPtr (.pointer none)
 |iface (t:TypeId) (cs:List D) (vs:List Value) (hl:cs.length=vs.length)
   (h3: ∀(j:Nat) (x:D) (v:Value),cs[j]? =some x→vs[j]? =some v→RepD w Z x v):RepD w Z (.iface t cs) (.iface t (.agg vs.toArray))
 |lit (x:Value) (h:one x):RepD w Z (.lit x) x
 |any (x:Value) (h:one x):RepD w Z .any x
abbrev As:=Nat→Option Own
def Aj(ρ:As)(Z:Addr→Prop)(a:Addr):Prop:=Z a∨ ∃i o,ρ i=some o∧o.has a
def RepC(ρ:As)(w:World)(Z:Addr→Prop):C→Value→Prop
 | .d x,v=>RepD w (Aj ρ Z) x v
 | .nl,v=>v= .slice none 0 0
 | .sl i off n,v=> ∃o,ρ i=some o∧off+n≤o.room∧
   ((o.nil=true∧v= .slice none 0 0∧off=0∧n=0)∨
   (o.nil=false∧ ∃a c,v= .slice (some a) n c∧n≤c∧c≤maxLen∧(c=0∨a=o.at (off*o.sz))∧(o.app=true→off+c≤o.room)))
 | .ptr i off,v=> ∃o,ρ i=some o∧o.nil=false∧v= .pointer (some (o.at off))
 | .bad,v=>one v
def RepL{α:Type}(r:α→Value→Prop)(xs:List α)(vs:List Value):Prop:=
 xs.length=vs.length∧ ∀(j:Nat) (x:α) (v:Value),xs[j]? =some x→vs[j]? =some v→r x v
def RepU(ρ:As)(w:World)(Z:Addr→Prop):U→Value→Prop
 | .c x,v=>RepC ρ w Z x v
 | .agg cs,v=> ∃vs:List Value,v= .agg vs.toArray∧RepL (RepC ρ w Z) cs vs
 | .clo f cs,v=> ∃vs:List Value,v= .func (.func f) #[] vs.toArray∧RepL (RepC ρ w Z) cs vs
def RepV(ρ:As)(w:World)(Z:Addr→Prop):V→Value→Prop
 | .u x,v=>RepU ρ w Z x v
 | .tup xs,v=> ∃vs:List Value,v= .tuple vs.toArray∧RepL (RepU ρ w Z) xs vs
 | .tr _ _,_=>True
def RepB(ρ:As)(w:World)(Z:Addr→Prop)(o:Own):Blk→Prop
 | .row sz cs app=>o.sz=sz∧o.app=app∧cs.length≤o.room*sz∧((o.nil=true→o.room=0)∧o.gone=o.nil)∧
   ∀(j:Nat) (x:D),cs[j]? =some x→ ∃v,w.cell? (o.at j)=some v∧RepD w (Aj ρ Z) x v
 | .box cs=>o.sz=1∧o.room=cs.length∧(o.nil=false∧o.gone=false)∧
   ∀(j:Nat) (c:C),cs[j]? =some c→ ∃v,w.cell? (o.at j)=some v∧one v∧RepC ρ w Z c v
 | .fbox f cs=>o.sz=1∧o.room=1∧(o.nil=false∧o.gone=false)∧ ∃v,w.cell? (o.at 0)=some v∧RepU ρ w Z (.clo f cs) v
structure Ext (w w':World):Prop extends Below w.heap.size w w' where
 drawn:w.drawn≤w'.drawn
structure Fr (M:Addr→Prop) (w0 w:World):Prop where
 os:w.os=w0.os
 drawn:w0.drawn≤w.drawn
 tape:w.tape=w0.tape
 output:w.output=w0.output
 size:w0.heap.size≤w.heap.size
 cell: ∀(a:Addr) (v:Value),¬M a→w0.cell? a=some v→w.cell? a=some v
 frz: ∀a:Addr,a.block<w0.heap.size→w.frozen? a=w0.frozen? a
 blk: ∀k,k<w0.heap.size→(∀a:Addr,a.block=k→ ¬M a)→w.heap[k]? =w0.heap[k]?
structure Owns (ρ:As) (w:World):Prop where
 cells: ∀i o,ρ i=some o→o.gone=false→ ∀j,j<o.room*o.sz→(∃v,w.cell? (o.at j)=some v)∧w.frozen? (o.at j)=false
 apart: ∀i i' o o',ρ i=some o→ρ i'=some o'→i≠i'→ ∀a,o.has a→ ¬o'.has a
 lim: ∀i o,ρ i=some o→o.room≤maxLen
structure Heap (ρ:As) (w:World) (Z:Addr→Prop) (h:List (Nat×Blk)):Prop where
 owns:Owns ρ w
 rep: ∀i b,lk i h=some b→ ∃o,ρ i=some o∧RepB ρ w Z o b
structure Rel (M:Addr→Prop) (Z:Addr→Prop) (w0:World) (ρ:As) (st:St) (a:Act) (w:World):Prop where
 fr:Fr M w0 w
 heap:Heap ρ w Z st.h
 mine: ∀i o ad,ρ i=some o→o.has ad→M ad∨w0.heap.size≤ad.block
 out: ∀ad,Z ad→ad.block<w0.heap.size
 mz: ∀ad,M ad→ ¬Z ad
 tmps: ∀t v,lk t st.t=some v→RepV ρ w Z v (a.tmps.getD t undef)
 defers:a.defers=[]
def A.rep(w:World)(Z:Addr→Prop):A→Value→Prop
 | .c x,v=>RepD w Z x v
 | .agg cs,v=> ∃vs:List Value,v= .agg vs.toArray∧RepL (RepD w Z) cs vs
def BE(k:Nat)(bs:List Blk)(o:Own):As:=fun i=>match bs with|[]=>none|_=>if i=k then some o else none
def Ix(w w':World)(Z:Addr→Prop)(r:R)(v:Value):Prop:=
 r.rows.length≤1∧ ∃o:Own,(∀ad,o.has ad→w.heap.size≤ad.block)∧
  ∀k,RepV (BE k r.rows o) w' Z (r.imp k) v∧Heap (BE k r.rows o) w' Z (match r.rows with|[]=>[]|b::_=>[(k,b)])
def EU (P : Program) (f : FuncId) : Prop := ∃ fn, P.funcs[f]? = some fn ∧ fn.body.isSome = true ∧ (fn.name == "runtime.NumGoroutine") = false
def CallsF(P:Program)(f:FuncId)(as:List A)(r:R):Prop:=
 EU P f∧ ∀(w:World) (Z:Addr→Prop) (vals:List Value),(∀ad,Z ad→ad.block<w.heap.size)→RepL (A.rep w Z) as vals→
  Calls P f vals.toArray w fun e w'=> ∃v,e= .returned v∧Ext w w'∧Ix w w' Z r v
def Cells(ρ:As)(a:Addr):Prop:= ∃i o,ρ i=some o∧o.has a
def DZ(P:Program)(f:FuncId)(us:List U)(h h':List (Nat×Blk))(r:R):Prop:=
 EU P f∧r.rows=[]∧ ∀(w:World) (Z:Addr→Prop) (ρ:As) (vals:List Value),(∀ad,Z ad→ad.block<w.heap.size)→Heap ρ w Z h→(∀ad,Cells ρ ad→ ¬Z ad)→(∀i o,ρ i=some o→(lk i h).isSome=true)→
  RepL (RepU ρ w Z) us vals→
  Calls P f vals.toArray w fun e w'=> ∃v,e= .returned v∧Fr (Cells ρ) w w'∧Heap ρ w' Z h'∧RepV (fun _=>none) w' (Aj ρ Z) (r.imp 0) v
structure Yl where
 g:FuncId
 caps:List Value
 J:List (List A)→(Addr→Prop)→(Addr→Prop)→World→Prop
def Yl.x(Y:Yl):Value:= .func (.func Y.g) #[] Y.caps.toArray
structure YlOk (P:Program) (Y:Yl):Prop where
 sub: ∀rest R D w,Y.J rest R D w→(∀ad,R ad→D ad)∧(∀ad,D ad→ad.block<w.heap.size)
 stable: ∀rest R D (w w':World) (M:Addr→Prop),Y.J rest R D w→(∀ad,M ad→ ¬D ad)→Fr M w w'→Y.J rest R D w'
 step: ∀y rest R (D D2:Addr→Prop) (w:World) (vals:List Value),Y.J (y::rest) R D w→(∀ad,D ad→D2 ad)→(∀ad,D2 ad→ad.block<w.heap.size)→RepL (A.rep w fun ad=>R ad∨ ¬D2 ad) y vals→
  EU P Y.g∧Calls P Y.g (vals++Y.caps).toArray w fun e w'=>e= .returned (.tuple #[])∧ ∃R' D',Y.J rest R' D' w'∧Fr R w w'∧(∀ad,R' ad→R ad∨w.heap.size≤ad.block)∧(∀ad,D' ad→D2 ad∨w.heap.size≤ad.block)∧(∀ad,D ad→D' ad)
def BA(P:Program)(x:Value)(f:FuncId)(as:List A)(ys:List (List A)):Prop:=
 EU P f∧ ∀(Y:Yl),Y.x=x→YlOk P Y→ ∀(w:World) (Z:Addr→Prop) (vals:List Value) (rest:List (List A)) (R D:Addr→Prop),
  Y.J (ys++rest) R D w→(∀ad,Z ad→ad.block<w.heap.size)→(∀ad,R ad→Z ad)→RepL (A.rep w Z) as vals→
  Calls P f vals.toArray w fun e w'=>e= .returned (.tuple #[])∧ ∃R' D',Y.J rest R' D' w'∧Fr R w w'∧(∀ad,R' ad→R ad∨w.heap.size≤ad.block)∧(∀ad,D' ad→D ad∨ ¬Z ad∨w.heap.size≤ad.block)∧(∀ad,D ad→D' ad)
def HE(P:Program)(f:FuncId)(y:List A)(cs:List C)(h h':List (Nat×Blk)):Prop:=
 EU P f∧ ∀(w:World) (Z:Addr→Prop) (ρ:As) (vals cvals:List Value),(∀ad,Z ad→ad.block<w.heap.size)→Heap ρ w Z h→(∀ad,Cells ρ ad→ ¬Z ad)→(∀i o,ρ i=some o→(lk i h).isSome=true)→
  RepL (A.rep w (Aj ρ Z)) y vals→RepL (RepC ρ w Z) cs cvals→
  Calls P f (vals++cvals).toArray w fun e w'=>e= .returned (.tuple #[])∧ ∃ρ',Fr (Cells ρ) w w'∧Heap ρ' w' Z h'∧(∀i o,ρ' i=some o→(lk i h').isSome=true)∧(∀ad,Cells ρ' ad→Cells ρ ad∨w.heap.size≤ad.block)∧RepL (RepC ρ' w' Z) cs cvals
def CallsA(P:Program)(f:FuncId)(sz n:Nat)(cs:List D)(as:List A)(m:Nat)(cs':List D):Prop:=
 EU P f∧ ∀(w:World) (Z:Addr→Prop) (ρ:As) (k:Nat) (v0:Value) (vals:List Value),(∀ad,Z ad→ad.block<w.heap.size)→Heap ρ w Z [(k,.row sz cs true)]→(∀ad,Cells ρ ad→ ¬Z ad)→(∀i o,ρ i=some o→i=k)→
  RepC ρ w Z (.sl k 0 n) v0→RepL (A.rep w (Aj ρ Z)) as vals→
  Calls P f (v0::vals).toArray w fun e w'=> ∃v,e= .returned v∧ ∃ρ',Fr (Cells ρ) w w'∧Heap ρ' w' Z [(k,.row sz cs' true)]∧(∀i o,ρ' i=some o→i=k)∧(∀ad,Cells ρ' ad→Cells ρ ad∨w.heap.size≤ad.block)∧RepC ρ' w' Z (.sl k 0 m) v
def Av{α:Type}(o:Option α)(k:α→Prop):Prop:= ∃x,o=some x∧k x
theorem C5{α:Type}(x:α)(k:α→Prop):Av (some x) k=k x:=by simp[Av]
theorem je0{α:Type}(k:α→Prop):Av none k=False:=by simp[Av]
theorem Xf{α:Type}(c:Prop)[Decidable c](x:Option α)(k:α→Prop):Av (if c then x else none) k=(c∧Av x k):=by
 by_cases h:c<;>simp[Av,h]
def Lo{α β:Type}(f:α→Option β)(k:β→Prop)(x:α):Prop:=Av (f x) k
theorem Xt{α β:Type}(o:Option α)(f:α→Option β)(k:β→Prop):Av (o.bind f) k=Av o (Lo f k):=by
 cases o<;>simp[Av,Lo]
def NK{α β:Type}(f:α→β)(k:β→Prop)(x:α):Prop:=k (f x)
theorem Y3{α β:Type}(o:Option α)(f:α→β)(k:β→Prop):Av (o.map f) k=Av o (NK f k):=by
 cases o<;>simp[Av,NK]
def Hj(P:Program)(g:FuncId)(as:List A)(k:R→Prop):Prop:= ∃res,CallsF P g as res∧k res
def Jb(dst:Option Nat)(ids:List Nat)(K:St→Prop)(st:St)(res:R):Prop:=K (st.back dst ids res)
def M9(P:Program)(dst:Option Nat)(st:St)(K:St→Prop)(g:FuncId)(ids:List Nat)(as:List A):Prop:=Hj P g as (Jb dst ids K st)
def CA(ids:List Nat)(cs:List C):Prop:= ∀c∈cs,∀i,c.id? =some i→i∈ids
def Jo(ids:List Nat):Blk→Prop
 | .row _ _ _=>True
 | .box cs=>CA ids cs
 | .fbox _ cs=>CA ids cs
def ON(P:Program)(dst:Option Nat)(st:St)(K:St→Prop)(g:FuncId)(caps:List D)(us:List U):Prop:=
 ∃(ids:List Nat) (r:R) (h1 h2:List (Nat×Blk)),DZ P g (us++caps.map fun d=> .c (.d d)) h1 h2 r∧(∀u∈us,CA ids u.all)∧
  (∀i b,lk i h1=some b→i∈ids∧lk i st.h=some b∧Jo ids b)∧(∀i∈ids,(lk i h1).isSome=true)∧K (st.backW dst ids h2 r)
def St.rest(x:Value)(l:List (List A))(st:St):St:={ st with t:=(YS,.tr x l)::rm YS st.t }
def St.backY(dst:Option Nat)(ids:List Nat)(x:Value)(l:List (List A))(st:St):St:=((st.freeze ids).put dst (.tup [])).rest x l
def Wi(P:Program)(dst:Option Nat)(st:St)(K:St→Prop)(g:FuncId)(caps:List D)(us:List U):Prop:=
 ∃(x:Value) (ys rest:List (List A)) (as:List A),lk YS st.t=some (.tr x (ys++rest))∧st.argsW (st.reachU us) us caps=some as∧BA P x g as ys∧K (st.backY dst (st.reachU us) x rest)
def ZM(P:Program)(dst:Option Nat)(st:St)(K:St→Prop)(g:FuncId)(caps:List D)(us:List U):Prop:=
 caps=[]∧ ∃(x:Value) (ys rest:List (List A)) (as:List A) (f:FuncId) (cl:List D) (zs:List A→List (List A)),lk YS st.t=some (.tr x (ys.flatMap zs++rest))∧
  us.mapM (U.toA (st.reachU us) st.h)=some (as++[.c (.fn f cl)])∧(∀x',BA P x' g (as++[.c (.lit x')]) ys)∧(∀y∈ys,BA P x f (y++cl.map .c) (zs y))∧K (st.backY dst (st.reachU us) x rest)
def EI(ids:List Nat)(cs:List C):Nat→C→C:=fun i c=>if ids.contains i then (match c with| .ptr _ _=>if cs.any (fun e=>match e with| .ptr j _=>j==i|_=>false) then c else .bad|_=> .bad) else c
def St.backX(dst:Option Nat)(ids nw fz:List Nat)(cs:List C)(h2:List (Nat×Blk))(st:St):St:=
 ({ (purges nw (st.freeze fz)).on (EI ids cs)with h:=h2++Ee (ids.contains ·) ((purges nw (st.freeze fz)).on (EI ids cs)).h }:St).put dst (.tup [])
structure HbOk (st:St) (cs:List C) (hA hB:List (Nat×Blk)) (fz ids nw:List Nat):Prop where
 frz: ∀i∈ids,i∉fz
 caps:CA ids cs
 old: ∀i b,lk i hA=some b→i∈ids∧lk i (purges nw (st.freeze fz)).h=some b∧Jo ids b
 here: ∀i∈ids,(lk i hA).isSome=true
 free: ∀i∈nw,i∉ids
 new: ∀i b,lk i hB=some b→i∈ids∨i∈nw
def jbu(P:Program)(dst:Option Nat)(st:St)(K:St→Prop)(g:FuncId)(caps:List D)(us:List U):Prop:=
 caps=[]∧ ∃(us0:List U) (f:FuncId) (cs:List C) (as:List A) (ys:List (List A)) (H:List (List A)→List (Nat×Blk)) (fz ids nw:List Nat),us=us0++[.clo f cs]∧
  us0.mapM (U.toA fz st.h)=some as∧(∀x',BA P x' g (as++[.c (.lit x')]) ys)∧(∀y rest,(y::rest)<:+ys→HE P f y cs (H (y::rest)) (H rest))∧
  HbOk st cs (H ys) (H []) fz ids nw∧K (st.backX dst ids nw fz cs (H []))
def Vk(P:Program)(dst:Option Nat)(st:St)(K:St→Prop)(g:FuncId)(caps:List D)(us:List U):Prop:=
 caps=[]∧ ∃(us0:List U) (f0 k:Nat) (f:FuncId) (cs:List C) (as:List A) (ys:List (List A)) (zs:List A→List (List A)) (H:List (List A)→List (Nat×Blk)) (fz ids nw:List Nat),us=us0++[.clo f0 [.ptr k 0]]∧lk k st.h=some (.fbox f cs)∧k∈fz∧
  us0.mapM (U.toA fz st.h)=some as∧(∀x',BA P x' g (as++[.c (.lit x')]) ys)∧(∀x y,y∈ys→BA P x f0 (y++[.c (.ref [.lit x])]) (zs y))∧
  (∀y rest,(y::rest)<:+ys.flatMap zs→HE P f y cs (H (y::rest)) (H rest))∧
  HbOk st cs (H (ys.flatMap zs)) (H []) fz ids nw∧K (st.backX dst ids nw fz cs (H []))
def jgo(P:Program)(dst:Option Nat)(st:St)(K:St→Prop)(g:FuncId)(caps:List D)(us:List U):Prop:=
 caps=[]∧ ∃(k n sz m d:Nat) (cs cs':List D) (us':List U) (as:List A),us= .c (.sl k 0 n)::us'∧lk k st.h=some (.row sz cs true)∧us'.mapM (U.toA [] st.h)=some as∧dst=some d∧CallsA P g sz n cs as m cs'∧
  K (((st.drop k).new d (.row sz cs' true)).put (some d) (vC (.sl d 0 m)))
def jiL(P:Program)(dst:Option Nat)(st:St)(K:St→Prop)(g:FuncId)(caps:List D)(us:List U):Prop:=
 caps=[]∧ ∃(sz m d:Nat) (cs':List D) (us':List U) (as:List A),us= .c .nl::us'∧us'.mapM (U.toA [] st.h)=some as∧dst=some d∧CallsA P g sz 0 [] as m cs'∧
  K ((((st.new d (.row sz [] true)).drop d).new d (.row sz cs' true)).put (some d) (vC (.sl d 0 m)))
def jbA(P:Program)(dst:Option Nat)(st:St)(K:St→Prop)(g:FuncId)(caps:List D)(us:List U):Prop:=
 caps=[]∧ ∃(fz:List Nat) (k n sz m d:Nat) (cs cs':List D) (us':List U) (as:List A),us= .c (.sl k 0 n)::us'∧k∉fz∧lk k (st.freeze fz).h=some (.row sz cs true)∧us'.mapM (U.toA fz st.h)=some as∧dst=some d∧CallsA P g sz n cs as m cs'∧
  K ((((st.freeze fz).drop k).new d (.row sz cs' true)).put (some d) (vC (.sl d 0 m)))
def jg5(P:Program)(dst:Option Nat)(st:St)(K:St→Prop)(g:FuncId)(caps:List D)(us:List U):Prop:=
 caps=[]∧ ∃(fz:List Nat) (sz m d:Nat) (cs':List D) (us':List U) (as:List A),us= .c .nl::us'∧us'.mapM (U.toA fz st.h)=some as∧dst=some d∧CallsA P g sz 0 [] as m cs'∧
  K (((((st.freeze fz).new d (.row sz [] true)).drop d).new d (.row sz cs' true)).put (some d) (vC (.sl d 0 m)))
def Ka(P:Program)(dst:Option Nat)(st:St)(K:St→Prop)(g:FuncId)(caps:List D)(us:List U):Prop:=
 ON P dst st K g caps us∨Wi P dst st K g caps us∨ZM P dst st K g caps us∨(jbu P dst st K g caps us∨Vk P dst st K g caps us∨jiL P dst st K g caps us∨jbA P dst st K g caps us∨jg5 P dst st K g caps us)∨jgo P dst st K g caps us
def Ea(P:Program)(dst:Option Nat)(st:St)(K:St→Prop)(g:FuncId)(caps:List D)(us:List U):Prop:=
 Av (st.argsW (st.reachU us) us caps) (M9 P dst st K g (st.reachU us))∨Ka P dst st K g caps us
def Np(P:Program)(dst:Option Nat)(st:St)(K:St→Prop)(g:FuncId)(cs:List C)(us:List U):Prop:=Ea P dst st K g [] (us++cs.map .c)
def QY(dst:Option Nat)(st:St)(K:St→Prop)(x:Value)(us:List U):Prop:=
 ∃(as:List A) (rest:List (List A)),lk YS st.t=some (.tr x (as::rest))∧st.argsW (st.reachU us) us []=some as∧K (st.backY dst (st.reachU us) x rest)
def Ev(P:Program)(dst:Option Nat)(args:List Operand)(st:St)(K:St→Prop)(u:U):Prop:=
 match u with
 | .c (.d (.fn g caps))=>Av (args.mapM st.evU) (Ea P dst st K g caps)
 | .clo g cs=>Av (args.mapM st.evU) (Np P dst st K g cs)
 | .c (.d (.lit x))=>Av (args.mapM st.evU) (QY dst st K x)
 |_=>False
theorem jgH(P:Program)(dst:Option Nat)(args:List Operand)(st:St)(K:St→Prop)(x:Value):
  Ev P dst args st K (.c (.d (.lit x)))=Av (args.mapM st.evU) (QY dst st K x):=rfl
theorem Jj(P:Program)(dst:Option Nat)(args:List Operand)(st:St)(K:St→Prop)(g:FuncId)(caps:List D):
  Ev P dst args st K (.c (.d (.fn g caps)))=Av (args.mapM st.evU) (Ea P dst st K g caps):=rfl
theorem Uj(P:Program)(dst:Option Nat)(args:List Operand)(st:St)(K:St→Prop)(g:FuncId)(cs:List C):
  Ev P dst args st K (.clo g cs)=Av (args.mapM st.evU) (Np P dst st K g cs):=rfl
theorem jib(P:Program)(dst:Option Nat)(st:St)(K:St→Prop)(g:FuncId)(cs:List C)(us:List U):
  Np P dst st K g cs us=Ea P dst st K g [] (us++cs.map .c):=rfl
theorem YZ(P:Program)(dst:Option Nat)(st:St)(K:St→Prop)(g:FuncId)(caps:List D)(us:List U):
  Ea P dst st K g caps us=(Av (st.argsW (st.reachU us) us caps) (M9 P dst st K g (st.reachU us))∨Ka P dst st K g caps us):=rfl
theorem Ox(P:Program)(dst:Option Nat)(st:St)(K:St→Prop)(g:FuncId)(ids:List Nat)(as:List A):
  M9 P dst st K g ids as=Hj P g as (Jb dst ids K st):=rfl
def wpOp(P:Program)(T:Au)(o:Oper)(st:St)(K:St→Prop):Prop:=
 match o.op with
 | .call { callee:= .value f,args,.. }=>Av (st.evU f) (Ev P o.dst args.toList st K)
 |_=>Av (Dx T o st) K
def JO{α:Type}(f:St→α→Prop)(k:α)(s:St):Prop:=f s k
theorem jbl{α:Type}(f:St→α→Prop)(k:α)(s:St):JO f k s=f s k:=rfl
def GA(dst:Option Nat)(st:St)(K:St→Prop):Prop:=K (st.put dst (.tup []))
def Dl(d:Nat)(want:Bool)(v:Option V)(st:St)(k1 k2:St→(St→Prop)→Prop)(K:St→Prop):Prop:=
 match v with
 |some (.u (.c (.d (.bool b))))=>(b=want→k1 (st.put (some d) (vB want)) K)∧(b= !want→k2 (st.put (some d) (vB !want)) K)
 |some (.tup [])=>k2 st K
 |_=>False
theorem Hd(d:Nat)(want b:Bool)(st:St)(k1 k2:St→(St→Prop)→Prop)(K:St→Prop):
  Dl d want (some (.u (.c (.d (.bool b))))) st k1 k2 K=((b=want→k1 (st.put (some d) (vB want)) K)∧(b= !want→k2 (st.put (some d) (vB !want)) K)):=rfl
theorem Ub(d:Nat)(want:Bool)(st:St)(k1 k2:St→(St→Prop)→Prop)(K:St→Prop):
  Dl d want (some (.tup [])) st k1 k2 K=k2 st K:=rfl
def B3(P:Program)(T:Au)(ops:List Oper)(o:Oper)(st:St)(K:St→Prop):Prop:=
 match o.guard with
 |none=>wpOp P T o st K
 |some (j,want)=>
  match (ops[j]?).bind (·.dst)with
  |some d=>Dl d want (lk d st.t) st (wpOp P T o) (GA o.dst) K
  |none=>False
def ES(P:Program)(T:Au)(ops:List Oper):List Oper→St→(St→Prop)→Prop
 |[],st,K=>K st
 |o::r,st,K=>B3 P T ops o st (JO (ES P T ops r) K)
def Aw{α:Type}(l:List (Nat×α)):List (Nat×α)→Prop
 |[]=>True
 |(k,v)::r=>lk k l=some v∧Aw l r
def St.le(s0 s:St):Prop:=Aw s.t s0.t∧Aw s.h s0.h
abbrev Bc:=Exit→St→Prop
def EB(k:St→Bc→Prop)(Q:Bc)(e:Exit)(s:St):Prop:=
 match e with
 | .normal=>k s Q
 |e=>Q e s
def F6(id:Nat)(Q:Bc)(e:Exit)(s:St):Prop:=
 match e with
 | .exit j=>if j=id then Q .normal s else Q (.exit j) s
 |e=>Q e s
def Fd(b:Option Bool)(st:St)(k1 k2:St→Bc→Prop)(Q:Bc):Prop:=
 match b with
 |some b=>(b=true→k1 st Q)∧(b=false→k2 st Q)
 |none=>False
theorem Xq(b:Bool)(st:St)(k1 k2:St→Bc→Prop)(Q:Bc):Fd (some b) st k1 k2 Q=((b=true→k1 st Q)∧(b=false→k2 st Q)):=rfl
def H5(I:St→Nat→Prop)(rs:List (Nat×Nat))(n:Nat)(s':St)(_:Bc):Prop:= ∃s1 m,St.le s1 (rns rs s')∧I s1 m∧m<n
def HT(body:St→Bc→Prop)(st:St)(Q:Bc):Prop:=
 ∃(I:St→Nat→Prop) (rs:List (Nat×Nat)),(∃s n,s.le (rns rs st)∧I s n)∧ ∀s n,I s n→body s (EB (H5 I rs n) Q)
theorem WG(k:St→Bc→Prop)(Q:Bc)(s:St):EB k Q .normal s=k s Q:=rfl
theorem Xx(k:St→Bc→Prop)(Q:Bc)(s:St):EB k Q .ret s=Q .ret s:=rfl
theorem Y0(k:St→Bc→Prop)(Q:Bc)(i:Nat)(s:St):EB k Q (.exit i) s=Q (.exit i) s:=rfl
theorem jgt(i:Nat)(Q:Bc)(s:St):F6 i Q .normal s=Q .normal s:=rfl
theorem jko(i:Nat)(Q:Bc)(s:St):F6 i Q .ret s=Q .ret s:=rfl
theorem jhI(i j:Nat)(Q:Bc)(s:St):F6 i Q (.exit j) s=if j=i then Q .normal s else Q (.exit j) s:=rfl
def IL(Q:Bc)(s:St):Prop:=Q .normal s
theorem jcv(Q:Bc)(s:St):IL Q s=Q .normal s:=rfl
def fitC(st:St)(pure:Bool):C→RC→Prop
 |c,.d x=>(pure=true→c.id? =none)∧st.cD c=some x
 | .sl i 0 n,.own sz m cs=>m=n∧lk i st.h=some (.row sz cs true)∧cs.length=n*sz
 | .nl,.own _ m cs=>m=0∧cs=[]
 |_,_=>False
def fitL{α β:Type}(r:α→β→Prop):List α→List β→Prop
 |[],[]=>True
 |a::l,b::m=>r a b∧fitL r l m
 |_,_=>False
def fitU(st:St)(pure:Bool):U→RU→Prop
 | .c x,.c y=>fitC st pure x y
 | .agg cs,.agg ds=>fitL (fitC st pure) cs ds
 |_,_=>False
def fitV(st:St)(pure:Bool):V→R→Prop
 | .u x,.u y=>fitU st pure x y
 | .tup xs,.tup ys=>fitL (fitU st pure) xs ys
 |_,_=>False
def St.resU(T:Au)(st:St):ResultVar→Option U
 | .tmp t=>match lk t st.t with|some (.u u)=>some u|_=>none
 | .cell t ty=>(T ty).bind fun i=>match lk t st.t with|some (.u (.c c))=>st.load i c|_=>none
def St.res(T:Au)(st:St)(rs:List ResultVar):Option V:=
 match rs with
 |[r]=>(st.resU T r).map .u
 |rs=>(rs.mapM (st.resU T)).map .tup
def Nu(T:Au)(rs:List ResultVar)(r:R)(e:Exit)(st:St):Prop:=
 (e= .ret∨e= .normal)∧ ∃v,st.res T rs=some v∧r.rows.length≤1∧fitV st (!r.rows.isEmpty) v r
def A.toV:A→V
 | .c x=> .u (.c (.d x))
 | .agg cs=> .u (.agg (cs.map .d))
def BL(k:Nat):List A→List (Nat×V)
 |[]=>[]
 |a::r=>(k,a.toV)::BL (k+1) r
def St.init(as:List A):St:={ t:=BL 0 as,h:=[] }
end Go.Va
