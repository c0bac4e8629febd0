/- a part of the proof -/
import Derived.Calls
import Derived.Orders
import Derived.Below
import Derived.Laws.IdiomCopy
import Derived.Laws.MakeOwn
import Derived.Laws.Append
set_option linter.all false
namespace Go.Va
abbrev AD:= @List.getElem?_eq_getElem
abbrev AL:= @List.getD_eq_getElem?_getD
abbrev AZ:= @List.getElem_mem
abbrev jzd:= @Option.bind_eq_some_iff
abbrev jze:= @Option.map_eq_some_iff
abbrev BQ:= @List.drop_eq_getElem_cons
abbrev jzg:= @List.getElem?_eq_some_iff
abbrev Cr:= @List.take_succ_eq_append_getElem
abbrev Ba:= @List.take_of_length_le
abbrev AR:= @Bool.and_eq_true
abbrev jzk:= @List.mem_map
abbrev A8:= @List.length_take
abbrev AX:= @Nat.mod_eq_of_lt
abbrev jzn:= @List.mem_cons
abbrev E8:= @List.not_mem_nil
abbrev BC:= @Nat.mul_le_mul_right
abbrev AO:= @Nat.le_refl
abbrev BM:= @List.take_length
abbrev BY:= @List.mem_of_getElem?
abbrev Bi:= @Option.some.inj
abbrev Bs:= @Nat.min_eq_left
abbrev jzv:= @List.length_eq_zero_iff
abbrev Cn:= @Array.getD_eq_getD_getElem?
abbrev B9:= @List.getElem?_eq_none
abbrev jzy:= @List.all_eq_true
abbrev DU:= @List.drop_of_length_le
abbrev Bf:= @List.getElem?_map
inductive D where
 |int (k:IntKind) (n:Int)
 |bool (b:Bool)
 |str (s:ByteArray)
 |slice (n:Nat) (cs:List D)
 |ref (cs:List D)
 |fn (f:FuncId) (caps:List D)
 |nilFn
 |nilPtr
 |iface (t:TypeId) (cs:List D)
 |lit (x:Value)
 |any
 |nn
 deriving Inhabited
inductive C where
 |d (x:D)
 |nl
 |sl (id off n:Nat)
 |ptr (id off:Nat)
 |bad
 |mp (it:Bool) (id:Nat)
 deriving Inhabited
inductive U where
 |c (x:C)
 |agg (cs:List C)
 |clo (f:FuncId) (cs:List C)
 deriving Inhabited
inductive A where
 |c (x:D)
 |agg (cs:List D)
 deriving Inhabited
inductive V where
 |u (x:U)
 |tup (xs:List U)
 |tr (x:Value) (ys:List (List A))
 deriving Inhabited
def YS:Nat:=1000000
inductive Ky where
 |s (b:ByteArray)
 |n (i:Int)
 deriving Inhabited
inductive Ob where
 |mp (es:List (Ky×Int))
 |it (s:ByteArray) (p:Nat)
 deriving Inhabited
inductive Blk where
 |row (sz:Nat) (cs:List D) (app:Bool)
 |box (cs:List C)
 |fbox (f:FuncId) (cs:List C)
 |mp (x:Ob)
 |gh (cs:List C)
 deriving Inhabited
structure St where
 t:List (Nat×V)
 h:List (Nat×Blk)
 deriving Inhabited
def lk{α:Type}(k:Nat):List (Nat×α)→Option α
 |[]=>none
 |(j,v)::r=>if j=k then some v else lk k r
def rm{α:Type}(k:Nat):List (Nat×α)→List (Nat×α)
 |[]=>[]
 |(j,v)::r=>if j=k then rm k r else (j,v)::rm k r
structure TI where
 agg:Bool:=false
 size:Nat:=1
 bytes:Nat:=8
 zero:List C:=[]
 sl:Option Nat:=none
 arr:Option (Nat×Nat):=none
 flds:List (Nat×Nat):=[]
 flat:Bool:=false
 mp:Bool:=false
 mpi:Bool:=false
 trunc:Bool:=false
 deriving Inhabited
abbrev AH:=Nat→Option TI
inductive RC where
 |d (x:D)
 |own (sz n:Nat) (cs:List D)
 deriving Inhabited
inductive RU where
 |c (x:RC)
 |agg (cs:List RC)
 deriving Inhabited
inductive R where
 |u (x:RU)
 |tup (xs:List RU)
 deriving Inhabited
def C.id? :C→Option Nat
 | .sl i _ _=>some i
 | .ptr i _=>some i
 | .mp _ i=>some i
 |_=>none
def C.on(g:Nat→C→C)(c:C):C:=
 match c with
 | .sl i o n=>g i (.sl i o n)
 | .ptr i o=>g i (.ptr i o)
 | .mp q i=>g i (.mp q i)
 |c=>c
def U.on(g:Nat→C→C):U→U
 | .c x=> .c (x.on g)
 | .agg cs=> .agg (cs.map (C.on g))
 | .clo f cs=> .clo f (cs.map (C.on g))
def V.on(g:Nat→C→C):V→V
 | .u x=> .u (x.on g)
 | .tup xs=> .tup (xs.map (U.on g))
 | .tr x ys=> .tr x ys
def Blk.on(g:Nat→C→C):Blk→Blk
 | .row sz cs app=> .row sz cs app
 | .box cs=> .box (cs.map (C.on g))
 | .fbox f cs=> .fbox f (cs.map (C.on g))
 | .mp x=> .mp x
 | .gh cs=> .gh (cs.map (C.on g))
def St.on(g:Nat→C→C)(st:St):St:=
 {t:=st.t.map fun e=>(e.1,e.2.on g),h:=st.h.map fun e=>(e.1,e.2.on g) }
def Bm(i:Nat):Nat→C→C:=fun j c=>if j=i then .bad else c
def St.purge(id:Nat)(st:St):St:={ st.on (Bm id)with h:=rm id (st.on (Bm id)).h }
def St.put(dst:Option Nat)(v:V)(st:St):St:=
 match dst with
 |some d=>{ st with t:=(d,v)::rm d st.t }
 |none=>st
def St.blk(id:Nat)(b:Blk)(st:St):St:={ st with h:=(id,b)::rm id st.h }
def St.drop(id:Nat)(st:St):St:={ st with h:=rm id st.h }
def St.new(id:Nat)(b:Blk)(st:St):St:=(st.purge id).blk id (b.on (Bm id))
def C.to(i:Nat):C→C
 | .sl _ o n=> .sl i o n
 | .ptr _ o=> .ptr i o
 | .mp q _=> .mp q i
 |c=>c
def C0(i j:Nat):Nat→C→C:=fun k c=>if k=j then c.to i else if k=i then .bad else c
def St.rn(i j:Nat)(st:St):St:=
 if i=j then st else
 match lk j st.h with
 |none=>st
 |some b=>{ st.on (C0 i j)with h:=(i,b.on (C0 i j))::rm i (rm j (st.on (C0 i j)).h) }
def rns:List (Nat×Nat)→St→St
 |[],s=>s
 |(i,j)::r,s=>rns r (s.rn i j)
def purges(l:List Nat)(s:St):St:=l.foldl (fun s i=>s.purge i) s
def AP{α:Type}(off n:Nat)(l:List α):List α:=(l.drop off).take n
def toD(ok:Nat→Bool)(h:List (Nat×Blk)):Nat→C→Option D
 |_,.d x=>some x
 |_,.nl=>some (.slice 0 [])
 |_,.bad=>none
 |_,.mp _ _=>none
 |_,.sl i off n=>if ok i then (match lk i h with
  |some (.row sz cs _)=>if (off+n)*sz≤cs.length then some (.slice n (AP (off*sz) (n*sz) cs)) else none
  |_=>none) else none
 |0,.ptr i _=>if ok i then some .any else none
 |k+1,.ptr i off=>if ok i then (match lk i h with
  |some (.row _ cs _)=>some (.ref (cs.drop off))
  |some (.box cs)=>((cs.drop off).mapM (toD ok h k)).map .ref
  |some (.fbox f cs)=>if off=0 then (cs.mapM (toD ok h k)).map fun ds=> .ref [.fn f ds] else none
  |some (.mp _)=>none
  |some (.gh _)=>none
  |none=>none) else none
def St.cD(st:St)(c:C):Option D:=toD (fun _=>true) st.h 4 c
def DZ(h:List (Nat×Blk)):Nat→List C→List Nat
 |0,_=>[]
 |k+1,cs=>cs.flatMap fun c=>match c.id? with
  |none=>[]
  |some i=>i::(match lk i h with
   |some (.box bs)=>DZ h k bs
   |some (.fbox _ bs)=>DZ h k bs
   |_=>[])
def Du(h:List (Nat×Blk))(ok:Nat→Bool):Nat→C→C:=fun i c=>if ok i then (match toD ok h 4 c with|some x=> .d x|none=> .bad) else c
def Ds{α:Type}(ok:Nat→Bool)(h:List (Nat×α)):List (Nat×α):=h.filter fun e=> !ok e.1
def St.freezeK(ok:Nat→Bool)(st:St):St:=
 let s:=st.on (Du st.h ok)
 {s with h:=Ds ok s.h }
def St.freeze(ids:List Nat)(st:St):St:=
 match ids with
 |[]=>st
 |i::r=>st.freezeK ((i::r).contains ·)
def St.sealW(ids:List Nat)(cs:List C)(st:St):Option (List D×St):=
 (cs.mapM (toD (ids.contains ·) st.h 4)).map fun ds=>(ds,st.freeze ids)
def St.shut(cs:List C)(st:St):Option (List D×St):=st.sealW (DZ st.h 5 cs) cs
def cCell:Value→Option C
 | .int k n=>some (.d (.int k n))
 | .bool b=>some (.d (.bool b))
 | .string s=>some (.d (.str s))
 | .slice none 0 0=>some .nl
 | .pointer none=>some (.d .nilPtr)
 | .nilFunc=>some (.d .nilFn)
 |_=>none
def cVal:Value→Option V
 | .agg cs=>(cs.toList.mapM cCell).map fun l=> .u (.agg l)
 |v=>(cCell v).map fun c=> .u (.c c)
def St.ev(st:St):Operand→Option V
 | .tmp t=>lk t st.t
 | .const v=>cVal v
 | .func f=>some (.u (.c (.d (.fn f []))))
 | .global _=>none
def U.cells:U→List C
 | .c x=>[x]
 | .agg cs=>cs
 | .clo _ _=>[.bad]
def U.all:U→List C
 | .c x=>[x]
 | .agg cs=>cs
 | .clo _ cs=>cs
def St.evU(st:St)(x:Operand):Option U:=
 match st.ev x with
 |some (.u u)=>some u
 |_=>none
def St.evC(st:St)(x:Operand):Option C:=
 match st.ev x with
 |some (.u (.c c))=>some c
 |_=>none
def St.evI(st:St)(x:Operand):Option (IntKind×Int):=
 match st.ev x with
 |some (.u (.c (.d (.int k n))))=>some (k,n)
 |_=>none
def St.evB(st:St)(x:Operand):Option Bool:=
 match st.ev x with
 |some (.u (.c (.d (.bool b))))=>some b
 |_=>none
def vI(k:IntKind)(n:Int):V:= .u (.c (.d (.int k n)))
def vB(b:Bool):V:= .u (.c (.d (.bool b)))
def vC(c:C):V:= .u (.c c)
def Dz(p:Prop)[Decidable p]:Option Unit:=if p then some () else none
def HW(k:IntKind)(n:Int):Prop:=k.min≤n∧n≤k.max
instance (k:IntKind) (n:Int):Decidable (HW k n):=inferInstanceAs (Decidable (_∧_))
def DJ(k:IntKind)(n:Int):Option V:=
 if k.signed then (Dz (HW k n)).map fun _=>vI k n else some (vI k (n%2^k.bits))
def Om(k:IntKind)(a b:Int):Int:=k.wrap (BitVec.ofInt k.bits a&&&BitVec.ofInt k.bits b).toNat
def Da(k:IntKind)(a b:Int):Int:=k.wrap (BitVec.ofInt k.bits a|||BitVec.ofInt k.bits b).toNat
def RX(k:IntKind)(a b:Int):Int:=k.wrap (BitVec.ofInt k.bits a^^^BitVec.ofInt k.bits b).toNat
def To(k:IntKind)(a b:Int):Int:=k.wrap (BitVec.ofInt k.bits a&&& ~~~ (BitVec.ofInt k.bits b)).toNat
def CW(k:IntKind)(a b:Int):Int:=k.wrap (a*2^min b.toNat k.bits)
def Ge(k:IntKind)(a b:Int):Int:=a.fdiv (2^min b.toNat k.bits)
def binI(op:BinOp)(k:IntKind)(a b:Int):Option V:=
 match op with
 | .add=>DJ k (a+b)
 | .sub=>DJ k (a - b)
 | .mul=>DJ k (a*b)
 | .quo=>(Dz (b≠0)).bind fun _=>DJ k (a.tdiv b)
 | .rem=>(Dz (b≠0)).map fun _=>vI k (a.tmod b)
 | .eql=>some (vB (decide (a=b)))
 | .neq=>some (vB (!decide (a=b)))
 | .lss=>some (vB (decide (a<b)))
 | .leq=>some (vB (decide (a≤b)))
 | .gtr=>some (vB (decide (b<a)))
 | .geq=>some (vB (decide (b≤a)))
 | .and=>some (vI k (Om k a b))
 | .or=>some (vI k (Da k a b))
 | .xor=>some (vI k (RX k a b))
 | .andNot=>some (vI k (To k a b))
 |_=>none
def shiftI(op:BinOp)(k:IntKind)(a b:Int):Option V:=
 match op with
 | .shl=>(Dz (0≤b)).map fun _=>vI k (CW k a b)
 | .shr=>(Dz (0≤b)).map fun _=>vI k (Ge k a b)
 |_=>none
def JM(z:C)(x y:C):Option Bool:=
 match z,x,y with
 | .d (.int _ _),.d (.int k a),.d (.int k' b)=>if k=k' then some (decide (a=b)) else none
 | .d (.bool _),.d (.bool a),.d (.bool b)=>some (decide (a=b))
 |_,_,_=>none
def Ey:List C→List C→List C→Option Bool
 |[],[],[]=>some true
 |z::q,a::r,b::s=>(JM z a b).bind fun e=>(Ey q r s).map fun f=>e&&f
 |_,_,_=>none
def G6(op:BinOp)(a b:ByteArray):Option V:=
 match op with
 | .eql=>some (vB (a.toList==b.toList))
 | .neq=>some (vB (!(a.toList==b.toList)))
 | .add=>(Dz (a.size+b.size≤140737488355328)).map fun _=>vC (.d (.str (a++b)))
 |_=>none
def EJ(i:TI)(x y:V):Option Bool:=
 match x,y with
 | .u (.c a),.u (.c b)=>
  (match i.zero with
  |[.d (.bool _)]=>if i.agg then none else (match a,b with
   | .d (.bool a),.d (.bool b)=>some (decide (a=b))
   |_,_=>none)
  |[.d .nilFn]=>if i.agg then none else (match a,b with
   | .d .nilFn,.d .nilFn=>some true
   | .d (.fn _ _),.d .nilFn=>some false
   |_,_=>none)
  |[.nl]=>if i.agg then none else (match a,b with
   | .nl,.nl=>some true
   | .d (.slice n _),.nl=>if n=0 then none else some false
   |_,_=>none)
  |_=>none)
 | .u (.agg xs),.u (.agg ys)=>if i.flat then Ey i.zero xs ys else none
 |_,_=>none
def GC(op:BinOp)(b:Bool):Option V:=
 match op with
 | .eql=>some (vB b)
 | .neq=>some (vB !b)
 |_=>none
def Ga:Operand→Bool
 | .const .nilIface=>true
 |_=>false
def FO(T:AH)(op:BinOp)(t:TypeId)(c:C):Option V:=(T t).bind fun i=>
 match c,i.zero with
 | .d (.lit .nilIface),[.d (.lit .nilIface)]=>if i.agg then none else GC op true
 | .d .nn,[.d (.lit .nilIface)]=>if i.agg then none else GC op false
 |_,_=>none
def binV(T:AH)(op:BinOp)(t:TypeId)(x y:V):Option V:=
 match x,y with
 | .u (.c (.d (.int k a))),.u (.c (.d (.int k' b)))=>
  (match op with
  | .shl=>shiftI .shl k a b
  | .shr=>shiftI .shr k a b
  |op=>if k=k' then binI op k a b else none)
 | .u (.c (.d (.str a))),.u (.c (.d (.str b)))=>G6 op a b
 |x,y=>(T t).bind fun i=>(EJ i x y).bind (GC op)
def Blk.rd:Blk→Nat→Nat→Option (List C)
 | .row _ cs _,off,k=>if off+k≤cs.length then some ((AP off k cs).map .d) else none
 | .box cs,off,k=>if off+k≤cs.length then some (AP off k cs) else none
 | .fbox _ _,_,_=>none
 | .mp _,_,_=>none
 | .gh _,_,_=>none
def Blk.at:Blk→Nat→Option C
 | .row _ cs _,off=>(cs[off]?).map .d
 | .box cs,off=>cs[off]?
 | .fbox _ _,_=>none
 | .mp _,_=>none
 | .gh _,_=>none
def Blk.ld:Blk→Nat→Option U
 | .row _ cs _,off=>(cs[off]?).map fun x=> .c (.d x)
 | .box cs,off=>(cs[off]?).map .c
 | .fbox f cs,off=>if off=0 then some (.clo f cs) else none
 | .mp _,_=>none
 | .gh _,_=>none
def splice{α:Type}(off:Nat)(new l:List α):List α:=l.take off++new++l.drop (off+new.length)
def DE(place:Nat→Option (Nat×Nat))(cs:List C):List (Nat×List C)→Option (List C)
 |[]=>some cs
 |(i,v)::r=>(place i).bind fun p=>if v.length=p.2∧p.1+p.2≤cs.length then DE place (splice p.1 v cs) r else none
def St.load(i:TI)(c:C)(st:St):Option U:=
 match c with
 | .ptr b off=>(lk b st.h).bind fun k=>if i.agg then (k.rd off i.size).map .agg else k.ld off
 | .d (.ref cs)=>if i.agg then (if i.size≤cs.length then some (.agg ((cs.take i.size).map .d)) else none) else (cs[0]?).map fun x=> .c (.d x)
 |_=>none
def St.storeB(b off:Nat)(v:List C)(st:St):Blk→Option St
 | .box cs=>if off+v.length≤cs.length then some (st.blk b (.box (splice off v cs))) else none
 | .row _ _ _=>(st.shut v).bind fun p=>match lk b p.2.h with
  |some (.row sz cs app)=>if off+p.1.length≤cs.length then some (p.2.blk b (.row sz (splice off p.1 cs) app)) else none
  |_=>none
 | .fbox _ _=>none
 | .mp _=>none
 | .gh _=>none
def St.storeU(b off:Nat)(v:U)(st:St)(k:Blk):Option St:=
 match v with
 | .clo f cs=>(match k with| .box [_]=>if off=0 then some (st.blk b (.fbox f cs)) else none|k=>st.storeB b off [.bad] k)
 | .c x=>st.storeB b off [x] k
 | .agg xs=>st.storeB b off xs k
def St.store(i:TI)(c:C)(v:U)(st:St):Option St:=
 if v.cells.length=i.size then
  match c with
  | .ptr b off=>(lk b st.h).bind (st.storeU b off v)
  |_=>none
 else none
def mk(d:Option Nat)(st:St)(b:Blk)(c:Nat→C):Option St:=d.map fun d=>(st.new d b).put (some d) (vC (c d))
def St.evUs(st:St):List (Nat×Operand)→Option (List (Nat×List C))
 |[]=>some []
 |(i,x)::r=>(st.evU x).bind fun u=>(st.evUs r).map fun l=>(i,u.cells)::l
def Qy(T:AH)(i:TI):Option (List (Nat×Nat)):=i.flds.mapM fun p=>(T p.2).map fun j=>(p.1,j.size)
def Kk(ps:List (Nat×Nat))(f:Nat):Option (Nat×Nat):=ps[f]?
def F3(sz:Nat)(i:Nat):Option (Nat×Nat):=some (i*sz,sz)
def rep{α:Type}:Nat→List α→List α
 |0,_=>[]
 |n+1,z=>z++rep n z
def build(T:AH)(i:TI)(parts:List (Nat×List C)):Option U:=
 match i.arr with
 |some (_,e)=>(T e).bind fun j=>(DE (F3 j.size) i.zero parts).map .agg
 |none=>if i.agg then (Qy T i).bind fun ps=>(DE (Kk ps) i.zero parts).map .agg else none
def Gb(n:Nat)(lo hi:Option Int)(k:Nat→Nat→C):Option C:=
 if 0≤lo.getD 0∧lo.getD 0≤hi.getD n∧hi.getD n≤n then some (k (lo.getD 0).toNat ((hi.getD n).toNat - (lo.getD 0).toNat)) else none
def sliceS(x:C)(lo hi:Option Int):Option C:=
 match x with
 | .d (.str s)=>Gb s.size lo hi fun l m=> .d (.str (s.extract l (l+m)))
 |_=>none
def St.evO(st:St):Option Operand→Option (Option Int)
 |none=>some none
 |some x=>(st.evI x).map fun p=>some p.2
def CP:Nat:=140737488355328
def St.appGo(e:TI)(d:Nat)(cs:List D)(n:Nat)(news:List D)(m:Nat)(st:St):Option St:=
 if (n+m)*e.bytes≤CP∧n+m≤CP then some ((st.new d (.row e.size (cs++news) true)).put (some d) (vC (.sl d 0 (n+m)))) else none
def St.app(e:TI)(d:Nat)(x:C)(news:List D)(m:Nat)(st:St):Option St:=
 match x with
 | .nl=>st.appGo e d [] 0 news m
 | .sl i off n=>(lk i st.h).bind fun b=>match b with
  | .row sz cs app=>if app=true∧off=0∧sz=e.size∧cs.length=n*sz then (st.drop i).appGo e d cs n news m else if e.trunc=true∧app=true∧off=0∧sz=e.size∧n*sz≤cs.length then (st.drop i).appGo e d (cs.take (n*sz)) n news m else none
  |_=>none
 |_=>none
def St.src(e:TI)(x:C)(st:St):Option (Nat×List D):=
 match x with
 | .nl=>some (0,[])
 | .d (.slice n cs)=>if cs.length=n*e.size then some (n,cs) else none
 | .sl i off n=>(lk i st.h).bind fun b=>match b with
  | .row sz cs _=>if sz=e.size∧(off+n)*sz≤cs.length then some (n,AP (off*sz) (n*sz) cs) else none
  |_=>none
 |_=>none
def Ce(i:TI):Bool:=
 match i.agg,i.sl,i.arr,i.zero with
 |false,none,none,[.d (.str _)]=>true
 |_,_,_,_=>false
def lenC:C→Option Nat
 | .nl=>some 0
 | .sl _ _ n=>some n
 | .d (.slice n _)=>some n
 |_=>none
def lenS:C→Option Nat
 | .d (.str s)=>some s.size
 |_=>none
def DL(mx:Bool)(k:IntKind):Int→List (IntKind×Int)→Option V
 |a,[]=>some (vI k a)
 |a,(k',b)::r=>if k'=k then DL mx k (if mx then (if a<b then b else a) else (if b<a then b else a)) r else none
def copyTo(e:TI)(d:Option Nat)(i off n:Nat)(st:St)(s:Nat×List D):Blk→Option St
 | .row sz cs app=>
  if sz=e.size∧(off+n)*sz≤cs.length then
   some ((st.blk i (.row sz (splice (off*sz) (s.2.take (min s.1 n*sz)) cs) app)).put d (vI .i64 (min s.1 n:Nat)))
  else none
 |_=>none
def G3(i:TI)(d:Option Nat)(st:St)(x:Operand):Option St:=
 match i.arr with
 |some (n,_)=>some (st.put d (vI .i64 n))
 |none=>(st.evC x).bind fun c=>(if i.sl.isSome then lenC c else if Ce i then lenS c else none).map fun(n:Nat)=>st.put d (vI .i64 (n:Int))
def clearTo(j:TI)(z:List D)(d:Option Nat)(st:St):C→Option St
 | .nl=>some (st.put d (.tup []))
 | .sl b off n=>(lk b st.h).bind fun k=>match k with
  | .row sz cs app=>if sz=j.size∧(off+n)*sz≤cs.length then some ((st.blk b (.row sz (splice (off*sz) (rep n z) cs) app)).put d (.tup [])) else none
  |_=>none
 |_=>none
def MF(i:TI):Bool:=match i.agg,i.zero with|false,[.d (.int _ _)]=>true|_,_=>false
def J1(s:ByteArray):List D:=s.data.toList.map fun b=> .int .u8 b.toNat
def J0(k j:TI)(d:Nat)(st:St):C→C→Option St
 | .nl,.d (.int .i64 n)=>if MF k=true∧0<n∧n*j.bytes≤CP∧n≤CP then some ((st.new d (.row j.size [] true)).put (some d) (vC (.sl d 0 n.toNat))) else none
 |c,.d (.str s)=>if Ce k=true∧j.size=1 then st.app j d c (J1 s) s.size else none
 |_,_=>none
def Ko(i:TI)(d:Option Nat)(st:St)(x:Operand):Option St:=
 if i.sl.isSome then (match st.evC x with|some .nl=>some (st.put d (vI .i64 0))|_=>none) else none
def FK(T:AH)(b:Builtin)(ts:List TypeId)(args:List Operand)(d:Option Nat)(st:St):Option St:=
 match b,ts,args with
 | .len,[t],[x]=>(T t).bind fun i=>G3 i d st x
 | .append,[t,t'],[x,y]=>
  d.bind fun d=>(T t).bind fun i=>i.sl.bind fun e=>(T e).bind fun j=>(st.evC x).bind fun c=>(st.evC y).bind fun s=>
   if t'=t then (st.src j s).bind fun p=>st.app j d c p.2 p.1 else (T t').bind fun k=>J0 k j d st c s
 | .copy,[t,t'],[x,y]=>
  (T t).bind fun i=>i.sl.bind fun e=>(T e).bind fun j=>(st.evC x).bind fun c=>(st.evC y).bind fun s=>
   match c with
   | .sl b off n=>if t'=t then (st.src j s).bind fun p=>(lk b st.h).bind (copyTo j d b off n st p) else none
   |_=>none
 | .min,_,x::r=>(st.evI x).bind fun p=>(r.mapM st.evI).bind fun l=>(DL false p.1 p.2 l).map fun v=>st.put d v
 | .clear,[t],[x]=>(T t).bind fun i=>i.sl.bind fun e=>(T e).bind fun j=>(st.evC x).bind fun c=>(j.zero.mapM (toD (fun _=>false) st.h 4)).bind fun z=>clearTo j z d st c
 | .max,_,x::r=>(st.evI x).bind fun p=>(r.mapM st.evI).bind fun l=>(DL true p.1 p.2 l).map fun v=>st.put d v
 | .cap,[t],[x]=>(T t).bind fun i=>Ko i d st x
 |_,_,_=>none
def GH(T:AH)(ty:TypeId)(d:Option Nat)(st:St):Option St:=
 d.bind fun d=>(T ty).bind fun i=>i.sl.bind fun e=>(T e).map fun j=>(st.new d (.row j.size [] true)).put (some d) (vC (.sl d 0 0))
def EU:C→Bool
 | .ptr _ _=>true
 |_=>false
def FG(j:TI)(len:Nat)(d:Option Nat)(st:St)(l:List (Nat×List C)):Option St:=
 if len*j.size≤10000∧len≤10000 then (DE (F3 j.size) (rep len j.zero) l).bind fun cs=>
  if j.size=1∧cs.any EU=true then mk d st (.box cs) fun d=> .sl d 0 len else (st.shut cs).bind fun p=>mk d p.2 (.row j.size p.1 true) fun d=> .sl d 0 len else none
def FC(j:TI)(d:Option Nat)(st:St)(l c:Int):Option St:=
 if 0≤l∧l≤c∧c*j.bytes≤CP∧c≤CP then
  (j.zero.mapM st.cD).bind fun z=>mk d st (.row j.size (rep l.toNat z) true) fun d=> .sl d 0 l.toNat
 else none
def nilChk:C→Option C
 | .ptr i off=>some (.ptr i off)
 | .d (.ref cs)=>some (.d (.ref cs))
 | .d (.fn f caps)=>some (.d (.fn f caps))
 |_=>none
def fldAddr(o:Nat):C→Option C
 | .ptr i off=>some (.ptr i (off+o))
 | .d (.ref cs)=>some (.d (.ref (cs.drop o)))
 |_=>none
def isRow(h:List (Nat×Blk))(b sz:Nat):Bool:=
 match lk b h with
 |some (.row sz' _ _)=>decide (sz'=sz)
 |some (.box _)=>decide (sz=1)
 |_=>false
def sliceV(h:List (Nat×Blk))(x:C)(lo hi:Option Int)(sz:Nat):Option C:=
 match x with
 | .sl i off n=>if isRow h i sz=true then Gb n lo hi fun l m=> .sl i (off+l) m else none
 | .nl=>Gb 0 lo hi fun _ _=> .nl
 | .d (.slice n cs)=>if cs.length=n*sz then Gb n lo hi fun l m=> .d (.slice m (AP (l*sz) (m*sz) cs)) else none
 |_=>none
def idxSl(h:List (Nat×Blk))(sz:Nat)(i:Int):C→Option C
 | .sl b off n=>if 0≤i∧i<n∧isRow h b sz=true then some (.ptr b ((off+i.toNat)*sz)) else none
 | .d (.slice n cs)=>if 0≤i∧i<n∧cs.length=n*sz then some (.d (.ref (cs.drop (i.toNat*sz)))) else none
 |_=>none
def idxArr(n sz:Nat)(i:Int):C→Option C
 | .ptr b off=>if 0≤i∧i<n then some (.ptr b (off+i.toNat*sz)) else none
 | .d (.ref cs)=>if 0≤i∧i<n then some (.d (.ref (cs.drop (i.toNat*sz)))) else none
 |_=>none
def idxAddr(T:AH)(h:List (Nat×Blk))(i:TI)(n:Int)(c:C):Option C:=
 match i.arr with
 |some (m,e)=>(T e).bind fun j=>idxArr m j.size n c
 |none=>i.sl.bind fun e=>(T e).bind fun j=>idxSl h j.size n c
def part(j:TI)(off:Nat)(cs:List C):Option U:=
 if j.agg then (if off+j.size≤cs.length then some (.agg (AP off j.size cs)) else none) else (cs[off]?).map .c
def fieldOf(T:AH)(i:TI)(f:Nat):U→Option U
 | .agg cs=>(i.flds[f]?).bind fun p=>(T p.2).bind fun j=>part j p.1 cs
 |_=>none
def indexOf(T:AH)(i:TI)(n:Int):U→Option U
 | .agg cs=>i.arr.bind fun p=>(T p.2).bind fun j=>if 0≤n∧n<p.1 then part j (n.toNat*j.size) cs else none
 | .c (.d (.str s))=>if Ce i=true∧0≤n∧n<s.size then (s[n.toNat]?).map fun b=> .c (.d (.int .u8 b.toNat)) else none
 |_=>none
def tupAt(i:Nat):V→Option U
 | .tup us=>us[i]?
 |_=>none
def LY(i:TI)(n:Int):Option V:=
 if i.agg then none else
 match i.zero with
 |[.d (.int k _)]=>some (vI k (k.wrap n))
 |_=>none
def Iv:List D→Option (List Int)
 |[]=>some []
 | .int .u8 n::r=>(Iv r).map (n:: ·)
 |_=>none
def jcf(T:AH)(e:Nat):Bool:=match T e with|some i=> !i.agg&&(match i.zero with|[.d (.int .u8 _)]=>true|_=>false)|none=>false
def MM(l:List Int):ByteArray:=l.foldl (fun r n=>r.push (UInt8.ofNat n.toNat)) ByteArray.empty
def Un(T:AH)(j:TI):Bool:=match j.sl with|some e=>jcf T e|none=>false
def convC(T:AH)(h:List (Nat×Blk))(j i:TI):C→Option V
 | .d (.int _ n)=>LY i n
 | .sl b off n=>if Ce i=true∧Un T j=true∧0<n then (lk b h).bind fun k=>(match k with
  | .row 1 cs _=>if off+n≤cs.length then (Iv (AP off n cs)).map fun l=>vC (.d (.str (MM l))) else none
  |_=>none) else none
 |_=>none
def C.pure? :C→Option D
 | .d x=>some x
 | .nl=>some (.slice 0 [])
 |_=>none
def ifaceOf(i:TI)(t:TypeId):U→Option C
 | .agg cs=>if i.agg then (cs.mapM C.pure?).map fun ds=> .d (.iface t ds) else none
 |_=>none
def assertOf(i:TI)(t:TypeId):C→Option V
 | .d (.iface t' cs)=>if i.agg=true∧2≤i.size then (if t'=t then some (.tup [.agg (cs.map .d),.c (.d (.bool true))]) else some (.tup [.agg i.zero,.c (.d (.bool false))])) else none
 |_=>none
def pickV(b:Bool)(x y:Option V):Option V:=if b then x else y
def D6:Ky→Ky→Bool
 | .s a,.s b=>a==b
 | .n a,.n b=>a==b
 |_,_=>false
def Ky.num:Ky→Bool
 | .s _=>false
 | .n _=>true
def B5(k:Ky):List (Ky×Int)→Nat→Option (Nat×Int)
 |[],_=>none
 |(a,v)::r,i=>if D6 k a then some (i,v) else B5 k r (i+1)
def GY(k:Ky)(v:Int)(es:List (Ky×Int)):List (Ky×Int):=match B5 k es 0 with
 |some p=>es.set p.1 (k,v)
 |none=>es++[(k,v)]
def C.str? :C→Option ByteArray
 | .d (.str s)=>some s
 |_=>none
def C.key?(b:Bool):C→Option Ky
 | .d (.str s)=>if b then none else some (.s s)
 | .d (.int .i64 n)=>if b then some (.n n) else none
 |_=>none
def HO(st:St):C→Option (Nat×List (Ky×Int))
 | .mp false i=>(lk i st.h).bind fun b=>match b with| .mp (.mp es)=>some (i,es)|_=>none
 |_=>none
def found(c:Bool)(es:List (Ky×Int))(k:Ky):V:=if c then .tup [.c (.d (.int .i64 (((B5 k es 0).map (·.2)).getD 0))),.c (.d (.bool (B5 k es 0).isSome))] else .u (.c (.d (.int .i64 (((B5 k es 0).map (·.2)).getD 0))))
def Hh(st:St)(d:Option Nat)(c b:Bool)(m k:C):Option St:=(HO st m).bind fun p=>(k.key? b).bind fun s=>if p.2.all (fun e=>e.1.num==b)=true then some (st.put d (found c p.2 s)) else none
def G7(st:St)(d:Option Nat)(b:Bool)(m k v:C):Option St:=(HO st m).bind fun p=>(k.key? b).bind fun s=>match v with
 | .d (.int .i64 n)=>if p.2.all (fun e=>e.1.num==b)=true then some ((st.blk p.1 (.mp (.mp (GY s n p.2)))).put d (.tup [])) else none
 |_=>none
def KL(st:St):C→Option (Nat×ByteArray×Nat)
 | .mp true i=>(lk i st.h).bind fun b=>match b with| .mp (.it s p)=>some (i,s,p)|_=>none
 |_=>none
def GN(st:St)(d:Option Nat)(c:C):Option St:=(KL st c).map fun q=>
 if q.2.2<q.2.1.size then (st.blk q.1 (.mp (.it q.2.1 (q.2.2+(Utf8.decode q.2.1 q.2.2).2)))).put d (.tup [.c (.d (.bool true)),.c (.d (.int .i64 q.2.2)),.c (.d (.int .i32 (Utf8.decode q.2.1 q.2.2).1))])
 else st.put d (.tup [.c (.d (.bool false))])
def clo(h:List (Nat×Blk))(f:FuncId)(cs:List C):U:=
 match cs.mapM (toD (fun _=>false) h 4)with
 |some ds=> .c (.d (.fn f ds))
 |none=> .clo f cs
def Fq:U→Blk
 | .clo f cs=> .fbox f cs
 | .c x=> .box [x]
 | .agg cs=> .box cs
def DH(T:AH)(o:Oper)(st:St):Option St:=
 match o.op with
 | .assign (.const (.slice none 0 0))=>GH T o.type o.dst st
 | .move x| .assign x=>(st.ev x).map fun v=>st.put o.dst v
 | .pick c a b=>(st.evB c).bind fun c=>(pickV c (st.ev a) (st.ev b)).map fun v=>st.put o.dst v
 | .alloc t=>(T t).bind fun i=>mk o.dst st (.box i.zero) fun d=> .ptr d 0
 | .box t x=>(T t).bind fun i=>(st.evU x).bind fun u=>if u.cells.length=i.size then mk o.dst st (Fq u) (fun d=> .ptr d 0) else none
 | .build t parts=>(T t).bind fun i=>(st.evUs parts.toList).bind fun l=>(build T i l).map fun u=>st.put o.dst (.u u)
 | .buildSlice t len parts=>(T t).bind fun i=>i.sl.bind fun e=>(T e).bind fun j=>(st.evUs parts.toList).bind (FG j len o.dst st)
 | .load t a=>(T t).bind fun i=>(st.evC a).bind fun c=>(st.load i c).map fun u=>st.put o.dst (.u u)
 | .store t a x=>(T t).bind fun i=>(st.evC a).bind fun c=>(st.evU x).bind fun u=>(st.store i c u).map fun s=>s.put o.dst (.tup [])
 | .nilCheck x=>(st.evC x).bind fun c=>(nilChk c).map fun c=>st.put o.dst (vC c)
 | .binOp op t x y _=>if Ga y=true then (st.evC x).bind fun c=>(FO T op t c).map fun v=>st.put o.dst v else (st.ev x).bind fun a=>(st.ev y).bind fun b=>(binV T op t a b).map fun v=>st.put o.dst v
 | .unOp .not _ x=>(st.evB x).map fun b=>st.put o.dst (vB !b)
 | .unOp .neg _ x=>(st.evI x).bind fun p=>(DJ p.1 (0 - p.2)).map fun v=>st.put o.dst v
 | .convert s t x=>(T s).bind fun j=>(T t).bind fun i=>(st.evC x).bind fun c=>(convC T st.h j i c).map fun v=>st.put o.dst v
 | .makeSlice t l c=>(T t).bind fun i=>i.sl.bind fun e=>(T e).bind fun j=>(st.evI l).bind fun l=>(st.evI c).bind fun c=>FC j o.dst st l.2 c.2
 | .slice t x lo hi none=>(T t).bind fun i=>(st.evC x).bind fun c=>(st.evO lo).bind fun l=>(st.evO hi).bind fun h=>
   (match i.sl with|some e=>(T e).bind fun j=>sliceV st.h c l h j.size|none=>if Ce i then sliceS c l h else none).map fun v=>st.put o.dst (vC v)
 | .fieldAddr t x f=>(T t).bind fun i=>(st.evC x).bind fun c=>(i.flds[f]?).bind fun p=>(T p.2).bind fun j=>if j.size=0 then none else (fldAddr p.1 c).map fun c=>st.put o.dst (vC c)
 | .field t x f=>(T t).bind fun i=>(st.evU x).bind fun u=>(fieldOf T i f u).map fun u=>st.put o.dst (.u u)
 | .indexAddr t x i=>(T t).bind fun ti=>(st.evC x).bind fun c=>(st.evI i).bind fun n=>(idxAddr T st.h ti n.2 c).map fun c=>st.put o.dst (vC c)
 | .index t x i=>(T t).bind fun ti=>(st.evU x).bind fun u=>(st.evI i).bind fun n=>(indexOf T ti n.2 u).map fun u=>st.put o.dst (.u u)
 | .extract x i=>(st.ev x).bind fun v=>(tupAt i v).map fun u=>st.put o.dst (.u u)
 | .makeFunc (.func f) first captured=>if first.toList=[] then (captured.toList.mapM st.evC).map fun cs=>st.put o.dst (.u (clo st.h f cs)) else none
 | .call { callee:= .builtin b,args,argTypes }=>FK T b argTypes.toList args.toList o.dst st
 | .makeInterface t x=>(T t).bind fun i=>(st.evU x).bind fun u=>(ifaceOf i t u).map fun c=>st.put o.dst (vC c)
 | .makeMap t none=>(T t).bind fun i=>if i.mp then mk o.dst st (.mp (.mp [])) fun d=> .mp false d else none
 | .range t x=>(T t).bind fun i=>if Ce i=true then (st.evC x).bind fun c=>c.str?.bind fun s=>mk o.dst st (.mp (.it s 0)) fun d=> .mp true d else none
 | .next x true=>(st.evC x).bind fun c=>GN st o.dst c
 | .lookup t m k c=>(T t).bind fun i=>if i.mp then (st.evC m).bind fun m=>(st.evC k).bind fun k=>Hh st o.dst c i.mpi m k else none
 | .mapUpdate t m k x=>(T t).bind fun i=>if i.mp then (st.evC m).bind fun m=>(st.evC k).bind fun k=>(st.evC x).bind fun x=>G7 st o.dst i.mpi m k x else none
 | .typeAssert x _ t true=>(T t).bind fun i=>(st.evC x).bind fun c=>(assertOf i t c).map fun v=>st.put o.dst v
 |_=>none
def U.toA(ids:List Nat)(h:List (Nat×Blk)):U→Option A
 | .c x=>(toD (ids.contains ·) h 4 x).map .c
 | .agg cs=>(cs.mapM (toD (ids.contains ·) h 4)).map .agg
 | .clo f cs=>(cs.mapM (toD (ids.contains ·) h 4)).map fun ds=> .c (.fn f ds)
def D.flat:D→Bool
 | .slice _ _=>false
 | .ref _=>false
 | .fn _ _=>false
 | .iface _ _=>false
 |_=>true
def RC.flat:RC→Bool
 | .d x=>x.flat
 | .own _ _ cs=>cs.all D.flat
def RU.flat:RU→Bool
 | .c x=>x.flat
 | .agg cs=>cs.all RC.flat
def R.flat:R→Bool
 | .u x=>x.flat
 | .tup xs=>xs.all RU.flat
def RC.imp(k:Nat):RC→C
 | .d x=> .d x
 | .own _ n _=> .sl k 0 n
def RU.imp(k:Nat):RU→U
 | .c x=> .c (x.imp k)
 | .agg cs=> .agg (cs.map (RC.imp k))
def R.imp(k:Nat):R→V
 | .u x=> .u (x.imp k)
 | .tup xs=> .tup (xs.map (RU.imp k))
def RC.rows:RC→List Blk
 | .d _=>[]
 | .own sz _ cs=>[.row sz cs true]
def RU.rows:RU→List Blk
 | .c x=>x.rows
 | .agg cs=>cs.flatMap RC.rows
def R.rows:R→List Blk
 | .u x=>x.rows
 | .tup xs=>xs.flatMap RU.rows
def St.back(dst:Option Nat)(passed:List Nat)(res:R)(st:St):St:=
 let s:=if res.flat then st else st.freeze passed
 let k:=dst.getD 0
 (match res.rows with|[]=>s|b::_=>s.new k b).put dst (res.imp k)
def St.backW(dst:Option Nat)(ids:List Nat)(h2:List (Nat×Blk))(res:R)(st:St):St:=
 ({ st with h:=h2++Ds (ids.contains ·) st.h }:St).put dst (res.imp 0)
def St.argsW(st:St)(ids:List Nat)(us:List U)(caps:List D):Option (List A):=(us.mapM (U.toA ids st.h)).map fun as=>as++caps.map .c
def St.reachU(st:St)(us:List U):List Nat:=DZ st.h 5 (us.flatMap U.all)
def GB:List Nat:=[0,1,4,5]
def R9(k:Nat)(w:World):Prop:= ∃ev,w.cell? ⟨k,0,none⟩=some ev∧(ev= .nilIface∨ ∃te pe,ev= .iface te pe)
def GW(w:World):Prop:=(∃m,w.cell? ⟨0,0,none⟩=some (.int .i64 m))∧(∃t f,w.heap[1]? =some (.cells (((List.range 20).map fun i=>((10^i:Nat):Int)).map fun z=>Value.int .u64 z).toArray t f))∧R9 4 w∧R9 5 w
def DR(_ _:Nat):Prop:=True
theorem DR.refl(a:Nat):DR a a:=trivial
theorem DR.le{a b:Nat}(_:a≤b):DR a b:=trivial
theorem DR.trans{a b c:Nat}(_:DR a b)(_:DR b c):DR a c:=trivial
theorem Wc{w w':World}{k:Nat}(hk:w'.heap[k]? =w.heap[k]?):w'.cell? ⟨k,0,none⟩=w.cell? ⟨k,0,none⟩:=by
 unfold World.cell?;simp only;rw[hk]
theorem GW.keep{w w':World}(h:GW w)(hk: ∀k∈GB,w'.heap[k]? =w.heap[k]?):GW w':=by
 obtain⟨⟨m,hm⟩,⟨t,f,ht⟩,⟨e4,h4,q4⟩,⟨e5,h5,q5⟩⟩:=h
 exact⟨⟨m,(Wc (hk 0 (by decide))).trans hm⟩,⟨t,f,(hk 1 (by decide)).trans ht⟩,⟨e4,(Wc (hk 4 (by decide))).trans h4,q4⟩,⟨e5,(Wc (hk 5 (by decide))).trans h5,q5⟩⟩
end Go.Va
namespace Go.Va
open Go.RowKit
structure Own where
 g:Nat
 o:Nat
 sz:Nat
 room:Nat
 app:Bool
 nil:Bool
 gone:Bool:=nil
def Own.has(x:Own)(a:Addr):Prop:=x.gone=false∧a.block=x.g∧(x.nil=true∨x.o≤a.off)∧(x.nil=true∨a.off<x.o+x.room*x.sz)
def Own.mp(x:Own):Prop:=x.nil=true∧x.gone=false
abbrev Own.at(x:Own)(j:Nat):Addr:=⟨x.g,x.o+j,none⟩
abbrev one(v:Value):Prop:=v.oneCell'=true
inductive RepD (w:World) (Z:Addr→Prop):D→Value→Prop
 |int (k:IntKind) (n:Int):RepD w Z (.int k n) (.int k n)
 |bool (b:Bool):RepD w Z (.bool b) (.bool b)
 |str (s:ByteArray):RepD w Z (.str s) (.string s)
 |slice (n:Nat) (cs:List D) (a:Addr) (c:Nat) (vs:Nat→Value) (hs:cs≠[]→a.spot=none) (hn:n≤c) (hc:c≤maxLen)
   (h1: ∀(j:Nat) (x:D),cs[j]? =some x→w.cell? ⟨a.block,a.off+j,none⟩=some (vs j))
   (h2: ∀(j:Nat) (x:D),cs[j]? =some x→ ¬Z ⟨a.block,a.off+j,none⟩)
   (h3: ∀(j:Nat) (x:D),cs[j]? =some x→RepD w Z x (vs j)):RepD w Z (.slice n cs) (.slice (some a) n c)
 |snil:RepD w Z (.slice 0 []) (.slice none 0 0)
 |ref (cs:List D) (a:Addr) (vs:Nat→Value) (hs:cs≠[]→a.spot=none)
   (h1: ∀(j:Nat) (x:D),cs[j]? =some x→w.cell? ⟨a.block,a.off+j,none⟩=some (vs j))
   (h2: ∀(j:Nat) (x:D),cs[j]? =some x→ ¬Z ⟨a.block,a.off+j,none⟩)
   (h3: ∀(j:Nat) (x:D),cs[j]? =some x→RepD w Z x (vs j)):RepD w Z (.ref cs) (.pointer (some a))
 |fn (f:FuncId) (caps:List D) (vs:List Value) (hl:caps.length=vs.length)
   (h3: ∀(j:Nat) (x:D) (v:Value),caps[j]? =some x→vs[j]? =some v→RepD w Z x v):RepD w Z (.fn f caps) (.func (.func f) #[] vs.toArray)
 |nilFn:RepD w Z .nilFn .nilFunc
 |nilPtr:RepD w Z .nilPtr (.pointer none)
 |iface (t:TypeId) (cs:List D) (vs:List Value) (hl:cs.length=vs.length)
   (h3: ∀(j:Nat) (x:D) (v:Value),cs[j]? =some x→vs[j]? =some v→RepD w Z x v):RepD w Z (.iface t cs) (.iface t (.agg vs.toArray))
 |lit (x:Value) (h:one x):RepD w Z (.lit x) x
 |any (x:Value) (h:one x):RepD w Z .any x
 |nn (t:TypeId) (x:Value):RepD w Z .nn (.iface t x)
abbrev AE:=Nat→Option Own
def Ar(ρ:AE)(Z:Addr→Prop)(a:Addr):Prop:=Z a∨ ∃i o,ρ i=some o∧o.has a
def RepC(ρ:AE)(w:World)(Z:Addr→Prop):C→Value→Prop
 | .d x,v=>RepD w (Ar ρ Z) x v
 | .nl,v=>v= .slice none 0 0
 | .sl i off n,v=> ∃o,ρ i=some o∧off+n≤o.room∧
   ((o.nil=true∧v= .slice none 0 0∧off=0∧n=0)∨
   (o.nil=false∧ ∃a c,v= .slice (some a) n c∧n≤c∧c≤maxLen∧(c=0∨a=o.at (off*o.sz))∧(o.app=true→off+c≤o.room)))
 | .ptr i off,v=> ∃o,ρ i=some o∧o.nil=false∧v= .pointer (some (o.at off))
 | .bad,v=>one v
 | .mp q i,v=> ∃o,ρ i=some o∧v=(if q=true then .pointer (some ⟨o.g,0,none⟩) else .map (some o.g))
def RepL{α:Type}(r:α→Value→Prop)(xs:List α)(vs:List Value):Prop:=
 xs.length=vs.length∧ ∀(j:Nat) (x:α) (v:Value),xs[j]? =some x→vs[j]? =some v→r x v
def RepU(ρ:AE)(w:World)(Z:Addr→Prop):U→Value→Prop
 | .c x,v=>RepC ρ w Z x v
 | .agg cs,v=> ∃vs:List Value,v= .agg vs.toArray∧RepL (RepC ρ w Z) cs vs
 | .clo f cs,v=> ∃vs:List Value,v= .func (.func f) #[] vs.toArray∧RepL (RepC ρ w Z) cs vs
def RepV(ρ:AE)(w:World)(Z:Addr→Prop):V→Value→Prop
 | .u x,v=>RepU ρ w Z x v
 | .tup xs,v=> ∃vs:List Value,v= .tuple vs.toArray∧RepL (RepU ρ w Z) xs vs
 | .tr _ _,_=>True
def Ky.v:Ky→Value
 | .s b=> .string b
 | .n i=> .int .i64 i
def Ee(e:Ky×Int):Value×Value:=(e.1.v,.int .i64 e.2)
def IQ:Ob→Obj→Prop
 | .mp es,.map arr _=>arr.toList.map (fun e=>(e.key,e.val))=es.map Ee
 | .it s p,.stringIter s' p'=>s'=s∧p'=p
 |_,_=>False
def Fc(y:Obj):Prop:= ∀c e f,y≠ .cells c e f
class Gv where
 gv:Nat→Value→Prop
instance (priority:=low):Gv:=⟨fun _ _=>False⟩
section
variable [Gv]
def RepB(ρ:AE)(w:World)(Z:Addr→Prop)(o:Own):Blk→Prop
 | .row sz cs app=>o.sz=sz∧o.app=app∧cs.length≤o.room*sz∧((o.nil=true→o.room=0)∧o.gone=o.nil)∧
   ∀(j:Nat) (x:D),cs[j]? =some x→ ∃v,w.cell? (o.at j)=some v∧RepD w (Ar ρ Z) x v
 | .box cs=>o.sz=1∧o.room=cs.length∧(o.nil=false∧o.gone=false)∧
   ∀(j:Nat) (c:C),cs[j]? =some c→ ∃v,w.cell? (o.at j)=some v∧one v∧RepC ρ w Z c v
 | .fbox f cs=>o.sz=1∧o.room=1∧(o.nil=false∧o.gone=false)∧ ∃v,w.cell? (o.at 0)=some v∧RepU ρ w Z (.clo f cs) v
 | .mp x=>o.room=0∧o.mp∧ ∃y,w.heap[o.g]? =some y∧IQ x y
 | .gh cs=>o.room=0∧(o.nil=true∧o.gone=true)∧ ∀(j:Nat) (c:C),cs[j]? =some c→ ∀v,Gv.gv j v→RepC ρ w Z c v
end
structure Ext (w w':World):Prop extends Below w.heap.size w w' where
 drawn:DR w.drawn w'.drawn
structure Fr (M:Addr→Prop) (w0 w:World):Prop where
 os:w.os=w0.os
 drawn:DR w0.drawn w.drawn
 tape:w.tape=w0.tape
 output:w.output=w0.output
 size:w0.heap.size≤w.heap.size
 cell: ∀(a:Addr) (v:Value),¬M a→w0.cell? a=some v→w.cell? a=some v
 frz: ∀a:Addr,¬M a→a.block<w0.heap.size→w.frozen? a=w0.frozen? a
 blk: ∀k,k<w0.heap.size→(∀a:Addr,a.block=k→ ¬M a)→w.heap[k]? =w0.heap[k]?
structure ZOk (w:World) (Z Z1:Addr→Prop):Prop where
 lt: ∀ad,Z ad→ad.block<w.heap.size
 gl: ∀k∈GB,k<w.heap.size∧ ∀ad:Addr,ad.block=k→ ¬Z1 ad
 gw:GW w
instance {w:World} {Z Z1:Addr→Prop}:CoeFun (ZOk w Z Z1) fun _=> ∀ad,Z ad→ad.block<w.heap.size:=⟨ZOk.lt⟩
theorem ZOk.keep{w w':World}{Z Z1 M Z' Z1':Addr→Prop}(h:ZOk w Z Z1)(hfr:Fr M w w')(hm: ∀ad,M ad→Z1 ad)(hlt: ∀ad,Z' ad→ad.block<w'.heap.size)(h1: ∀ad,Z1' ad→Z1 ad∨w.heap.size≤ad.block):ZOk w' Z' Z1' where
 lt:=hlt
 gl:=fun k hk=>⟨Nat.lt_of_lt_of_le (h.gl k hk).1 hfr.size,fun ad e hz=>by
  have q:=h.gl k hk
  grind⟩
 gw:=h.gw.keep fun k hk=>hfr.blk k (h.gl k hk).1 fun ad e hh=>(h.gl k hk).2 ad e (hm ad hh)
theorem ZOk.mono{w:World}{Z Z1 Z1':Addr→Prop}(h:ZOk w Z Z1)(h1: ∀ad,Z1' ad→Z1 ad):ZOk w Z Z1':=⟨h.lt,fun k hk=>⟨(h.gl k hk).1,fun ad e hz=>(h.gl k hk).2 ad e (h1 ad hz)⟩,h.gw⟩
theorem ZOk.sub{w:World}{Z Z1 Z' Z1':Addr→Prop}(h:ZOk w Z Z1)(hlt: ∀ad,Z' ad→ad.block<w.heap.size)(h1: ∀ad,Z1' ad→Z1 ad):ZOk w Z' Z1':=⟨hlt,fun k hk=>⟨(h.gl k hk).1,fun ad e hz=>(h.gl k hk).2 ad e (h1 ad hz)⟩,h.gw⟩
structure Owns (ρ:AE) (w:World):Prop where
 cells: ∀i o,ρ i=some o→o.gone=false→ ∀j,j<o.room*o.sz→(∃v,w.cell? (o.at j)=some v)∧w.frozen? (o.at j)=false
 apart: ∀i i' o o',ρ i=some o→ρ i'=some o'→i≠i'→ ∀a,o.has a→ ¬o'.has a
 lim: ∀i o,ρ i=some o→o.room≤maxLen
structure Heap [Gv] (ρ:AE) (w:World) (Z:Addr→Prop) (h:List (Nat×Blk)):Prop where
 owns:Owns ρ w
 rep: ∀i b,lk i h=some b→ ∃o,ρ i=some o∧RepB ρ w Z o b
def Mps(ρ:AE)(w:World):Prop:= ∀i o,ρ i=some o→o.mp→ ∃y,w.heap[o.g]? =some y∧Fc y
structure Rel [Gv] (M:Addr→Prop) (Z:Addr→Prop) (w0:World) (ρ:AE) (st:St) (a:Act) (w:World):Prop where
 fr:Fr M w0 w
 heap:Heap ρ w Z st.h
 mine: ∀i o ad,ρ i=some o→o.has ad→M ad∨w0.heap.size≤ad.block
 out:ZOk w0 Z fun ad=>Z ad∨M ad
 mz: ∀ad,M ad→ ¬Z ad
 tmps: ∀t v,lk t st.t=some v→RepV ρ w Z v (a.tmps.getD t undef)
 defers:a.defers=[]
 mps:Mps ρ w
def A.rep(w:World)(Z:Addr→Prop):A→Value→Prop
 | .c x,v=>RepD w Z x v
 | .agg cs,v=> ∃vs:List Value,v= .agg vs.toArray∧RepL (RepD w Z) cs vs
def B3(k:Nat)(bs:List Blk)(o:Own):AE:=fun i=>match bs with|[]=>none|_=>if i=k then some o else none
def Hb[Gv](w w':World)(Z:Addr→Prop)(r:R)(v:Value):Prop:=
 r.rows.length≤1∧ ∃o:Own,(∀ad,o.has ad→w.heap.size≤ad.block)∧
  ∀k,RepV (B3 k r.rows o) w' Z (r.imp k) v∧Heap (B3 k r.rows o) w' Z (match r.rows with|[]=>[]|b::_=>[(k,b)])
def CY (P : Program) (f : FuncId) : Prop := ∃ fn, P.funcs[f]? = some fn ∧ fn.body.isSome = true ∧ (fn.name == "runtime.NumGoroutine") = false
def CallsF(P:Program)(f:FuncId)(as:List A)(r:R):Prop:=
 CY P f∧ ∀[Gv] (w:World) (Z:Addr→Prop) (vals:List Value),ZOk w Z Z→RepL (A.rep w Z) as vals→
  Calls P f vals.toArray w fun e w'=> ∃v,e= .returned v∧Ext w w'∧Hb w w' Z r v
def Cells(ρ:AE)(a:Addr):Prop:= ∃i o,ρ i=some o∧o.has a
def Fw(P:Program)(f:FuncId)(us:List U)(h h':List (Nat×Blk))(r:R):Prop:=
 CY P f∧r.rows=[]∧ ∀[Gv] (w:World) (Z:Addr→Prop) (ρ:AE) (vals:List Value),ZOk w Z (Ar ρ Z)→Heap ρ w Z h→(∀ad,Cells ρ ad→ ¬Z ad)→(∀i o,ρ i=some o→(lk i h).isSome=true)→
  RepL (RepU ρ w Z) us vals→
  Calls P f vals.toArray w fun e w'=> ∃v,e= .returned v∧Fr (Cells ρ) w w'∧Heap ρ w' Z h'∧RepV (fun _=>none) w' (Ar ρ Z) (r.imp 0) v
def GJ(P:Program)(f:FuncId)(us:List U)(gs gs':List C)(h h':List (Nat×Blk))(v:V):Prop:=
 CY P f∧ ∀[Gv] (w:World) (Z:Addr→Prop) (ρ:AE) (vals:List Value),ZOk w Z (Ar ρ Z)→Heap ρ w Z h→(∀ad,Cells ρ ad→ ¬Z ad)→(∀i o,ρ i=some o→(lk i h).isSome=true)→
  RepL (RepU ρ w Z) us vals→
  Calls P f vals.toArray w fun e w'=> ∃x,e= .returned x∧ ∃ρ',Fr (Cells ρ) w w'∧Heap ρ' w' Z h'∧(∀i o,ρ' i=some o→(lk i h').isSome=true)∧(∀ad,Cells ρ' ad→Cells ρ ad∨w.heap.size≤ad.block)∧
   (∀(j:Nat) (c c':C),gs[j]? =some c→gs'[j]? =some c'→ ∀y,RepC ρ w Z c y→RepC ρ' w' Z c' y)∧RepV ρ' w' Z v x
structure Yl where
 g:FuncId
 caps:List Value
 J:List (List A)→(Addr→Prop)→(Addr→Prop)→World→Prop
def Yl.x(Y:Yl):Value:= .func (.func Y.g) #[] Y.caps.toArray
structure YlOk (P:Program) (Y:Yl):Prop where
 sub: ∀rest R D w,Y.J rest R D w→(∀ad,R ad→D ad)∧(∀ad,D ad→ad.block<w.heap.size)
 stable: ∀rest R D (w w':World) (M:Addr→Prop),Y.J rest R D w→(∀ad,M ad→ ¬D ad)→Fr M w w'→Y.J rest R D w'
 step: ∀y rest R (D D2:Addr→Prop) (w:World) (vals:List Value),Y.J (y::rest) R D w→(∀ad,D ad→D2 ad)→ZOk w D2 (fun ad=>R ad∨ ¬D2 ad)→RepL (A.rep w fun ad=>R ad∨ ¬D2 ad) y vals→
  CY P Y.g∧Calls P Y.g (vals++Y.caps).toArray w fun e w'=>e= .returned (.tuple #[])∧ ∃R' D',Y.J rest R' D' w'∧Fr R w w'∧(∀ad,R' ad→R ad∨w.heap.size≤ad.block)∧(∀ad,D' ad→D2 ad∨w.heap.size≤ad.block)∧(∀ad,D ad→D' ad)
def Gy(P:Program)(x:Value)(f:FuncId)(as:List A)(ys:List (List A)):Prop:=
 CY P f∧ ∀(Y:Yl),Y.x=x→YlOk P Y→ ∀(w:World) (Z:Addr→Prop) (vals:List Value) (rest:List (List A)) (R D:Addr→Prop),
  Y.J (ys++rest) R D w→ZOk w Z Z→(∀ad,R ad→Z ad)→RepL (A.rep w Z) as vals→
  Calls P f vals.toArray w fun e w'=>e= .returned (.tuple #[])∧ ∃R' D',Y.J rest R' D' w'∧Fr R w w'∧(∀ad,R' ad→R ad∨w.heap.size≤ad.block)∧(∀ad,D' ad→D ad∨ ¬Z ad∨w.heap.size≤ad.block)∧(∀ad,D ad→D' ad)
def Ld(P:Program)(f:FuncId)(y:List A)(cs:List C)(h h':List (Nat×Blk)):Prop:=
 CY P f∧ ∀[Gv] (w:World) (Z:Addr→Prop) (ρ:AE) (vals cvals:List Value),ZOk w Z (Ar ρ Z)→Heap ρ w Z h→(∀ad,Cells ρ ad→ ¬Z ad)→(∀i o,ρ i=some o→(lk i h).isSome=true)→
  RepL (A.rep w (Ar ρ Z)) y vals→RepL (RepC ρ w Z) cs cvals→
  Calls P f (vals++cvals).toArray w fun e w'=>e= .returned (.tuple #[])∧ ∃ρ',Fr (Cells ρ) w w'∧Heap ρ' w' Z h'∧(∀i o,ρ' i=some o→(lk i h').isSome=true)∧(∀ad,Cells ρ' ad→Cells ρ ad∨w.heap.size≤ad.block)∧RepL (RepC ρ' w' Z) cs cvals
def CallsA(P:Program)(f:FuncId)(sz n:Nat)(cs:List D)(as:List A)(m:Nat)(cs':List D):Prop:=
 CY P f∧ ∀[Gv] (w:World) (Z:Addr→Prop) (ρ:AE) (k:Nat) (v0:Value) (vals:List Value),ZOk w Z (Ar ρ Z)→Heap ρ w Z [(k,.row sz cs true)]→(∀ad,Cells ρ ad→ ¬Z ad)→(∀i o,ρ i=some o→i=k)→
  RepC ρ w Z (.sl k 0 n) v0→RepL (A.rep w (Ar ρ Z)) as vals→
  Calls P f (v0::vals).toArray w fun e w'=> ∃v,e= .returned v∧ ∃ρ',Fr (Cells ρ) w w'∧Heap ρ' w' Z [(k,.row sz cs' true)]∧(∀i o,ρ' i=some o→i=k)∧(∀ad,Cells ρ' ad→Cells ρ ad∨w.heap.size≤ad.block)∧RepC ρ' w' Z (.sl k 0 m) v
def AI{α:Type}(o:Option α)(k:α→Prop):Prop:= ∃x,o=some x∧k x
theorem CR{α:Type}(x:α)(k:α→Prop):AI (some x) k=k x:=by simp[AI]
theorem jao{α:Type}(k:α→Prop):AI none k=False:=by simp[AI]
theorem jkG{α:Type}(c:Prop)[Decidable c](x:Option α)(k:α→Prop):AI (if c then x else none) k=(c∧AI x k):=by
 grind[AI]
def Mg{α β:Type}(f:α→Option β)(k:β→Prop)(x:α):Prop:=AI (f x) k
theorem Yt{α β:Type}(o:Option α)(f:α→Option β)(k:β→Prop):AI (o.bind f) k=AI o (Mg f k):=by
 cases o<;>simp[AI,Mg]
def M0{α β:Type}(f:α→β)(k:β→Prop)(x:α):Prop:=k (f x)
theorem jgR{α β:Type}(o:Option α)(f:α→β)(k:β→Prop):AI (o.map f) k=AI o (M0 f k):=by
 cases o<;>simp[AI,M0]
def G9(P:Program)(g:FuncId)(as:List A)(k:R→Prop):Prop:= ∃res,CallsF P g as res∧k res
def Jc(dst:Option Nat)(ids:List Nat)(K:St→Prop)(st:St)(res:R):Prop:=K (st.back dst ids res)
def L4(P:Program)(dst:Option Nat)(st:St)(K:St→Prop)(g:FuncId)(ids:List Nat)(as:List A):Prop:=G9 P g as (Jc dst ids K st)
def DB(ids:List Nat)(cs:List C):Prop:= ∀c∈cs,∀i,c.id? =some i→i∈ids
def KW(ids:List Nat):Blk→Prop
 | .row _ _ _=>True
 | .box cs=>DB ids cs
 | .fbox _ cs=>DB ids cs
 | .mp _=>False
 | .gh _=>False
def Qh(P:Program)(dst:Option Nat)(st:St)(K:St→Prop)(g:FuncId)(caps:List D)(us:List U):Prop:=
 ∃(ids:List Nat) (r:R) (h1 h2:List (Nat×Blk)),Fw P g (us++caps.map fun d=> .c (.d d)) h1 h2 r∧(∀u∈us,DB ids u.all)∧
  (∀i b,lk i h1=some b→i∈ids∧lk i st.h=some b∧KW ids b)∧(∀i∈ids,(lk i h1).isSome=true)∧K (st.backW dst ids h2 r)
def St.rest(x:Value)(l:List (List A))(st:St):St:={ st with t:=(YS,.tr x l)::rm YS st.t }
def St.backY(dst:Option Nat)(ids:List Nat)(x:Value)(l:List (List A))(st:St):St:=((st.freeze ids).put dst (.tup [])).rest x l
def YV(P:Program)(dst:Option Nat)(st:St)(K:St→Prop)(g:FuncId)(caps:List D)(us:List U):Prop:=
 ∃(x:Value) (ys rest:List (List A)) (as:List A),lk YS st.t=some (.tr x (ys++rest))∧st.argsW (st.reachU us) us caps=some as∧Gy P x g as ys∧K (st.backY dst (st.reachU us) x rest)
def jiZ(P:Program)(dst:Option Nat)(st:St)(K:St→Prop)(g:FuncId)(caps:List D)(us:List U):Prop:=
 caps=[]∧ ∃(x:Value) (ys rest:List (List A)) (as:List A) (f:FuncId) (cl:List D) (zs:List A→List (List A)),lk YS st.t=some (.tr x (ys.flatMap zs++rest))∧
  us.mapM (U.toA (st.reachU us) st.h)=some (as++[.c (.fn f cl)])∧(∀x',Gy P x' g (as++[.c (.lit x')]) ys)∧(∀y∈ys,Gy P x f (y++cl.map .c) (zs y))∧K (st.backY dst (st.reachU us) x rest)
def FA(ids:List Nat)(cs:List C):Nat→C→C:=fun i c=>if ids.contains i then (match c with| .ptr _ _=>if cs.any (fun e=>match e with| .ptr j _=>j==i|_=>false) then c else .bad|_=> .bad) else c
def St.backX(dst:Option Nat)(ids nw fz:List Nat)(cs:List C)(h2:List (Nat×Blk))(st:St):St:=
 ({ (purges nw (st.freeze fz)).on (FA ids cs)with h:=h2++Ds (ids.contains ·) ((purges nw (st.freeze fz)).on (FA ids cs)).h }:St).put dst (.tup [])
structure HbOk (st:St) (cs:List C) (hA hB:List (Nat×Blk)) (fz ids nw:List Nat):Prop where
 frz: ∀i∈ids,i∉fz
 caps:DB ids cs
 old: ∀i b,lk i hA=some b→i∈ids∧lk i (purges nw (st.freeze fz)).h=some b∧KW ids b
 here: ∀i∈ids,(lk i hA).isSome=true
 free: ∀i∈nw,i∉ids
 new: ∀i b,lk i hB=some b→i∈ids∨i∈nw
def jdX(P:Program)(dst:Option Nat)(st:St)(K:St→Prop)(g:FuncId)(caps:List D)(us:List U):Prop:=
 caps=[]∧ ∃(us0:List U) (f:FuncId) (cs:List C) (as:List A) (ys:List (List A)) (H:List (List A)→List (Nat×Blk)) (fz ids nw:List Nat),us=us0++[.clo f cs]∧
  us0.mapM (U.toA fz st.h)=some as∧(∀x',Gy P x' g (as++[.c (.lit x')]) ys)∧(∀y rest,(y::rest)<:+ys→Ld P f y cs (H (y::rest)) (H rest))∧
  HbOk st cs (H ys) (H []) fz ids nw∧K (st.backX dst ids nw fz cs (H []))
def jco(P:Program)(dst:Option Nat)(st:St)(K:St→Prop)(g:FuncId)(caps:List D)(us:List U):Prop:=
 caps=[]∧ ∃(us0:List U) (f0 k:Nat) (f:FuncId) (cs:List C) (as:List A) (ys:List (List A)) (zs:List A→List (List A)) (H:List (List A)→List (Nat×Blk)) (fz ids nw:List Nat),us=us0++[.clo f0 [.ptr k 0]]∧lk k st.h=some (.fbox f cs)∧k∈fz∧
  us0.mapM (U.toA fz st.h)=some as∧(∀x',Gy P x' g (as++[.c (.lit x')]) ys)∧(∀x y,y∈ys→Gy P x f0 (y++[.c (.ref [.lit x])]) (zs y))∧
  (∀y rest,(y::rest)<:+ys.flatMap zs→Ld P f y cs (H (y::rest)) (H rest))∧
  HbOk st cs (H (ys.flatMap zs)) (H []) fz ids nw∧K (st.backX dst ids nw fz cs (H []))
def jip(P:Program)(dst:Option Nat)(st:St)(K:St→Prop)(g:FuncId)(caps:List D)(us:List U):Prop:=
 caps=[]∧ ∃(k n sz m d:Nat) (cs cs':List D) (us':List U) (as:List A),us= .c (.sl k 0 n)::us'∧lk k st.h=some (.row sz cs true)∧us'.mapM (U.toA [] st.h)=some as∧dst=some d∧CallsA P g sz n cs as m cs'∧
  K (((st.drop k).new d (.row sz cs' true)).put (some d) (vC (.sl d 0 m)))
def Z7(P:Program)(dst:Option Nat)(st:St)(K:St→Prop)(g:FuncId)(caps:List D)(us:List U):Prop:=
 caps=[]∧ ∃(sz m d:Nat) (cs':List D) (us':List U) (as:List A),us= .c .nl::us'∧us'.mapM (U.toA [] st.h)=some as∧dst=some d∧CallsA P g sz 0 [] as m cs'∧
  K ((((st.new d (.row sz [] true)).drop d).new d (.row sz cs' true)).put (some d) (vC (.sl d 0 m)))
def WI(P:Program)(dst:Option Nat)(st:St)(K:St→Prop)(g:FuncId)(caps:List D)(us:List U):Prop:=
 caps=[]∧ ∃(fz:List Nat) (k n sz m d:Nat) (cs cs':List D) (us':List U) (as:List A),us= .c (.sl k 0 n)::us'∧k∉fz∧lk k (st.freeze fz).h=some (.row sz cs true)∧us'.mapM (U.toA fz st.h)=some as∧dst=some d∧CallsA P g sz n cs as m cs'∧
  K ((((st.freeze fz).drop k).new d (.row sz cs' true)).put (some d) (vC (.sl d 0 m)))
def jeC(P:Program)(dst:Option Nat)(st:St)(K:St→Prop)(g:FuncId)(caps:List D)(us:List U):Prop:=
 caps=[]∧ ∃(fz:List Nat) (sz m d:Nat) (cs':List D) (us':List U) (as:List A),us= .c .nl::us'∧us'.mapM (U.toA fz st.h)=some as∧dst=some d∧CallsA P g sz 0 [] as m cs'∧
  K (((((st.freeze fz).new d (.row sz [] true)).drop d).new d (.row sz cs' true)).put (some d) (vC (.sl d 0 m)))
def C.same:C→C→Bool
 | .sl i o n,.sl j p m=>Nat.beq i j&&Nat.beq o p&&Nat.beq n m
 | .ptr i o,.ptr j p=>Nat.beq i j&&Nat.beq o p
 | .mp q i,.mp r j=>(q==r)&&Nat.beq i j
 |_,_=>false
def GM(c:C):List C→List C→C
 |x::r,y::s=>if C.same x c then y else GM c r s
 |_,_=> .bad
def Fs(ids nw:List Nat)(gs gs':List C):Nat→C→C:=fun i c=>if ids.contains i then GM c gs gs' else if nw.contains i then .bad else c
def St.backH(dst:Option Nat)(ids nw:List Nat)(gs gs':List C)(h2:List (Nat×Blk))(v:V)(st:St):St:=
 ({ st.on (Fs ids nw gs gs')with h:=h2++Ds (fun i=>ids.contains i||nw.contains i) (st.on (Fs ids nw gs gs')).h }:St).put dst v
def B1(ids:List Nat):Nat→C→C:=fun i c=>if ids.contains i then c else .bad
structure HOk (st:St) (h1 h2:List (Nat×Blk)) (ids nw:List Nat):Prop where
 old: ∀i b,lk i h1=some b→i∈ids∧ ∃b0,lk i st.h=some b0∧b=b0.on (B1 ids)
 here: ∀i∈ids,(lk i h1).isSome=true
 new: ∀i b,lk i h2=some b→i∈ids∨i∈nw
def Rx(P:Program)(dst:Option Nat)(st:St)(K:St→Prop)(g:FuncId)(caps:List D)(us:List U):Prop:=
 caps=[]∧ ∃(gs gs':List C) (h1 h2:List (Nat×Blk)) (v:V) (ids nw:List Nat),GJ P g (us.map (U.on (B1 ids))) gs gs' h1 h2 v∧(∀x r,v≠ .tr x r)∧HOk st h1 h2 ids nw∧K (st.backH dst ids nw gs gs' h2 v)
def Kl(P:Program)(dst:Option Nat)(st:St)(K:St→Prop)(g:FuncId)(caps:List D)(us:List U):Prop:=
 Qh P dst st K g caps us∨YV P dst st K g caps us∨jiZ P dst st K g caps us∨(jdX P dst st K g caps us∨jco P dst st K g caps us∨Z7 P dst st K g caps us∨WI P dst st K g caps us∨jeC P dst st K g caps us∨Rx P dst st K g caps us)∨jip P dst st K g caps us
def DM(P:Program)(dst:Option Nat)(st:St)(K:St→Prop)(g:FuncId)(caps:List D)(us:List U):Prop:=
 AI (st.argsW (st.reachU us) us caps) (L4 P dst st K g (st.reachU us))∨Kl P dst st K g caps us
def LX(P:Program)(dst:Option Nat)(st:St)(K:St→Prop)(g:FuncId)(cs:List C)(us:List U):Prop:=DM P dst st K g [] (us++cs.map .c)
def OI(dst:Option Nat)(st:St)(K:St→Prop)(x:Value)(us:List U):Prop:=
 ∃(as:List A) (rest:List (List A)),lk YS st.t=some (.tr x (as::rest))∧st.argsW (st.reachU us) us []=some as∧K (st.backY dst (st.reachU us) x rest)
def Eh(P:Program)(dst:Option Nat)(args:List Operand)(st:St)(K:St→Prop)(u:U):Prop:=
 match u with
 | .c (.d (.fn g caps))=>AI (args.mapM st.evU) (DM P dst st K g caps)
 | .clo g cs=>AI (args.mapM st.evU) (LX P dst st K g cs)
 | .c (.d (.lit x))=>AI (args.mapM st.evU) (OI dst st K x)
 |_=>False
theorem Yk(P:Program)(dst:Option Nat)(args:List Operand)(st:St)(K:St→Prop)(x:Value):
  Eh P dst args st K (.c (.d (.lit x)))=AI (args.mapM st.evU) (OI dst st K x):=rfl
theorem KV(P:Program)(dst:Option Nat)(args:List Operand)(st:St)(K:St→Prop)(g:FuncId)(caps:List D):
  Eh P dst args st K (.c (.d (.fn g caps)))=AI (args.mapM st.evU) (DM P dst st K g caps):=rfl
theorem Oz(P:Program)(dst:Option Nat)(args:List Operand)(st:St)(K:St→Prop)(g:FuncId)(cs:List C):
  Eh P dst args st K (.clo g cs)=AI (args.mapM st.evU) (LX P dst st K g cs):=rfl
theorem jbQ(P:Program)(dst:Option Nat)(st:St)(K:St→Prop)(g:FuncId)(cs:List C)(us:List U):
  LX P dst st K g cs us=DM P dst st K g [] (us++cs.map .c):=rfl
theorem jeF(P:Program)(dst:Option Nat)(st:St)(K:St→Prop)(g:FuncId)(caps:List D)(us:List U):
  DM P dst st K g caps us=(AI (st.argsW (st.reachU us) us caps) (L4 P dst st K g (st.reachU us))∨Kl P dst st K g caps us):=rfl
theorem jfi(P:Program)(dst:Option Nat)(st:St)(K:St→Prop)(g:FuncId)(ids:List Nat)(as:List A):
  L4 P dst st K g ids as=G9 P g as (Jc dst ids K st):=rfl
def wpOp(P:Program)(T:AH)(o:Oper)(st:St)(K:St→Prop):Prop:=
 match o.op with
 | .call { callee:= .value f,args,.. }=>AI (st.evU f) (Eh P o.dst args.toList st K)
 |_=>AI (DH T o st) K
def JB{α:Type}(f:St→α→Prop)(k:α)(s:St):Prop:=f s k
theorem Wu{α:Type}(f:St→α→Prop)(k:α)(s:St):JB f k s=f s k:=rfl
def Gr(dst:Option Nat)(st:St)(K:St→Prop):Prop:=K (st.put dst (.tup []))
def EW(d:Nat)(want:Bool)(v:Option V)(st:St)(k1 k2:St→(St→Prop)→Prop)(K:St→Prop):Prop:=
 match v with
 |some (.u (.c (.d (.bool b))))=>(b=want→k1 (st.put (some d) (vB want)) K)∧(b= !want→k2 (st.put (some d) (vB !want)) K)
 |some (.tup [])=>k2 st K
 |_=>False
theorem PP(d:Nat)(want b:Bool)(st:St)(k1 k2:St→(St→Prop)→Prop)(K:St→Prop):
  EW d want (some (.u (.c (.d (.bool b))))) st k1 k2 K=((b=want→k1 (st.put (some d) (vB want)) K)∧(b= !want→k2 (st.put (some d) (vB !want)) K)):=rfl
theorem Rm(d:Nat)(want:Bool)(st:St)(k1 k2:St→(St→Prop)→Prop)(K:St→Prop):
  EW d want (some (.tup [])) st k1 k2 K=k2 st K:=rfl
def Ca(P:Program)(T:AH)(ops:List Oper)(o:Oper)(st:St)(K:St→Prop):Prop:=
 match o.guard with
 |none=>wpOp P T o st K
 |some (j,want)=>
  match (ops[j]?).bind (·.dst)with
  |some d=>EW d want (lk d st.t) st (wpOp P T o) (Gr o.dst) K
  |none=>False
def EV(P:Program)(T:AH)(ops:List Oper):List Oper→St→(St→Prop)→Prop
 |[],st,K=>K st
 |o::r,st,K=>Ca P T ops o st (JB (EV P T ops r) K)
def AW{α:Type}(l:List (Nat×α)):List (Nat×α)→Prop
 |[]=>True
 |(k,v)::r=>lk k l=some v∧AW l r
def St.le(s0 s:St):Prop:=AW s.t s0.t∧AW s.h s0.h
abbrev Bk:=Exit→St→Prop
def DO(k:St→Bk→Prop)(Q:Bk)(e:Exit)(s:St):Prop:=
 match e with
 | .normal=>k s Q
 |e=>Q e s
def Gf(id:Nat)(Q:Bk)(e:Exit)(s:St):Prop:=
 match e with
 | .exit j=>if j=id then Q .normal s else Q (.exit j) s
 |e=>Q e s
def Ie(b:Option Bool)(st:St)(k1 k2:St→Bk→Prop)(Q:Bk):Prop:=
 match b with
 |some b=>(b=true→k1 st Q)∧(b=false→k2 st Q)
 |none=>False
theorem jbI(b:Bool)(st:St)(k1 k2:St→Bk→Prop)(Q:Bk):Ie (some b) st k1 k2 Q=((b=true→k1 st Q)∧(b=false→k2 st Q)):=rfl
def Kw(I:St→Nat→Prop)(rs:List (Nat×Nat))(n:Nat)(s':St)(_:Bk):Prop:= ∃s1 m,St.le s1 (rns rs s')∧I s1 m∧m<n
def HN(body:St→Bk→Prop)(st:St)(Q:Bk):Prop:=
 ∃(I:St→Nat→Prop) (rs:List (Nat×Nat)),(∃s n,s.le (rns rs st)∧I s n)∧ ∀s n,I s n→body s (DO (Kw I rs n) Q)
theorem jhH(k:St→Bk→Prop)(Q:Bk)(s:St):DO k Q .normal s=k s Q:=rfl
theorem YG(k:St→Bk→Prop)(Q:Bk)(s:St):DO k Q .ret s=Q .ret s:=rfl
theorem YE(k:St→Bk→Prop)(Q:Bk)(i:Nat)(s:St):DO k Q (.exit i) s=Q (.exit i) s:=rfl
theorem jjY(i:Nat)(Q:Bk)(s:St):Gf i Q .normal s=Q .normal s:=rfl
theorem jct(i:Nat)(Q:Bk)(s:St):Gf i Q .ret s=Q .ret s:=rfl
theorem jho(i j:Nat)(Q:Bk)(s:St):Gf i Q (.exit j) s=if j=i then Q .normal s else Q (.exit j) s:=rfl
def IG(Q:Bk)(s:St):Prop:=Q .normal s
theorem jg4(Q:Bk)(s:St):IG Q s=Q .normal s:=rfl
def fitC(st:St)(pure:Bool):C→RC→Prop
 |c,.d x=>(pure=true→c.id? =none)∧st.cD c=some x
 | .sl i 0 n,.own sz m cs=>m=n∧lk i st.h=some (.row sz cs true)∧cs.length=n*sz
 | .nl,.own _ m cs=>m=0∧cs=[]
 |_,_=>False
def fitL{α β:Type}(r:α→β→Prop):List α→List β→Prop
 |[],[]=>True
 |a::l,b::m=>r a b∧fitL r l m
 |_,_=>False
def fitU(st:St)(pure:Bool):U→RU→Prop
 | .c x,.c y=>fitC st pure x y
 | .agg cs,.agg ds=>fitL (fitC st pure) cs ds
 |_,_=>False
def fitV(st:St)(pure:Bool):V→R→Prop
 | .u x,.u y=>fitU st pure x y
 | .tup xs,.tup ys=>fitL (fitU st pure) xs ys
 |_,_=>False
def St.resU(T:AH)(st:St):ResultVar→Option U
 | .tmp t=>match lk t st.t with|some (.u u)=>some u|_=>none
 | .cell t ty=>(T ty).bind fun i=>match lk t st.t with|some (.u (.c c))=>st.load i c|_=>none
def St.res(T:AH)(st:St)(rs:List ResultVar):Option V:=
 match rs with
 |[r]=>(st.resU T r).map .u
 |rs=>(rs.mapM (st.resU T)).map .tup
def HU(T:AH)(rs:List ResultVar)(r:R)(e:Exit)(st:St):Prop:=
 (e= .ret∨e= .normal)∧ ∃v,st.res T rs=some v∧r.rows.length≤1∧fitV st (!r.rows.isEmpty) v r
def A.toV:A→V
 | .c x=> .u (.c (.d x))
 | .agg cs=> .u (.agg (cs.map .d))
def CJ(k:Nat):List A→List (Nat×V)
 |[]=>[]
 |a::r=>(k,a.toV)::CJ (k+1) r
def St.init(as:List A):St:={ t:=CJ 0 as,h:=[] }
end Go.Va
