/- a part of the proof -/
import Derived.Test.YtkajmpgbnbikiaaGreatDoorMbm
set_option linter.all false
namespace Go.Va
open Go.RowKit
variable {P:Program} {w:World}
theorem jik(t:TypeId):(Instr.makeMap t none).run P w= .ok (.map (some w.heap.size)) (w.alloc (.map #[] 0)):=rfl
theorem VA{t:TypeId}(ht:P.underlying t=some .string)(s:ByteArray):(Instr.range t (.string s)).run P w= .ok (.pointer (some ⟨w.heap.size,0,none⟩)) (w.alloc (.stringIter s 0)):=by
 simp[Instr.range,run_underlying ht,newObj]
 rfl
theorem jkw{g:Nat}{s:ByteArray}{p:Nat}{t:TypeId}(h:w.heap[g]? =some (.stringIter s p))(hp: ¬p<s.size):(Instr.next (.pointer (some ⟨g,0,none⟩)) true t).run P w= .ok (.tuple #[.bool false]) w:=by
 simp[Instr.next,getObj,Sem.run,h,hp]
theorem jhY{g:Nat}{s:ByteArray}{p:Nat}{t:TypeId}(h:w.heap[g]? =some (.stringIter s p))(hp:p<s.size):
  (Instr.next (.pointer (some ⟨g,0,none⟩)) true t).run P w= .ok (.tuple #[.bool true,.int .i64 p,.int .i32 (Utf8.decode s p).1]) { w with heap:=w.heap.setIfInBounds g (.stringIter s (p+(Utf8.decode s p).2)) }:=by
 simp[Instr.next,getObj,setObj,Sem.run,h,hp,goInt]
theorem KR{t:TypeId}(ht:P.underlying t=some .string)(e:Bool)(n:Nat)(s:ByteArray):(Instr.checkKey e (n+1) t (.string s)).run P w= .ok () w:=by
 simp[Instr.checkKey,run_underlying ht]
def CY(k:ByteArray):List (ByteArray×Int)→Nat→Option (Nat×Int)
 |[],_=>none
 |(a,v)::r,i=>if k==a then some (i,v) else CY k r (i+1)
def ER(e:ByteArray×Int):Value×Value:=(.string e.1,.int .i64 e.2)
theorem Nx(k:ByteArray): ∀(L:List MapEntry) (es:List (ByteArray×Int)) (i:Nat),L.map (fun e=>(e.key,e.val))=es.map ER→Instr.findNow .string (.string k) L i=some ((CY k es i).map fun p=>(p.1,.int .i64 p.2))
 |[],[],i,_=>rfl
 |[],_::_,_,h=>by simp at h
 |_::_,[],_,h=>by simp at h
 |e::L,(a,v)::es,i,h=>by
  simp only[List.map_cons,List.cons.injEq,ER,Prod.mk.injEq]at h;obtain⟨⟨h1,h2⟩,h3⟩:=h;have ih:=Nx k L es (i+1) h3;unfold Instr.findNow CY;rw[h1];simp only[Instr.sameNow];cases k==a with
  |true=>simp[h2]
  |false=>simpa using ih
theorem W9{t kt et:TypeId}(ht:P.underlying t=some (.map kt et))(hk:P.underlying kt=some .string)(hz: ∀w,(zeroValue et).run P w= .ok (.int .i64 0) w){g:Nat}{arr:Array MapEntry}{c:Nat}{es:List (ByteArray×Int)}
  (hg:w.heap[g]? =some (.map arr c)) (he:arr.toList.map (fun e=>(e.key,e.val))=es.map ER) (k:ByteArray):
  (Instr.lookup t (.map (some g)) (.string k) true).run P w= .ok (.tuple #[.int .i64 (((CY k es 0).map (·.2)).getD 0),.bool (CY k es 0).isSome]) w:=by
 have hf:=Nx k arr.toList es 0 he;have hgo:(getObj g).run P w= .ok (.map arr c) w:=by simp[getObj,Sem.run,hg]
 cases hfk:CY k es 0 with
 |none=>
  rw[hfk]at hf
  simp[Instr.lookup,run_underlying ht,hgo,KR hk,Instr.findKey,run_underlying hk,hf,hz]
 |some p=>
  rw[hfk]at hf
  simp[Instr.lookup,run_underlying ht,hgo,KR hk,Instr.findKey,run_underlying hk,hf]
theorem jgu{a b:ByteArray}(h:(a==b)=true):a=b:=by
 obtain⟨x⟩:=a
 obtain⟨y⟩:=b
 have e:x=y:=by simpa using (show(x==y)=true from h)
 rw[e]
theorem jiR(a:ByteArray):(a==a)=true:=by
 obtain⟨x⟩:=a
 show(x==x)=true
 simp
theorem UC{k:ByteArray}: ∀{es:List (ByteArray×Int)} {i j:Nat} {v:Int},CY k es i=some (j,v)→i≤j∧es[j - i]? =some (k,v)
 |[],i,j,v,h=>by cases h
 |(a,u)::r,i,j,v,h=>by
  unfold CY at h;split at h
  ·rename_i e
   cases h;have:k=a:=jgu e
   subst this;exact⟨Az _,by simp⟩
  ·obtain⟨h1,h2⟩:=UC h
   exact⟨by omega,by rw[show j - i=j - (i+1)+1 by omega];simpa using h2⟩
def KL(k:ByteArray)(v:Int)(es:List (ByteArray×Int)):List (ByteArray×Int):=match CY k es 0 with
 |some p=>es.set p.1 (k,v)
 |none=>es++[(k,v)]
theorem Vl{t kt et:TypeId}(ht:P.underlying t=some (.map kt et))(hk:P.underlying kt=some .string){g:Nat}{arr:Array MapEntry}{c:Nat}{es:List (ByteArray×Int)}
  (hg:w.heap[g]? =some (.map arr c)) (he:arr.toList.map (fun e=>(e.key,e.val))=es.map ER) (k:ByteArray) (v:Int):
  ∃arr' c',(Instr.mapUpdate t (.map (some g)) (.string k) (.int .i64 v)).run P w= .ok () { w with heap:=w.heap.setIfInBounds g (.map arr' c') }∧arr'.toList.map (fun e=>(e.key,e.val))=(KL k v es).map ER:=by
 have hf:=Nx k arr.toList es 0 he;have hgo:(getObj g).run P w= .ok (.map arr c) w:=by simp[getObj,Sem.run,hg]
 have hso: ∀o,(setObj g o).run P w= .ok () { w with heap:=w.heap.setIfInBounds g o }:=fun o=>by simp[setObj,Sem.run,hg]
 unfold KL;cases hfk:CY k es 0 with
 |none=>
  rw[hfk]at hf
  refine⟨_,_,by simp[Instr.mapUpdate,run_underlying ht,hgo,KR hk,Instr.findKey,run_underlying hk,hf,hso];rfl,?_⟩
  simp[he,ER]
 |some p=>
  rw[hfk]at hf
  obtain⟨i,u⟩:=p
  obtain⟨_,hi⟩:=UC hfk
  simp only[Nat.sub_zero]at hi;have hL:(arr.toList.map fun e=>(e.key,e.val))[i]? =some (.string k,.int .i64 u):=by rw[he,Bi,hi];rfl
  rw[Bi,jze]at hL
  obtain⟨e,hei,hek⟩:=hL
  have hek1:e.key= .string k:=congrArg Prod.fst hek
  have hea:arr[i]? =some e:=by simpa using hei
  have hst:(Instr.keyThatStays (.string k) (.string k)).run P w= .ok (.string k) w:=by
   simp[Instr.keyThatStays,Instr.sameBits,jiR]
  refine⟨arr.modify i fun e=>{ e with key:= .string k,val:= .int .i64 v },c,by simp[Instr.mapUpdate,run_underlying ht,hgo,KR hk,Instr.findKey,run_underlying hk,hf,hso,hea,hek1,hst],?_⟩
  refine List.ext_getElem? fun j=> ?_
  have hj:(arr.toList.map fun e=>(e.key,e.val))[j]? =(es.map ER)[j]? :=by rw[he]
  simp only[Array.toList_modify,Bi,List.getElem?_modify,List.getElem?_set]at hj ⊢;have hil:i<es.length:=(jzg.1 hi).1;by_cases e2:i=j
  ·subst e2;simp[hei,hil,ER]
  ·simpa [e2]using hj
inductive Ob where
 |mp (es:List (ByteArray×Int))
 |it (s:ByteArray) (p:Nat)
def Ob.ref:Ob→Nat→Value
 | .mp _,g=> .map (some g)
 | .it _ _,g=> .pointer (some ⟨g,0,none⟩)
def F5:Ob→Obj→Prop
 | .mp es,.map arr _=>arr.toList.map (fun e=>(e.key,e.val))=es.map ER
 | .it s p,.stringIter s' p'=>s'=s∧p'=p
 |_,_=>False
theorem jeD{x:Ob}{y:Obj}(h:F5 x y){k:Nat}(hy:w.heap[k]? =some y){ad:Addr}(ha:ad.block=k):w.cell? ad=none:=by
 unfold World.cell?;rw[ha,hy];cases x<;>cases y<;>first|rfl|exact h.elim
structure OS where
 s:St
 n:Nat
 r:List (Nat×Nat)
 o:List (Nat×Ob)
structure RelO (Z:Addr→Prop) (w0:World) (nn:Nat) (γ:Nat→Nat) (os:OS) (a:Act) (w:World):Prop where
 rel: ∃ρ,Rel (fun _=>False) Z w0 ρ os.s a w
 obs: ∀i x,lk i os.o=some x→i<os.n∧w0.heap.size≤γ i∧ ∃y,w.heap[γ i]? =some y∧F5 x y
 inj: ∀i j x y,lk i os.o=some x→lk j os.o=some y→i≠j→γ i≠γ j
 refs: ∀t i x,lk t os.r=some i→lk i os.o=some x→a.tmps.getD t undef=x.ref (γ i)
 rlt: ∀t i,lk t os.r=some i→i<os.n
 notr: ∀x r,lk YS os.s.t≠some (.tr x r)
 size:a.tmps.size=nn
theorem Rel.rebase{Z:Addr→Prop}{w0:World}{ρ:As}{st:St}{a:Act}(h:Rel (fun _=>False) Z w0 ρ st a w):Rel (Cells ρ) Z w ρ st a w where
 fr:=⟨rfl,Az _,rfl,rfl,Az _,fun _ _ _ h=>h,fun _ _=>rfl,fun _ _ _=>rfl⟩
 heap:=h.heap
 mine:=fun i o ad hi ho=> .inl ⟨i,o,hi,ho⟩
 out:=fun ad hz=>Nat.lt_of_lt_of_le (h.out ad hz) h.fr.size
 mz:=fun ad ⟨i,o,hi,ho⟩ hz=>Ki h hi ho hz
 tmps:=h.tmps
 defers:=h.defers
theorem Rel.unbase{Z:Addr→Prop}{w0 w':World}{ρ ρ':As}{st st':St}{a a':Act}(h:Rel (fun _=>False) Z w0 ρ st a w)(h':Rel (Cells ρ) Z w ρ' st' a' w'):Rel (fun _=>False) Z w0 ρ' st' a' w' where
 fr:=h.fr.into h'.fr fun ad ⟨i,o,hi,ho⟩=>h.mine i o ad hi ho
 heap:=h'.heap
 mine:=fun i o ad hi ho=>by
  rcases h'.mine i o ad hi ho with⟨j,o2,hj,ho2⟩|hs
  ·exact h.mine j o2 ad hj ho2
  ·exact .inr (Nat.le_trans h.fr.size hs)
 out:=h.out
 mz:=h.mz
 tmps:=h'.tmps
 defers:=h'.defers
theorem jbh{Z:Addr→Prop}{w0 w':World}{ρ:As}{st:St}{a:Act}(h:Rel (fun _=>False) Z w0 ρ st a w)(hf:Fr (Cells ρ) w w'){x:Ob}{y:Obj}{k:Nat}(hy:w.heap[k]? =some y)(hr:F5 x y):w'.heap[k]? =some y:=by
 obtain⟨hk,_⟩:=Array.getElem?_eq_some_iff.1 hy
 refine(hf.blk k hk fun ad e ⟨i,o,hi,ho⟩=> ?_).trans hy
 obtain⟨hg,hb,h1,h2⟩:=ho
 obtain⟨⟨v,hv⟩,_⟩:=h.heap.owns.cells i o hi hg (ad.off - o.o) (by omega)
 have:w.cell? (o.at (ad.off - o.o))=none:=jeD hr hy (by simp[Own.at,←hb,e])
 rw[this]at hv
 cases hv
def Hi(ds:List Nat)(r:List (Nat×Nat)):List (Nat×Nat):=r.filter fun e=> !ds.contains e.1
theorem KH{ds:List Nat}{t i:Nat}: ∀{r:List (Nat×Nat)},lk t (Hi ds r)=some i→t∉ds∧lk t r=some i
 |[],h=>by cases h
 |(k,v)::r,h=>by
  unfold Hi at h;rw[List.filter_cons]at h;split at h
  ·rename_i hk
   by_cases e:k=t
   ·subst e;rw[AR]at h ⊢;exact⟨by simpa using hk,h⟩
   ·rw[AW fun e2=>e e2.symm]at h ⊢
    exact KH h
  ·rename_i hk
   obtain⟨h1,h2⟩:=KH (r:=r) h
   by_cases e:k=t
   ·subst e;exact absurd h1 (by simpa using hk)
   ·rw[AW fun e2=>e e2.symm]
    exact⟨h1,h2⟩
def Hy(ops:List Oper):List Nat:=ops.filterMap (·.dst)
theorem jgO{Z:Addr→Prop}{w0:World}{nn:Nat}{γ:Nat→Nat}{os:OS}{a:Act}(h:RelO Z w0 nn γ os a w){ρ:As}(hr:Rel (fun _=>False) Z w0 ρ os.s a w){ds:List Nat}
  {a':Act} {w':World} {st':St} {ρ':As} (h':Rel (Cells ρ) Z w ρ' st' a' w') (hn:a'.tmps.size=nn) (hno: ∀x r,lk YS st'.t≠some (.tr x r)) (hp: ∀t i,lk t os.r=some i→t∉ds→a'.tmps.getD t undef=a.tmps.getD t undef):
  RelO Z w0 nn γ { os with s:=st',r:=Hi ds os.r } a' w' where
 rel:=⟨ρ',hr.unbase h'⟩
 obs:=fun i x hi=>by
  obtain⟨h1,h2,y,hy,hx⟩:=h.obs i x hi
  exact⟨h1,h2,y,jbh hr h'.fr hy hx,hx⟩
 inj:=h.inj
 refs:=fun t i x ht hi=>by
  obtain⟨h1,h2⟩:=KH ht
  rw[hp t i h2 h1]
  exact h.refs t i x h2 hi
 rlt:=fun t i ht=>h.rlt t i (KH ht).2
 notr:=hno
 size:=hn
section
variable {T:Au} {Z:Addr→Prop} {w0:World} {nn:Nat} {γ:Nat→Nat} {os:OS} {a:Act}
def FM(ρ:As)(Z:Addr→Prop)(w:World)(nn:Nat)(pins:List Nat)(a:Act):Cx:=⟨Cells ρ,Z,w,nn,pins,fun k=>a.tmps.getD k undef,none,fun _=>False,fun _=>False⟩
theorem SG{ρ:As}{pins:List Nat}(h:Rel (fun _=>False) Z w0 ρ os.s a w)(hno: ∀x r,lk YS os.s.t≠some (.tr x r)):Lk (FM ρ Z w nn pins a) (Cells ρ) Z w os.s a:=
 ⟨fun k _=>rfl,fun _=>⟨rfl,rfl,rfl⟩,⟨rfl,Az _,rfl,rfl,Az _,fun _ _ _ h=>h,fun _ _=>rfl,fun _ _ _=>rfl⟩,fun _ h=>h,fun _ h=> .inl h,fun x r hh=>absurd hh (hno x r)⟩
end
theorem Rel.objset{M Z:Addr→Prop}{w0:World}{ρ:As}{st:St}{a:Act}(h:Rel M Z w0 ρ st a w){g:Nat}{y y':Obj}(hg:w.heap[g]? =some y)(hy: ∀c e f,y≠ .cells c e f)(hy': ∀c e f,y'≠ .cells c e f)(hw:w0.heap.size≤g):
  Rel M Z w0 ρ st a { w with heap:=w.heap.setIfInBounds g y' }:=by
 have hlt:g<w.heap.size:=(Array.getElem?_eq_some_iff.1 hg).1;have hget: ∀k,k≠g→(w.heap.setIfInBounds g y')[k]? =w.heap[k]? :=fun k hk=>Array.getElem?_setIfInBounds_ne (fun e=>hk e.symm)
 have hgs:(w.heap.setIfInBounds g y')[g]? =some y':=by
  rw[Array.getElem?_setIfInBounds]
  simp[hlt]
 have hcell: ∀ad:Addr,({ w with heap:=w.heap.setIfInBounds g y' }:World).cell? ad=w.cell? ad:=fun ad=>by
  unfold World.cell?;by_cases e:ad.block=g
  ·simp only[e,hgs,hg];cases y'<;>cases y<;>first|rfl|exact absurd rfl (hy _ _ _)|exact absurd rfl (hy' _ _ _)
  ·simp only[hget _ e]
 have hfro: ∀ad:Addr,({ w with heap:=w.heap.setIfInBounds g y' }:World).frozen? ad=w.frozen? ad:=fun ad=>by
  unfold World.frozen?;by_cases e:ad.block=g
  ·simp only[e,hgs,hg];cases y'<;>cases y<;>first|rfl|exact absurd rfl (hy _ _ _)|exact absurd rfl (hy' _ _ _)
  ·simp only[hget _ e]
 have hk: ∀Z1:Addr→Prop,Keep w { w with heap:=w.heap.setIfInBounds g y' } Z1 Z1:=fun Z1 ad v h1 h2=>⟨(hcell ad).trans h2,h1⟩
 have ht:Cq ρ ρ w { w with heap:=w.heap.setIfInBounds g y' } Z DF:=fun c v hc=>by rw[C.on_id];exact hc.keep (hk _) fun _ _=>rfl
 exact {
  fr:=⟨h.fr.os,h.fr.drawn,h.fr.tape,h.fr.output,by simpa using h.fr.size,fun ad v hm hv=>(hcell ad).trans (h.fr.cell ad v hm hv),fun ad ha=>(hfro ad).trans (h.fr.frz ad ha),fun k hk' hm=>(hget k (by omega)).trans (h.fr.blk k hk' hm)⟩
  heap:=⟨⟨fun i o hi hn j hj=>by rw[hcell,hfro];exact h.heap.owns.cells i o hi hn j hj,h.heap.owns.apart,h.heap.owns.lim⟩,fun i b hb=>by
   obtain⟨o,ho,hr⟩:=h.heap.rep i b hb
   have:=hr.turn ht (hk _) fun _ _ _=>hcell _
   rw[Blk.on_id]at this
   exact⟨o,ho,this⟩⟩
  mine:=h.mine
  out:=h.out
  mz:=h.mz
  tmps:=fun t v hv=>by
   have:=(h.tmps t v hv).turn ht
   rwa [V.on_id]at this
  defers:=h.defers }
def Ju:V:= .u (.c .bad)
def OS.bnd(os:OS)(d i:Nat):OS:={ os with s:=os.s.put (some d) Ju,r:=(d,i)::rm d os.r }
def OS.new(os:OS)(d:Nat)(x:Ob):OS:={ s:=os.s.put (some d) Ju,n:=os.n+1,r:=(d,os.n)::rm d os.r,o:=(os.n,x)::os.o }
def Hc(d:Option Nat)(r:List (Nat×Nat)):List (Nat×Nat):=match d with|some d=>rm d r|none=>r
def OS.getO(os:OS)(t:Nat):Option (Nat×Ob):=(lk t os.r).bind fun i=>(lk i os.o).map fun x=>(i,x)
def IY(os:OS)(x:Operand):Option ByteArray:=match os.s.evC x with|some (.d (.str s))=>some s|_=>none
def JM(os:OS)(t:Nat)(d:Option Nat):Option OS:=(os.getO t).bind fun p=>d.map fun d=>os.bnd d p.1
def NM(MT ST:TypeId→Bool)(o:Oper)(os:OS):Option OS:=
 match o.op with
 | .move (.tmp t)=>JM os t o.dst
 | .assign (.tmp t)=>JM os t o.dst
 | .makeMap ty none=>if MT ty then o.dst.map fun d=>os.new d (.mp []) else none
 | .range ty x=>if ST ty then (IY os x).bind fun s=>o.dst.map fun d=>os.new d (.it s 0) else none
 | .lookup ty (.tmp t) key true=>if MT ty then (IY os key).bind fun k=>match os.getO t with
  |some (_,.mp es)=>some { os with s:=os.s.put o.dst (.tup [.c (.d (.int .i64 (((CY k es 0).map (·.2)).getD 0))),.c (.d (.bool (CY k es 0).isSome))]),r:=Hc o.dst os.r }
  |_=>none else none
 | .mapUpdate ty (.tmp t) key val=>if MT ty then (IY os key).bind fun k=>match os.getO t,os.s.evI val with
  |some (i,.mp es),some (.i64,v)=>some { os with s:=os.s.put o.dst (.tup []),r:=Hc o.dst os.r,o:=(i,.mp (KL k v es))::rm i os.o }
  |_,_=>none else none
 | .next (.tmp t) true=>match os.getO t with
  |some (i,.it s p)=>if p<s.size then some { os with s:=os.s.put o.dst (.tup [.c (.d (.bool true)),.c (.d (.int .i64 p)),.c (.d (.int .i32 (Utf8.decode s p).1))]),r:=Hc o.dst os.r,o:=(i,.it s (p+(Utf8.decode s p).2))::rm i os.o }
   else some { os with s:=os.s.put o.dst (.tup [.c (.d (.bool false))]),r:=Hc o.dst os.r }
  |_=>none
 |_=>none
section
variable {T:Au} {Z:Addr→Prop} {w0:World} {nn:Nat} {γ:Nat→Nat} {os:OS} {a:Act}
theorem OR{d:Option Nat}{t i:Nat}{r:List (Nat×Nat)}(h:lk t (Hc d r)=some i):(∀k,d=some k→t≠k)∧lk t r=some i:=by
 cases d with
 |none=>exact⟨fun k hk=>(by cases hk),h⟩
 |some d=>
  obtain⟨h1,h2⟩:=GH h
  exact⟨fun k hk=>by cases hk;exact h1,h2⟩
theorem K5{d:Option Nat}{v:Value}{t:Nat}(h: ∀k,d=some k→t≠k):(a.put d v).tmps.getD t undef=a.tmps.getD t undef:=by
 cases d with
 |none=>rfl
 |some d=>
  simp only[Act.put,BV];rw[Array.getElem?_setIfInBounds_ne (fun e=>h d rfl e.symm)]
theorem TE{d:Nat}{v:Value}(h:d<a.tmps.size):(a.put (some d) v).tmps.getD d undef=v:=by
 simp[Act.put,Array.getD,h]
theorem Kh{t:Nat}{p:Nat×Ob}(h:os.getO t=some p):lk t os.r=some p.1∧lk p.1 os.o=some p.2:=by
 unfold OS.getO at h;simp only[jzd,jze]at h;obtain⟨i,hi,x,hx,rfl⟩:=h;exact⟨hi,hx⟩
theorem Mq{st:St}(h: ∀x r,lk YS st.t≠some (.tr x r))(d:Option Nat){v:V}(hv: ∀x r,v≠ .tr x r): ∀x r,lk YS (st.put d v).t≠some (.tr x r):=fun x r hh=>by
 cases d with
 |none=>exact h x r hh
 |some d=>
  simp only[St.put]at hh;by_cases e:YS=d
  ·rw[←e,AR]at hh
   exact hv x r (AK hh)
  ·rw[AW e,Bt e]at hh
   exact h x r hh
theorem RelO.putV(h:RelO Z w0 nn γ os a w){d:Option Nat}(hd: ∀k,d=some k→k<a.tmps.size){v:V}{x:Value}(hnt: ∀x r,v≠ .tr x r)(hv: ∀ρ,RepV ρ w Z v x):RelO Z w0 nn γ { os with s:=os.s.put d v,r:=Hc d os.r } (a.put d x) w where
 rel:=by
  obtain⟨ρ,hr⟩:=h.rel
  exact⟨ρ,hr.put hd (hv ρ)⟩
 obs:=h.obs
 inj:=h.inj
 refs:=fun t i x ht hi=>by
  obtain⟨h1,h2⟩:=OR ht
  rw[K5 h1]
  exact h.refs t i x h2 hi
 rlt:=fun t i ht=>h.rlt t i (OR ht).2
 notr:=Mq h.notr d hnt
 size:=(Cy _ _ _).trans h.size
theorem RelO.bnd(h:RelO Z w0 nn γ os a w){d i:Nat}(hd:d<a.tmps.size){x:Ob}(hi:lk i os.o=some x):RelO Z w0 nn γ (os.bnd d i) (a.put (some d) (x.ref (γ i))) w where
 rel:=by
  obtain⟨ρ,hr⟩:=h.rel
  refine⟨ρ,hr.put (dst:=some d) (v:=Ju) (fun k hk=>by cases hk;exact hd) ?_⟩
  show one _
  cases x<;>rfl
 obs:=h.obs
 inj:=h.inj
 refs:=fun t j y ht hj=>by
  by_cases e:t=d
  ·subst e;simp only[OS.bnd,AR,Option.some.injEq]at ht;subst ht;have:x=y:=AK (hi.symm.trans hj);subst this;exact TE hd
  ·simp only[OS.bnd]at ht;rw[AW e,Bt e]at ht;rw[K5 fun k hk=>by cases hk;exact e]
   exact h.refs t j y ht hj
 rlt:=fun t j ht=>by
  by_cases e:t=d
  ·subst e;simp only[OS.bnd,AR,Option.some.injEq]at ht;subst ht;exact(h.obs i x hi).1
  ·simp only[OS.bnd]at ht;rw[AW e,Bt e]at ht;exact h.rlt t j ht
 notr:=Mq h.notr (some d) fun x r e=>by cases e
 size:=(Cy _ _ _).trans h.size
theorem RelO.new(h:RelO Z w0 nn γ os a w){d:Nat}(hd:d<a.tmps.size){x:Ob}{y:Obj}(hx:F5 x y): ∃γ',RelO Z w0 nn γ' (os.new d x) (a.put (some d) (x.ref w.heap.size)) (w.alloc y):=by
 obtain⟨ρ,hr⟩:=h.rel
 have hext:Ext w (w.alloc y):=Ext.alloc w y;have hb: ∀k z,w.heap[k]? =some z→(w.alloc y).heap[k]? =some z:=fun k z hz=>by
  obtain⟨hk,_⟩:=Array.getElem?_eq_some_iff.1 hz
  exact(hext.block k hk).trans hz
 refine⟨fun i=>if i=os.n then w.heap.size else γ i,⟨ρ,?_⟩,fun i z hi=> ?_,fun i j z z' hi hj hne=> ?_,fun t i z ht hi=> ?_,fun t i ht=> ?_,Mq h.notr (some d) (fun x r e=>by cases e),(Cy _ _ _).trans h.size⟩
 ·refine(hr.ext hext).put (dst:=some d) (v:=Ju) (fun k hk=>by cases hk;exact hd) ?_
  show one _
  cases x<;>rfl
 ·by_cases e:i=os.n
  ·subst e;simp only[OS.new,AR,Option.some.injEq]at hi;subst hi;rw[if_pos rfl];refine⟨Nat.lt_succ_self _,hr.fr.size,y,?_,hx⟩
   show(w.heap.push y)[w.heap.size]? =some y
   simp
  ·simp only[OS.new]at hi;rw[AW e]at hi;rw[if_neg e];obtain⟨h1,h2,u,hu,hz⟩:=h.obs i z hi;exact⟨Nat.lt_succ_of_lt h1,h2,u,hb _ _ hu,hz⟩
 ·have old: ∀i z,i≠os.n→lk i (os.new d x).o=some z→lk i os.o=some z∧γ i<w.heap.size:=fun i z e hi=>by
   simp only[OS.new]at hi;rw[AW e]at hi;obtain⟨_,_,u,hu,_⟩:=h.obs i z hi;exact⟨hi,(Array.getElem?_eq_some_iff.1 hu).1⟩
  by_cases e:i=os.n
  ·rw[if_pos e,if_neg fun e2=>hne (e.trans e2.symm)]
   have:=(old j z' (fun e2=>hne (e.trans e2.symm)) hj).2
   omega
  ·rw[if_neg e]
   have h1:=old i z e hi;by_cases e2:j=os.n
   ·rw[if_pos e2]
    have:=h1.2
    omega
   ·rw[if_neg e2]
    exact h.inj i j z z' h1.1 (old j z' e2 hj).1 hne
 ·have upd: ∀t,(t=d∧i=os.n)∨(t≠d∧lk t os.r=some i)→(a.put (some d) (x.ref w.heap.size)).tmps.getD t undef=z.ref (if i=os.n then w.heap.size else γ i):=by
   rintro t (⟨rfl,rfl⟩|⟨e,ht⟩)
   ·simp only[OS.new,AR,Option.some.injEq]at hi;subst hi;rw[if_pos rfl];exact TE hd
   ·rw[K5 fun k hk=>by cases hk;exact e]
    by_cases e2:i=os.n
    ·subst e2;exact absurd (h.rlt t _ ht) (Nat.lt_irrefl _)
    ·simp only[OS.new]at hi;rw[AW e2]at hi;rw[if_neg e2];exact h.refs t i z ht hi
  refine upd t ?_;simp only[OS.new]at ht;by_cases e:t=d
  ·subst e;rw[AR]at ht;exact .inl ⟨rfl,(AK ht).symm⟩
  ·rw[AW e,Bt e]at ht
   exact .inr ⟨e,ht⟩
 ·simp only[OS.new]at ht;by_cases e:t=d
  ·subst e;rw[AR]at ht;cases ht;exact Nat.lt_succ_self _
  ·rw[AW e,Bt e]at ht
   exact Nat.lt_succ_of_lt (h.rlt t i ht)
structure ObTy (P:Program) (MT ST:TypeId→Bool):Prop where
 mp: ∀t,MT t=true→ ∃kt et,P.underlying t=some (.map kt et)∧P.underlying kt=some .string∧ ∀w,(zeroValue et).run P w= .ok (.int .i64 0) w
 st: ∀t,ST t=true→P.underlying t=some .string
theorem MN(h:RelO Z w0 nn γ os a w){x:Operand}{s:ByteArray}(hs:IY os x=some s):a.eval x= .string s:=by
 obtain⟨ρ,hr⟩:=h.rel
 unfold IY at hs;split at hs
 ·rename_i s' hx
  cases hs;have:=hr.evC hx
  generalize a.eval x=v at this;cases this;rfl
 ·cases hs
theorem RelO.setO(h:RelO Z w0 nn γ os a w){i:Nat}{x x':Ob}{y y':Obj}(hi:lk i os.o=some x)(hy:w.heap[γ i]? =some y)(hx:F5 x y)(hx':F5 x' y')(hsame: ∀g,x'.ref g=x.ref g):RelO Z w0 nn γ { os with o:=(i,x')::rm i os.o } a { w with heap:=w.heap.setIfInBounds (γ i) y' }:=by
 obtain⟨ρ,hr⟩:=h.rel
 have nc: ∀{x:Ob} {y:Obj},F5 x y→ ∀c e f,y≠ .cells c e f:=fun {x y} h c e f he=>by
  subst he;cases x<;>exact h.elim
 have hlt:γ i<w.heap.size:=(Array.getElem?_eq_some_iff.1 hy).1;have old: ∀j z,lk j ((i,x')::rm i os.o)=some z→(j=i∧z=x')∨(j≠i∧lk j os.o=some z):=fun j z hj=>by
  by_cases e:j=i
  ·subst e;rw[AR]at hj;exact .inl ⟨rfl,(AK hj).symm⟩
  ·rw[AW e,Bt e]at hj
   exact .inr ⟨e,hj⟩
 refine⟨⟨ρ,hr.objset hy (nc hx) (nc hx') (h.obs i x hi).2.1⟩,fun j z hj=> ?_,fun j k z z' hj hk hne=> ?_,fun t j z ht hj=> ?_,h.rlt,h.notr,h.size⟩
 ·rcases old j z hj with⟨rfl,rfl⟩|⟨e,hj⟩
  ·refine⟨(h.obs j x hi).1,(h.obs j x hi).2.1,y',?_,hx'⟩
   show(w.heap.setIfInBounds (γ j) y')[γ j]? =_
   rw[Array.getElem?_setIfInBounds]
   simp[hlt]
  ·obtain⟨h1,h2,u,hu,hz⟩:=h.obs j z hj
   refine⟨h1,h2,u,?_,hz⟩
   show(w.heap.setIfInBounds (γ i) y')[γ j]? =_
   rw[Array.getElem?_setIfInBounds_ne fun e2=>h.inj i j x z hi hj (fun e3=>e e3.symm) e2]
   exact hu
 ·have gj: ∃u,lk j os.o=some u:=by
   rcases old j z hj with⟨rfl,_⟩|⟨_,hj⟩
   ·exact⟨x,hi⟩
   ·exact⟨z,hj⟩
  have gk: ∃u,lk k os.o=some u:=by
   rcases old k z' hk with⟨rfl,_⟩|⟨_,hk⟩
   ·exact⟨x,hi⟩
   ·exact⟨z',hk⟩
  obtain⟨u,hu⟩:=gj
  obtain⟨u',hu'⟩:=gk
  exact h.inj j k u u' hu hu' hne
 ·rcases old j z hj with⟨rfl,rfl⟩|⟨e,hj⟩
  ·rw[hsame]
   exact h.refs t j x ht hi
  ·exact h.refs t j z ht hj
theorem jfK{MT ST:TypeId→Bool}(hTy:ObTy P MT ST)(h:RelO Z w0 nn γ os a w){o:Oper}(hd: ∀k,o.dst=some k→k<a.tmps.size){os':OS}(ho:NM MT ST o os=some os'){Q:Exit→Act→World→Prop}:
  o.wp P a w (fun a' w'=> ∃γ',RelO Z w0 nn γ' os' a' w') Q:=by
 have mv: ∀{t:Nat},(o.op= .move (.tmp t)∨o.op= .assign (.tmp t))→JM os t o.dst=some os'→o.wp P a w (fun a' w'=> ∃γ',RelO Z w0 nn γ' os' a' w') Q:=fun {t} hop hm=>by
  unfold JM at hm;simp only[jzd,jze]at hm;obtain⟨⟨i,x⟩,hp,d,hdd,rfl⟩:=hm;obtain⟨h1,h2⟩:=Kh hp;have hv:a.eval (.tmp t)=x.ref (γ i):=h.refs t i x h1 h2;unfold Oper.wp;have:(execOp a.eval o).run P w= .ok (.value (x.ref (γ i))) w:=by
   rcases hop with hop|hop<;>simp[execOp,hop,hv]
  rw[this,Oper.upon_value,hdd]
  exact⟨γ,h.bnd (hd d hdd) h2⟩
 unfold NM at ho;split at ho
 ·exact mv (.inl ‹_›) ho
 ·exact mv (.inr ‹_›) ho
 ·rename_i ty hop
  split at ho
  case isFalse=>cases ho
  simp only[jze]at ho;obtain⟨d,hdd,rfl⟩:=ho;unfold Oper.wp;have:(execOp a.eval o).run P w= .ok (.value (.map (some w.heap.size))) (w.alloc (.map #[] 0)):=by
   simp[execOp,hop,jik]
  rw[this,Oper.upon_value,hdd]
  exact h.new (hd d hdd) (x:= .mp []) (y:= .map #[] 0) rfl
 ·rename_i ty x hop
  split at ho
  case isFalse=>cases ho
  rename_i hst
  simp only[jzd,jze]at ho;obtain⟨s,hs,d,hdd,rfl⟩:=ho;have hv:=MN h hs;unfold Oper.wp;have:(execOp a.eval o).run P w= .ok (.value (.pointer (some ⟨w.heap.size,0,none⟩))) (w.alloc (.stringIter s 0)):=by
   simp[execOp,hop,hv,VA (hTy.st ty hst)]
  rw[this,Oper.upon_value,hdd]
  exact h.new (hd d hdd) (x:= .it s 0) (y:= .stringIter s 0) ⟨rfl,rfl⟩
 ·rename_i ty t key hop
  split at ho
  case isFalse=>cases ho
  rename_i hmt
  simp only[jzd]at ho;obtain⟨k,hk,ho⟩:=ho;split at ho
  case h_2=>cases ho
  rename_i i es hp
  cases ho;obtain⟨h1,h2⟩:=Kh hp
  obtain⟨kt,et,u1,u2,u3⟩:=hTy.mp ty hmt
  obtain⟨_,_,y,hy,hr⟩:=h.obs i _ h2
  cases y<;>try exact hr.elim
  rename_i arr c
  have hm:a.eval (.tmp t)= .map (some (γ i)):=h.refs t i _ h1 h2
  have hkv:=MN h hk;unfold Oper.wp;have:(execOp a.eval o).run P w= .ok (.value (.tuple #[.int .i64 (((CY k es 0).map (·.2)).getD 0),.bool (CY k es 0).isSome])) w:=by
   simp[execOp,hop,hm,hkv,W9 u1 u2 u3 hy hr k]
  rw[this]
  exact⟨γ,h.putV hd (fun x r e=>by cases e) fun ρ=>⟨[_,_],rfl,rfl,fun j x v hx hv=>by
   match j,hx,hv with
   |0,hx,hv=>cases hx;cases hv;exact .int _ _
   |1,hx,hv=>cases hx;cases hv;exact .bool _⟩⟩
 ·rename_i ty t key val hop
  split at ho
  case isFalse=>cases ho
  rename_i hmt
  simp only[jzd]at ho;obtain⟨k,hk,ho⟩:=ho;split at ho
  case h_2=>cases ho
  rename_i i es v hp hvv
  cases ho;obtain⟨h1,h2⟩:=Kh hp
  obtain⟨kt,et,u1,u2,u3⟩:=hTy.mp ty hmt
  obtain⟨_,_,y,hy,hr⟩:=h.obs i _ h2
  cases y<;>try exact hr.elim
  rename_i arr c
  have hm:a.eval (.tmp t)= .map (some (γ i)):=h.refs t i _ h1 h2
  have hkv:=MN h hk;obtain⟨ρ,hrel⟩:=h.rel;have hval:a.eval val= .int .i64 v:=hrel.evI hvv;obtain⟨arr',c',hrun,hes⟩:=Vl u1 u2 hy hr k v;unfold Oper.wp;have:(execOp a.eval o).run P w= .ok .skip { w with heap:=w.heap.setIfInBounds (γ i) (.map arr' c') }:=by
   simp[execOp,hop,hm,hkv,hval,hrun]
  rw[this]
  exact⟨γ,(h.setO h2 hy hr (x':= .mp (KL k v es)) (y':= .map arr' c') hes fun g=>rfl).putV hd (fun x r e=>by cases e) fun ρ=>⟨[],rfl,rfl,fun j x v hx=>by simp at hx⟩⟩
 ·rename_i t hop
  split at ho
  case h_2=>cases ho
  rename_i i s p hp
  obtain⟨h1,h2⟩:=Kh hp
  obtain⟨_,_,y,hy,hr⟩:=h.obs i _ h2
  cases y<;>try exact hr.elim
  rename_i s' p'
  obtain⟨rfl,rfl⟩:=hr
  have hm:a.eval (.tmp t)= .pointer (some ⟨γ i,0,none⟩):=h.refs t i _ h1 h2
  unfold Oper.wp;split at ho
  ·rename_i hlt
   cases ho;have:(execOp a.eval o).run P w= .ok (.value (.tuple #[.bool true,.int .i64 p',.int .i32 (Utf8.decode s' p').1])) { w with heap:=w.heap.setIfInBounds (γ i) (.stringIter s' (p'+(Utf8.decode s' p').2)) }:=by
    simp[execOp,hop,hm,jhY hy hlt]
   rw[this]
   exact⟨γ,(h.setO h2 hy (x:= .it s' p') ⟨rfl,rfl⟩ (x':= .it s' (p'+(Utf8.decode s' p').2)) (y':= .stringIter s' (p'+(Utf8.decode s' p').2)) ⟨rfl,rfl⟩ fun g=>rfl).putV hd (fun x r e=>by cases e) fun ρ=>⟨[_,_,_],rfl,rfl,fun j x v hx hv=>by
    match j,hx,hv with
    |0,hx,hv=>cases hx;cases hv;exact .bool _
    |1,hx,hv=>cases hx;cases hv;exact .int _ _
    |2,hx,hv=>cases hx;cases hv;exact .int _ _⟩⟩
  ·rename_i hlt
   cases ho;have:(execOp a.eval o).run P w= .ok (.value (.tuple #[.bool false])) w:=by
    simp[execOp,hop,hm,jkw hy hlt]
   rw[this]
   exact⟨γ,h.putV hd (fun x r e=>by cases e) fun ρ=>⟨[_],rfl,rfl,fun j x v hx hv=>by
    match j,hx,hv with
    |0,hx,hv=>cases hx;cases hv;exact .bool _⟩⟩
 ·cases ho
def YF(o:Oper):Bool:=match o.op with| .makeMap .. =>true| .range .. =>true| .lookup .. =>true| .mapUpdate .. =>true| .next .. =>true|_=>false
variable (T) in
def G0(cal:FuncId→List A→Option R)(sA:FuncId→Option Nat)(calA:FuncId→Nat→Nat→List D→List A→Option (Nat×List D))(MT ST:TypeId→Bool):List Oper→OS→Option OS
 |[],os=>some os
 |o::r,os=>if o.guard.isSome then none else match NM MT ST o os with
  |some os'=>G0 cal sA calA MT ST r os'
  |none=>(H0 T cal sA calA o os.s).bind fun s=>G0 cal sA calA MT ST r { os with s:=s,r:=Hi o.dst.toList os.r }
def Iz{α:Type}(os:OS)(k:OS→α):α:=k os
theorem J1{α:Type}(os:OS)(k:OS→α):Iz os k=k os:=rfl
def OS.keep(l:List Nat)(os:OS):OS:={ os with s:=Gb l os.s }
def J2(l:List Nat)(f:OS→Option (Exit×OS)):Nat→OS→Option (Exit×OS)
 |0,_=>none
 |n+1,os=>(f os).bind fun p=>match p.1 with| .normal=>Iz (p.2.keep l) fun os=>J2 l f n os|_=>some p
variable (T) in
def Ci(cal:FuncId→List A→Option R)(sA:FuncId→Option Nat)(calA:FuncId→Nat→Nat→List D→List A→Option (Nat×List D))(MT ST:TypeId→Bool)(pln:FE)(l:List Nat)(N:Nat):Code→OS→Option (Exit×OS)
 | .skip,os=>some (.normal,os)
 | .region id ops draw,os=>
  if ops.toList.any YF then (if draw then none else (G0 T cal sA calA MT ST ops.toList os).bind fun s=>Iz (s.keep l) fun s=>some (.normal,s))
  else (evC T cal sA calA pln l N (.region id ops draw) os.s).bind fun p=>Iz (OS.keep l { os with s:=p.2,r:=Hi (Hy ops.toList) os.r }) fun s=>some (p.1,s)
 | .seq x y,os=>(Ci cal sA calA MT ST pln l N x os).bind fun p=>match p.1 with| .normal=>Ci cal sA calA MT ST pln l N y p.2|_=>some p
 | .cond c x y,os=>match os.s.evB c with|some true=>Ci cal sA calA MT ST pln l N x os|some false=>Ci cal sA calA MT ST pln l N y os|none=>none
 | .block id c,os=>(Ci cal sA calA MT ST pln l N c os).map fun p=>match p.1 with| .exit j=>if j=id then (.normal,p.2) else p|_=>p
 | .loop c,os=>Iz (os.keep l) fun os=>J2 l (Ci cal sA calA MT ST pln l N c) N os
 | .exit id,os=>some (.exit id,os)
 | .ret,os=>some (.ret,os)
 |_,_=>none
theorem RelO.weaken(h:RelO Z w0 nn γ os a w){s0:St}(hle:s0.le os.s):RelO Z w0 nn γ { os with s:=s0 } a w where
 rel:=by
  obtain⟨ρ,hr⟩:=h.rel
  exact⟨ρ,hr.weaken hle⟩
 obs:=h.obs
 inj:=h.inj
 refs:=h.refs
 rlt:=h.rlt
 notr:=fun x r hh=>h.notr x r (GG hle.1 _ _ hh)
 size:=h.size
theorem jjF{nn:Nat}{pins:List Nat}{ops:List Oper}(h:CZ nn [] ops=true)(hp: ∀d∈Hy ops,d∉pins):CZ nn pins ops=true:=by
 unfold CZ at*;rw[jzy]at*;intro o ho;have h1:=h o ho;cases hd:o.dst with
 |none=>rfl
 |some d=>
  rw[hd]at h1
  have hn:=hp d (List.mem_filterMap.2 ⟨o,ho,hd⟩)
  have h1:(decide (d<nn)&&(decide (d<YS)&& !([]:List Nat).contains d))=true:=h1
  show (decide (d<nn)&&(decide (d<YS)&& !pins.contains d))=true
  rw[Bool.and_eq_true,Bool.and_eq_true]at h1 ⊢
  refine⟨h1.1,h1.2.1,?_⟩
  rw[Bool.not_eq_true',←Bool.not_eq_true,List.contains_iff_mem]
  exact hn
theorem Sv(h:RelO Z w0 nn γ os a w){ρ:As}(hr:Rel (fun _=>False) Z w0 ρ os.s a w){ds:List Nat}{s':St}{a':Act}{w':World}(hg:BM (FM ρ Z w nn ((os.r.map (·.1)).filter fun t=> !ds.contains t) a) (fun s=>s=s') a' w'):
  RelO Z w0 nn γ { os with s:=s',r:=Hi ds os.r } a' w':=by
 obtain⟨M1,Z1,w1,ρ',st',hL,h1,h2,rfl⟩:=hg
 obtain⟨rfl,rfl,rfl⟩:=hL.plain rfl
 refine jgO h hr h1 h2 (fun x r hh=> ?_) fun t i ht hn=> ?_
 ·obtain⟨Y,R,D,hY,_⟩:=hL.y x r hh
  cases hY
 ·refine hL.pins t ?_
  show t∈(os.r.map (·.1)).filter fun t=> !ds.contains t
  rw[List.mem_filter]
  exact⟨Ll ht,by simpa using hn⟩
variable {cal:FuncId→List A→Option R} {sA:FuncId→Option Nat} {calA:FuncId→Nat→Nat→List D→List A→Option (Nat×List D)}
theorem MQ(hT:AM P T)(hc: ∀g aa r,cal g aa=some r→CallsF P g aa r)(hA: ∀g sz n cs aa m cs',calA g sz n cs aa=some (m,cs')→CallsA P g sz n cs aa m cs'){MT ST:TypeId→Bool}(hTy:ObTy P MT ST){ops:List Oper}(hok:CZ nn [] ops=true){Q:Exit→Act→World→Prop}:
  ∀(l:List Oper),(∀o∈l,o∈ops)→ ∀{γ:Nat→Nat} {os os':OS} {a:Act} {w:World},G0 T cal sA calA MT ST l os=some os'→RelO Z w0 nn γ os a w→(∀γ' a' w',RelO Z w0 nn γ' os' a' w'→Q .normal a' w')→wpList P ops.toArray Q l a w
 |[],_,γ,os,os',a,w,h,hr,hQ=>by
  simp only[G0,Option.some.injEq]at h;subst h;exact hQ γ a w hr
 |o::r,hm,γ,os,os',a,w,h,hr,hQ=>by
  simp only[G0]at h;split at h
  ·cases h
  rename_i hg
  have hg:o.guard=none:=by simpa using hg
  have hdo: ∀d,o.dst=some d→d<nn∧d<YS:=fun d hd=>by
   have:=Ly (X:=FM (fun _=>none) Z w nn [] a) (ops:=ops) hok (hm o (by simp)) hd
   exact⟨this.1,this.2.1⟩
  unfold wpList;have hw:Region.wanted o (yielded ops.toArray a.tmps)=true:=by simp[Region.wanted,hg]
  rw[if_pos hw]
  left
  split at h
  ·rename_i os1 h1
   refine Oper.wp_mono (fun a' w' hgo=> ?_) (jfK hTy hr (fun d hd=>by rw[hr.size];exact(hdo d hd).1) h1)
   obtain⟨γ',hr'⟩:=hgo
   exact MQ hT hc hA hTy hok r (fun o' ho'=>hm o' (by simp[ho'])) h hr' hQ
  ·simp only[jzd]at h;obtain⟨s,hs,h⟩:=h;obtain⟨ρ,hrel⟩:=hr.rel;have hop:=MH (X:=FM ρ Z w nn ((os.r.map (·.1)).filter fun t=> !o.dst.toList.contains t) a) (Q:=Q) hT (fun Y hY=>by cases hY) (SG hrel hr.notr) hrel.rebase hr.size (fun d hd=>⟨(hdo d hd).1,(hdo d hd).2,by simp[FM,hd]⟩) (K:=fun s'=>s'=s) (KY hc hA hs rfl)
   refine Oper.wp_mono (fun a' w' hgo=> ?_) hop
   exact MQ hT hc hA hTy hok r (fun o' ho'=>hm o' (by simp[ho'])) h (Sv hr hrel hgo) hQ
theorem jds(hT:AM P T)(hm:P.follows .mixedOrders=true)(hc: ∀g aa r,cal g aa=some r→CallsF P g aa r)(hA: ∀g sz n cs aa m cs',calA g sz n cs aa=some (m,cs')→CallsA P g sz n cs aa m cs'){MT ST:TypeId→Bool}(hTy:ObTy P MT ST){pln:FE}{l:List Nat}{N:Nat}:
  ∀(c:Code),BG nn [] c=true→B2 pln c=true→ ∀{γ:Nat→Nat} {os:OS} {p:Exit×OS} {a:Act} {w:World},Ci T cal sA calA MT ST pln l N c os=some p→RelO Z w0 nn γ os a w→c.wp P (fun e a' w'=>e=p.1∧ ∃γ',RelO Z w0 nn γ' p.2 a' w') a w:=by
 intro c
 induction c with
 |skip=>
  intro _ _ γ os p a w h hr;simp only[Ci,Option.some.injEq]at h;subst h;exact wp_skip ⟨rfl,γ,hr⟩
 |region id ops draw=>
  intro hk hp γ os p a w h hr;simp only[Ci]at h;split at h
  ·split at h
   ·cases h
   rename_i hdr
   simp only[jzd,J1,Option.some.injEq]at h;obtain⟨os',hos,rfl⟩:=h;have hl:ops=ops.toList.toArray:=by simp
   have hdr:draw=false:=by simpa using hdr
   rw[hl,hdr]
   exact wp_region_lit (MQ hT hc hA hTy (ops:=ops.toList) hk ops.toList (fun o ho=>ho) hos hr fun γ' a' w' h'=>⟨rfl,γ',h'.weaken (Hs l _)⟩)
  ·simp only[jzd,J1,Option.some.injEq]at h;obtain⟨⟨e,s'⟩,hs,rfl⟩:=h;obtain⟨ρ,hrel⟩:=hr.rel;have hkp:BG (FM ρ Z w nn ((os.r.map (·.1)).filter fun t=> !(Hy ops.toList).contains t) a).n (FM ρ Z w nn ((os.r.map (·.1)).filter fun t=> !(Hy ops.toList).contains t) a).pin (.region id ops draw)=true:=by
    refine jjF hk fun d hd hq=> ?_
    have hq:d∈(os.r.map (·.1)).filter fun t=> !(Hy ops.toList).contains t:=hq
    rw[List.mem_filter]at hq
    simp at hq;exact hq.2 hd
   have hwp:=ND hc hA (.region id ops draw) hp os.s (e,s') (fun e' s=>e'=e∧s=s') hs ⟨rfl,rfl⟩
   have hcs:=Dc (X:=FM ρ Z w nn ((os.r.map (·.1)).filter fun t=> !(Hy ops.toList).contains t) a) hT (fun Y hY=>by cases hY) hm (.region id ops draw) (fun e' s=>e'=e∧s=s') a w hkp ⟨_,_,_,ρ,os.s,SG hrel hr.notr,hrel.rebase,hr.size,hwp⟩
   refine hcs.mono' fun e' a' w' hg=> ?_
   obtain⟨M1,Z1,w1,ρ',st',hL,h1,h2,rfl,rfl⟩:=hg
   exact⟨rfl,γ,(Sv hr hrel ⟨M1,Z1,w1,ρ',st',hL,h1,h2,rfl⟩).weaken (Hs l _)⟩
 |seq x y ihx ihy=>
  intro hk hp γ os p a w h hr;simp only[BG,AC]at hk;simp only[B2,AC]at hp;simp only[Ci,jzd]at h;obtain⟨⟨e,s⟩,h1,h2⟩:=h;refine wp_seq ((ihx hk.1 hp.1 h1 hr).mono' fun e' a' w' hg=> ?_)
  obtain⟨rfl,γ',hr'⟩:=hg
  cases e' with
  |normal=>exact ihy hk.2 hp.2 h2 hr'
  |_=>
   simp only[Option.some.injEq]at h2;subst h2;exact⟨rfl,γ',hr'⟩
 |cond c x y ihx ihy=>
  intro hk hp γ os p a w h hr;simp only[BG,AC]at hk;simp only[B2,AC]at hp;simp only[Ci]at h;obtain⟨ρ,hrel⟩:=hr.rel;split at h
  ·rename_i hb
   exact wp_cond_split (hrel.evB hb) (fun _=>ihx hk.1 hp.1 h hr) (fun e=>by cases e)
  ·rename_i hb
   exact wp_cond_split (hrel.evB hb) (fun e=>by cases e) (fun _=>ihy hk.2 hp.2 h hr)
  ·cases h
 |block id c ih=>
  intro hk hp γ os p a w h hr;simp only[BG]at hk;simp only[B2]at hp;simp only[Ci,jze]at h;obtain⟨⟨e,s⟩,h1,h2⟩:=h;refine wp_block ((ih hk hp h1 hr).mono' fun e' a' w' hg=> ?_)
  obtain⟨rfl,γ',hr'⟩:=hg
  cases e' with
  |exit j=>
   simp only[Exit.inBlock];simp only at h2;by_cases hj:j=id
   ·rw[if_pos hj]at h2 ⊢
    subst h2;exact⟨rfl,γ',hr'⟩
   ·rw[if_neg hj]at h2 ⊢
    subst h2;exact⟨rfl,γ',hr'⟩
  |_=>
   simp only at h2;subst h2;exact⟨rfl,γ',hr'⟩
 |loop c ih=>
  intro hk hp γ os p a w h hr;simp only[BG]at hk;simp only[B2]at hp;simp only[Ci,J1]at h;intro b k cs;have key: ∀(m:Nat) (γ:Nat→Nat) (os:OS) (a:Act) (w:World),J2 l (Ci T cal sA calA MT ST pln l N c) m os=some p→RelO Z w0 nn γ os a w→
    ∃e a' w',(e=p.1∧ ∃γ',RelO Z w0 nn γ' p.2 a' w')∧Arrives P (lone (b.at a (.code c:: .inLoop c::k)) cs w) b k cs e a' w':=by
   intro m
   induction m with
   |zero=>intro γ os a w h;cases h
   |succ m ihm=>
    intro γ os a w h hr;simp only[J2,jzd]at h;obtain⟨⟨e1,os1⟩,h1,h2⟩:=h;obtain⟨e,a1,w1,⟨rfl,γ1,hr1⟩,harr⟩:=ih hk hp h1 hr b (.inLoop c::k) cs;cases e with
    |normal=>
     simp only[J1]at h2;obtain⟨e2,a2,w2,hq2,harr2⟩:=ihm γ1 _ a1 w1 h2 (hr1.weaken (Hs l os1.s));exact⟨e2,a2,w2,hq2,.of_steps (Steps.trans harr (.one step_inLoop)) harr2⟩
    |_=>
     simp only[Option.some.injEq]at h2;subst h2;exact⟨_,a1,w1,⟨rfl,γ1,hr1⟩,.pass (x:= .inLoop c) rfl (fun _ _=> .inl (by simp)) harr⟩
  obtain⟨e,a',w',hq,harr⟩:=key N γ _ a w h (hr.weaken (Hs l os.s))
  exact⟨e,a',w',hq,.of_steps (.one step_loop) harr⟩
 |exit id=>
  intro _ _ γ os p a w h hr;simp only[Ci,Option.some.injEq]at h;subst h;exact wp_exit ⟨rfl,γ,hr⟩
 |ret=>
  intro _ _ γ os p a w h hr;simp only[Ci,Option.some.injEq]at h;subst h;exact wp_ret ⟨rfl,γ,hr⟩
 |_=>
  intro _ _ γ os p a w h hr;simp only[Ci]at h;cases h
end
def OS.init(aa:List A):OS:=⟨St.init aa,0,[],[]⟩
theorem Xb{P:Program}{T:Au}(hT:AM P T){f:FuncId}{fn:Func}{c:Code}{aa:List A}{res:R}{p:Exit×OS}(hf:P.funcs[f]? =some fn)(hb:fn.body=some c)
  (hname : (fn.name == "runtime.NumGoroutine") = false) (hn : aa.length ≤ fn.ntmps)
  (hw: ∀(Z:Addr→Prop) (w:World) (a:Act),RelO Z w fn.ntmps (fun _=>0) (OS.init aa) a w→c.wp P (fun e a' w'=>e=p.1∧ ∃γ',RelO Z w fn.ntmps γ' p.2 a' w') a w)
  (hend:p.1= .ret∨p.1= .normal) {v:V} (hv:p.2.s.res T fn.results.toList=some v) (hl:res.rows.length≤1) (hfit:fitV p.2.s (!res.rows.isEmpty) v res):CallsF P f aa res:=by
 refine⟨⟨fn,hf,by rw[hb];rfl,hname⟩,fun w Z vals hZ hvals=> ?_⟩
 have hlen:vals.length=aa.length:=hvals.1.symm
 refine calls_of_wp hf hb ?_;have hsz:(vals.toArray++Array.replicate (fn.ntmps - vals.toArray.size) undef).size=fn.ntmps:=by simp;omega
 have hrel:Rel (fun _=>False) Z w (fun _=>none) (St.init aa) { tmps:=vals.toArray++Array.replicate (fn.ntmps - vals.toArray.size) undef,defers:=[] } w:=
  {fr:=⟨rfl,Az _,rfl,rfl,Az _,fun a v _ h=>h,fun _ _=>rfl,fun _ _ _=>rfl⟩
   heap:=⟨⟨fun i o hi=>(by cases hi),fun i i' o o' hi=>(by cases hi),fun i o hi=>(by cases hi)⟩,fun i b hb=>(by cases hb)⟩
   mine:=fun i o ad hi=>(by cases hi)
   out:=hZ
   mz:=fun ad h=>h.elim
   tmps:=fun t v hv=>by
    obtain⟨_,x,hx,hr⟩:=GP aa vals 0 hvals t v hv
    have ht:t<vals.length:=by simpa using (jzg.1 hx).1
    simp only[Nat.sub_zero]at hx;have:(vals.toArray++Array.replicate (fn.ntmps - vals.toArray.size) undef).getD t undef=x:=by
     rw[BV,Array.getElem?_append_left (by simpa using ht)]
     simp[hx]
    rw[this]
    exact hr
   defers:=rfl }
 have h0:RelO Z w fn.ntmps (fun _=>0) (OS.init aa) { tmps:=vals.toArray++Array.replicate (fn.ntmps - vals.toArray.size) undef,defers:=[] } w:=
  ⟨⟨_,hrel⟩,fun i x hi=>(by cases hi),fun i j x y hi=>(by cases hi),fun t i x ht=>(by cases ht),fun t i ht=>(by cases ht),fun x r hh=>absurd hh (GL aa 0 YS x r),hsz⟩
 refine(hw Z w _ h0).mono' fun e a' w' hg=> ?_
 obtain⟨rfl,γ',hr'⟩:=hg
 obtain⟨ρ,h1⟩:=hr'.rel
 obtain⟨x,hx,hrx⟩:=IN (P:=P) hT h1 hv
 have hres:=Tn h1 hl hfit hrx;have hbel:Ext w w':=⟨⟨h1.fr.os,h1.fr.tape,h1.fr.output,h1.fr.size,fun k hk=>h1.fr.blk k hk (fun _ _ h=>h)⟩,h1.fr.drawn⟩
 rcases hend with hend|hend<;>rw[hend]
 ·exact⟨h1.defers,x,hx,x,rfl,hbel,hres⟩
 ·exact⟨h1.defers,x,hx,x,rfl,hbel,hres⟩
end Go.Va
namespace Go.Va
structure FB where
 fn:Func
 c:Code
 pln:FE
 kl:List Nat:=[]
 ob:Bool:=false
abbrev FBs:=FuncId→Option FB
def Lx(e:Exit):Bool:=match e with| .ret=>true| .normal=>true|_=>false
mutual
def Gv(T:Au)(MT ST:TypeId→Bool)(ext:FuncId→List A→Option R)(exA:FuncId→Nat→Nat→List D→List A→Option (Nat×List D))(sA:FuncId→Option Nat)(B:FBs)(N:Nat):Nat→FuncId→List A→Option R
 |0,_,_=>none
 |n+1,f,aa=>GQ fA aa fun aa=>
  match ext f aa with
  |some r=>some r
  |none=>(B f).bind fun b=>if aa.length≤b.fn.ntmps then (if b.ob then (Ci T (Gv T MT ST ext exA sA B N n) sA (evA T MT ST ext exA sA B N n) MT ST b.pln b.kl N b.c (OS.init aa)).map fun p=>(p.1,p.2.s) else evC T (Gv T MT ST ext exA sA B N n) sA (evA T MT ST ext exA sA B N n) b.pln b.kl N b.c (St.init aa)).bind fun p=>if Lx p.1 then (p.2.res T b.fn.results.toList).bind fun v=>(LF p.2 v).bind fun r=>if r.rows.length≤1 then fR r fun r=>some r else none else none else none
def evA(T:Au)(MT ST:TypeId→Bool)(ext:FuncId→List A→Option R)(exA:FuncId→Nat→Nat→List D→List A→Option (Nat×List D))(sA:FuncId→Option Nat)(B:FBs)(N:Nat):Nat→FuncId→Nat→Nat→List D→List A→Option (Nat×List D)
 |0,_,_,_,_,_=>none
 |n+1,f,sz,k,cs,aa=>DK cs fun cs=>GQ fA aa fun aa=>
  match exA f sz k cs aa with
  |some r=>some r
  |none=>(B f).bind fun b=>if aa.length+1≤b.fn.ntmps then (evC T (Gv T MT ST ext exA sA B N n) sA (evA T MT ST ext exA sA B N n) b.pln b.kl N b.c (St.initA k sz cs aa)).bind fun p=>if Lx p.1 then (match p.2.res T b.fn.results.toList with
   |some (.u (.c (.sl j 0 m)))=>(match lk j p.2.h with|some (.row z cs' true)=>if z=sz then DK cs' fun cs'=>EW m fun m=>some (m,cs') else none|_=>none)
   |_=>none) else none else none
end
structure FBs.Ok (P:Program) (B:FBs):Prop where
 fn : ∀ f b, B f = some b → P.funcs[f]? = some b.fn ∧ b.fn.body = some b.c ∧ (b.fn.name == "runtime.NumGoroutine") = false ∧ BG b.fn.ntmps [] b.c = true ∧ B2 b.pln b.c = true
theorem K7{e:Exit}(h:Lx e=true):e= .ret∨e= .normal:=by
 cases e<;>first|exact .inl rfl|exact .inr rfl|cases h
theorem Ts{P:Program}{T:Au}(hT:AM P T)(hm:P.follows .mixedOrders=true){MT ST:TypeId→Bool}(hTy:ObTy P MT ST){ext:FuncId→List A→Option R}{exA:FuncId→Nat→Nat→List D→List A→Option (Nat×List D)}{sA:FuncId→Option Nat}{B:FBs}{N:Nat}(hext: ∀g aa r,ext g aa=some r→CallsF P g aa r)(hexA: ∀g sz k cs aa m cs',exA g sz k cs aa=some (m,cs')→CallsA P g sz k cs aa m cs')(hB:B.Ok P): ∀n,
  (∀g aa r,Gv T MT ST ext exA sA B N n g aa=some r→CallsF P g aa r)∧(∀g sz k cs aa m cs',evA T MT ST ext exA sA B N n g sz k cs aa=some (m,cs')→CallsA P g sz k cs aa m cs')
 |0=>⟨fun g aa r h=>by simp[Gv]at h,fun g sz k cs aa m cs' h=>by simp[evA]at h⟩
 |n+1=>by
  obtain⟨hF,hA⟩:=Ts hT hm hTy hext hexA hB n
  refine⟨fun g aa r h=> ?_,fun g sz k cs aa m cs' h=> ?_⟩
  ·simp only[Gv,II (f:=fA) SV]at h;split at h
   ·rename_i r' he
    cases h;exact hext _ _ _ he
   ·simp only[jzd]at h;obtain⟨b,hb,h⟩:=h;split at h
    case isFalse=>cases h
    rename_i hlen
    simp only[jzd]at h;obtain⟨p,hp,h⟩:=h;split at h
    case isFalse=>cases h
    rename_i hend
    simp only[jzd]at h;obtain⟨v,hv,r',hr,h⟩:=h;split at h
    case isFalse=>cases h
    rename_i hrl
    simp only[jfy]at h;cases h;obtain⟨b1,b2,b3,b4,b5⟩:=hB.fn g b hb;split at hp
    ·simp only[jze]at hp;obtain⟨q,hq,rfl⟩:=hp;exact Xb hT b1 b2 b3 hlen (fun Z w a h0=>jds hT hm hF hA hTy b.c b4 b5 hq h0) (K7 hend) hv hrl (N0 hr hrl)
    ·refine Ak hT hm b1 b2 b3 hlen b4 ?_;refine ND hF hA b.c b5 _ p _ hp ?_
     exact⟨K7 hend,v,hv,hrl,N0 hr hrl⟩
  ·simp only[evA,FC,GZ,II (f:=fA) SV]at h;split at h
   ·rename_i r' he
    cases h;exact hexA _ _ _ _ _ _ _ he
   simp only[jzd]at h;obtain⟨b,hb,h⟩:=h;split at h
   case isFalse=>cases h
   rename_i hlen
   simp only[jzd]at h;obtain⟨p,hp,h⟩:=h;split at h
   case isFalse=>cases h
   rename_i hend
   split at h
   ·rename_i j m' hres
    split at h
    ·rename_i z cs2 hl
     split at h
     ·rename_i hz
      subst hz;cases h;obtain⟨b1,b2,b3,b4,b5⟩:=hB.fn g b hb;refine HR hT hm b1 b2 b3 hlen b4 ?_;refine ND hF hA b.c b5 _ p _ hp ?_;exact⟨K7 hend,j,hres,hl⟩
     ·cases h
    ·cases h
   ·cases h
mutual
def CP:D→D→Bool
 | .int k n,.int k' n'=>decide (k=k')&&decide (n=n')
 | .bool b,.bool b'=>b==b'
 | .str s,.str s'=>decide (s.data.toList=s'.data.toList)
 | .slice n cs,.slice n' cs'=>Nat.beq n n'&&Dg cs cs'
 | .ref cs,.ref cs'=>Dg cs cs'
 | .fn f cs,.fn f' cs'=>Nat.beq f f'&&Dg cs cs'
 | .nilFn,.nilFn=>true
 | .nilPtr,.nilPtr=>true
 | .iface t cs,.iface t' cs'=>Nat.beq t t'&&Dg cs cs'
 |_,_=>false
def Dg:List D→List D→Bool
 |[],[]=>true
 |x::r,y::s=>CP x y&&Dg r s
 |_,_=>false
end
mutual
theorem MG: ∀{x y:D},CP x y=true→x=y
 | .int k n,y,h=>by
  cases y<;>simp[CP]at h
  rw[h.1,h.2]
 | .bool b,y,h=>by
  cases y<;>simp[CP]at h
  rw[h]
 | .str s,y,h=>by
  cases y<;>simp[CP]at h
  rename_i s'
  obtain⟨a⟩:=s
  obtain⟨b⟩:=s'
  simp only at h;rw[h]
 | .slice n cs,y,h=>by
  cases y<;>simp[CP]at h
  rw[h.1,E8 h.2]
 | .ref cs,y,h=>by
  cases y<;>simp[CP]at h
  rw[E8 h]
 | .fn f cs,y,h=>by
  cases y<;>simp[CP]at h
  rw[h.1,E8 h.2]
 | .nilFn,y,h=>by
  cases y<;>simp[CP]at h
  rfl
 | .nilPtr,y,h=>by
  cases y<;>simp[CP]at h
  rfl
 | .iface t cs,y,h=>by
  cases y<;>simp[CP]at h
  rw[h.1,E8 h.2]
 | .lit x,y,h=>by cases y<;>simp[CP]at h
 | .any,y,h=>by cases y<;>simp[CP]at h
theorem E8: ∀{l m:List D},Dg l m=true→l=m
 |[],[],_=>rfl
 |[],_::_,h=>by simp[Dg]at h
 |_::_,[],h=>by simp[Dg]at h
 |x::r,y::s,h=>by
  simp only[Dg,AC]at h;rw[MG h.1,E8 h.2]
end
def JV:A→A→Bool
 | .c x,.c y=>CP x y
 | .agg xs,.agg ys=>Dg xs ys
 |_,_=>false
theorem PB{x y:A}(h:JV x y=true):x=y:=by
 cases x<;>cases y<;>simp only[JV,Bool.false_eq_true]at h
 ·rw[MG h]
 ·rw[E8 h]
def E9{α:Type}(e:α→α→Bool):List α→List α→Bool
 |[],[]=>true
 |x::r,y::s=>e x y&&E9 e r s
 |_,_=>false
theorem IE{α:Type}{e:α→α→Bool}(he: ∀x y,e x y=true→x=y): ∀{l m:List α},E9 e l m=true→l=m
 |[],[],_=>rfl
 |[],_::_,h=>by simp[E9]at h
 |_::_,[],h=>by simp[E9]at h
 |x::r,y::s,h=>by
  simp only[E9,AC]at h;rw[he _ _ h.1,IE he h.2]
def JI:RC→RC→Bool
 | .d x,.d y=>CP x y
 | .own a b cs,.own a' b' cs'=>Nat.beq a a'&&(Nat.beq b b'&&Dg cs cs')
 |_,_=>false
theorem Qz{x y:RC}(h:JI x y=true):x=y:=by
 cases x<;>cases y<;>simp[JI]at h
 ·rw[MG h]
 ·rw[h.1,h.2.1,E8 h.2.2]
def I8:RU→RU→Bool
 | .c x,.c y=>JI x y
 | .agg xs,.agg ys=>E9 JI xs ys
 |_,_=>false
theorem UN{x y:RU}(h:I8 x y=true):x=y:=by
 cases x<;>cases y<;>simp only[I8,Bool.false_eq_true]at h
 ·rw[Qz h]
 ·rw[IE (fun _ _=>Qz) h]
def LE:R→R→Bool
 | .u x,.u y=>I8 x y
 | .tup xs,.tup ys=>E9 I8 xs ys
 |_,_=>false
theorem jcq{x y:R}(h:LE x y=true):x=y:=by
 cases x<;>cases y<;>simp only[LE,Bool.false_eq_true]at h
 ·rw[UN h]
 ·rw[IE (fun _ _=>UN) h]
abbrev Tbl:=List (Nat×List (List A×R))
def Kx(aa:List A):List (List A×R)→Option R
 |[]=>none
 |(bb,r)::l=>if E9 JV aa bb then some r else Kx aa l
def Tbl.find(aa:List A)(f:Nat):Tbl→Option R
 |[]=>none
 |(g,l)::t=>if Nat.beq g f then (match Kx aa l with|some r=>some r|none=>Tbl.find aa f t) else Tbl.find aa f t
def Tbl.ext(t:Tbl)(f:FuncId)(aa:List A):Option R:=t.find aa f
def Tbl.Ok(P:Program)(t:Tbl):Prop:= ∀g∈t,∀e∈g.2,CallsF P g.1 e.1 e.2
theorem RF{aa:List A}{r:R}: ∀{l:List (List A×R)},Kx aa l=some r→(aa,r)∈l
 |(bb,x)::l,h=>by
  unfold Kx at h;split at h
  ·rename_i e
   cases h;rw[IE (fun _ _=>PB) e]
   exact List.mem_cons_self ..
  ·exact List.mem_cons_of_mem _ (RF h)
theorem Tbl.ext_ok{P:Program}: ∀{t:Tbl},t.Ok P→ ∀g aa r,t.ext g aa=some r→CallsF P g aa r
 |[],_,g,aa,r,h=>by cases h
 |(g',l)::t,ht,g,aa,r,h=>by
  have hr:Tbl.Ok P t:=fun x hx=>ht x (List.mem_cons_of_mem _ hx)
  unfold Tbl.ext Tbl.find at h;split at h
  ·rename_i e
   have e:g'=g:=by simpa using e
   subst e;split at h
   ·rename_i x hx
    cases h;exact ht _ (List.mem_cons_self ..) _ (RF hx)
   ·exact Tbl.ext_ok hr g' aa r h
  ·exact Tbl.ext_ok hr g aa r h
theorem Tbl.ok_nil{P:Program}:Tbl.Ok P []:=fun g hg=>by cases hg
def Ents(P:Program)(f:FuncId):List (List A×R)→Prop
 |[]=>True
 |e::l=>CallsF P f e.1 e.2∧Ents P f l
theorem Ents.mem{P:Program}{f:FuncId}: ∀{l:List (List A×R)},Ents P f l→ ∀e∈l,CallsF P f e.1 e.2
 |e::l,h,x,hx=>by
  rcases jzn.1 hx with rfl|hx
  ·exact h.1
  ·exact Ents.mem h.2 x hx
theorem Tbl.ok_cons{P:Program}{f:FuncId}{l:List (List A×R)}{t:Tbl}(h:Ents P f l)(ht:t.Ok P):Tbl.Ok P ((f,l)::t):=fun g hg=>by
 rcases jzn.1 hg with rfl|hg
 ·exact h.mem
 ·exact ht g hg
theorem Tbl.ok_app{P:Program}{s t:Tbl}(hs:s.Ok P)(ht:t.Ok P):Tbl.Ok P (s++t):=fun g hg=>by
 rcases List.mem_append.1 hg with h|h
 ·exact hs g h
 ·exact ht g h
def JD(x:Option R)(r:R):Bool:=match x with|some y=>LE y r|none=>false
theorem Pp{x:Option R}{r:R}(h:JD x r=true):x=some r:=by
 unfold JD at h;split at h
 ·rw[jcq h]
 ·cases h
def Tbl.runs(ev:FuncId→List A→Option R)(t:Tbl):Bool:=t.all fun g=>g.2.all fun e=>JD (ev g.1 e.1) e.2
theorem Tbl.runs_ok{P:Program}{ev:FuncId→List A→Option R}(hev: ∀g aa r,ev g aa=some r→CallsF P g aa r){t:Tbl}(h:t.runs ev=true):t.Ok P:=fun g hg e he=>by
 have:=jzy.1 (jzy.1 h g hg) e he
 exact hev _ _ _ (Pp this)
structure KeyA where
 sz:Nat
 k:Nat
 cs:List D
 aa:List A
def LG(x y:KeyA):Bool:=Nat.beq x.sz y.sz&&(Nat.beq x.k y.k&&(Dg x.cs y.cs&&E9 JV x.aa y.aa))
theorem je7{x y:KeyA}(h:LG x y=true):x=y:=by
 obtain⟨a,b,c,d⟩:=x
 obtain⟨a',b',c',d'⟩:=y
 simp only[LG,AC,Nat.beq_eq]at h;obtain⟨rfl,rfl,h3,h4⟩:=h;rw[E8 h3,IE (fun _ _=>PB) h4]
abbrev TblA:=List (Nat×List (KeyA×Nat×List D))
def JU(x:KeyA):List (KeyA×Nat×List D)→Option (Nat×List D)
 |[]=>none
 |(y,r)::l=>if LG x y then some r else JU x l
def TblA.find(x:KeyA)(f:Nat):TblA→Option (Nat×List D)
 |[]=>none
 |(g,l)::t=>if Nat.beq g f then (match JU x l with|some r=>some r|none=>TblA.find x f t) else TblA.find x f t
def TblA.ext(t:TblA)(f:FuncId)(sz k:Nat)(cs:List D)(aa:List A):Option (Nat×List D):=t.find ⟨sz,k,cs,aa⟩ f
def TblA.Ok(P:Program)(t:TblA):Prop:= ∀g∈t,∀e∈g.2,CallsA P g.1 e.1.sz e.1.k e.1.cs e.1.aa e.2.1 e.2.2
theorem Pv{x:KeyA}{r:Nat×List D}: ∀{l:List (KeyA×Nat×List D)},JU x l=some r→(x,r)∈l
 |(y,q)::l,h=>by
  unfold JU at h;split at h
  ·rename_i e
   cases h;rw[je7 e]
   exact List.mem_cons_self ..
  ·exact List.mem_cons_of_mem _ (Pv h)
theorem TblA.find_ok{P:Program}: ∀{t:TblA},t.Ok P→ ∀g x m cs',t.find x g=some (m,cs')→CallsA P g x.sz x.k x.cs x.aa m cs'
 |[],_,g,x,m,cs',h=>by cases h
 |(g',l)::t,ht,g,x,m,cs',h=>by
  have hr:TblA.Ok P t:=fun y hy=>ht y (List.mem_cons_of_mem _ hy)
  unfold TblA.find at h;split at h
  ·rename_i e
   have e:g'=g:=by simpa using e
   subst e;split at h
   ·rename_i y hy
    cases h;exact ht _ (List.mem_cons_self ..) _ (Pv hy)
   ·exact TblA.find_ok hr g' x m cs' h
  ·exact TblA.find_ok hr g x m cs' h
theorem TblA.ext_ok{P:Program}{t:TblA}(ht:t.Ok P): ∀g sz k cs aa m cs',t.ext g sz k cs aa=some (m,cs')→CallsA P g sz k cs aa m cs':=fun g sz k cs aa m cs' h=>TblA.find_ok ht g ⟨sz,k,cs,aa⟩ m cs' h
theorem TblA.ok_nil{P:Program}:TblA.Ok P []:=fun g hg=>by cases hg
theorem TblA.ok_app{P:Program}{s t:TblA}(hs:s.Ok P)(ht:t.Ok P):TblA.Ok P (s++t):=fun g hg=>by
 rcases List.mem_append.1 hg with h|h
 ·exact hs g h
 ·exact ht g h
def Nq(x:Option (Nat×List D))(r:Nat×List D):Bool:=match x with|some y=>Nat.beq y.1 r.1&&Dg y.2 r.2|none=>false
theorem jbd{x:Option (Nat×List D)}{r:Nat×List D}(h:Nq x r=true):x=some r:=by
 unfold Nq at h;split at h
 ·rename_i y
  obtain⟨a,b⟩:=y
  obtain⟨c,d⟩:=r
  simp only[AC,Nat.beq_eq]at h;rw[h.1,E8 h.2]
 ·cases h
structure Tb2 where
 f:Tbl
 a:TblA
def Tb2.Ok(P:Program)(t:Tb2):Prop:=t.f.Ok P∧t.a.Ok P
def Tb2.app(s t:Tb2):Tb2:=⟨s.f++t.f,s.a++t.a⟩
theorem Tb2.ok_app{P:Program}{s t:Tb2}(hs:s.Ok P)(ht:t.Ok P):(s.app t).Ok P:=⟨Tbl.ok_app hs.1 ht.1,TblA.ok_app hs.2 ht.2⟩
def Tb2.runs(ev:FuncId→List A→Option R)(evA:FuncId→Nat→Nat→List D→List A→Option (Nat×List D))(t:Tb2):Bool:=
 (t.f.all fun g=>g.2.all fun e=>JD (ev g.1 e.1) e.2)&&(t.a.all fun g=>g.2.all fun e=>Nq (evA g.1 e.1.sz e.1.k e.1.cs e.1.aa) e.2)
theorem Tb2.runs_ok{P:Program}{ev:FuncId→List A→Option R}{evA:FuncId→Nat→Nat→List D→List A→Option (Nat×List D)}(hev:(∀g aa r,ev g aa=some r→CallsF P g aa r)∧(∀g sz k cs aa m cs',evA g sz k cs aa=some (m,cs')→CallsA P g sz k cs aa m cs')){t:Tb2}(h:t.runs ev evA=true):t.Ok P:=by
 simp only[Tb2.runs,AC]at h;refine⟨fun g hg e he=> ?_,fun g hg e he=> ?_⟩
 ·have:=jzy.1 (jzy.1 h.1 g hg) e he
  exact hev.1 _ _ _ (Pp this)
 ·have:=jzy.1 (jzy.1 h.2 g hg) e he
  exact hev.2 _ _ _ _ _ _ _ (jbd this)
def Mh(fn:Func)(pln:FE)(kl:List Nat)(ob:Bool):FB:=⟨fn,fn.body.getD .skip,pln,kl,ob⟩
def FB.okB (b : FB) : Bool := (match b.fn.body with | some _ => true | none => false) && (!(b.fn.name == "runtime.NumGoroutine") && (BG b.fn.ntmps [] b.c && B2 b.pln b.c))
def FB.Ok (P : Program) (f : Nat) (b : FB) : Prop := P.funcs[f]? = some b.fn ∧ b.fn.body = some b.c ∧ (b.fn.name == "runtime.NumGoroutine") = false ∧ BG b.fn.ntmps [] b.c = true ∧ B2 b.pln b.c = true
theorem jgg{P:Program}{f:Nat}{fn:Func}{pln:FE}{kl:List Nat}{ob:Bool}(hf:P.funcs[f]? =some fn)(h:(Mh fn pln kl ob).okB=true):(Mh fn pln kl ob).Ok P f:=by
 unfold FB.okB at h;simp only[AC,Bool.not_eq_true']at h;obtain⟨h1,h2,h3,h4⟩:=h;refine⟨hf,?_,h2,h3,h4⟩
 show fn.body=some (fn.body.getD .skip)
 have h1:(match fn.body with|some _=>true|none=>false)=true:=h1
 cases hb:fn.body with
 |none=>rw[hb]at h1;cases h1
 |some c=>rfl
inductive BT where
 |leaf
 |node (l:BT) (k:Nat) (b:FB) (r:BT)
def BT.find:BT→Nat→Option FB
 | .leaf,_=>none
 | .node l k b r,f=>if Nat.beq f k then some b else if Nat.blt f k then l.find f else r.find f
def BT.Ok(P:Program):BT→Prop
 | .leaf=>True
 | .node l k b r=>l.Ok P∧b.Ok P k∧r.Ok P
theorem BT.ok{P:Program}: ∀{t:BT},t.Ok P→ ∀f b,t.find f=some b→b.Ok P f
 | .leaf,_,f,b,h=>by cases h
 | .node l k c r,⟨h1,h2,h3⟩,f,b,h=>by
  unfold BT.find at h;split at h
  ·rename_i e
   cases h;have e:f=k:=by simpa using e
   rw[e]
   exact h2
  split at h
  ·exact BT.ok h1 f b h
  ·exact BT.ok h3 f b h
theorem BT.bods{P:Program}{t:BT}(h:t.Ok P):FBs.Ok P t.find:=⟨fun f b hb=>BT.ok h f b hb⟩
inductive TT where
 |leaf
 |node (l:TT) (k:Nat) (i:TI) (r:TT)
def TT.find:TT→Nat→Option TI
 | .leaf,_=>none
 | .node l k i r,t=>if Nat.beq t k then some i else if Nat.blt t k then l.find t else r.find t
def TT.okB(P:Program):TT→Bool
 | .leaf=>true
 | .node l k i r=>l.okB P&&(GY P k i&&r.okB P)
theorem TT.ok{P:Program}: ∀{x:TT},x.okB P=true→AM P x.find
 | .leaf,_,t,i,h=>by cases h
 | .node l k j r,hx,t,i,h=>by
  unfold TT.okB at hx;simp only[AC]at hx;obtain⟨h1,h2,h3⟩:=hx;unfold TT.find at h;split at h
  ·rename_i e
   cases h;have e:t=k:=by simpa using e
   rw[e]
   exact h2
  split at h
  ·exact TT.ok h1 t i h
  ·exact TT.ok h3 t i h
def Nc:List (Nat×Nat)→FuncId→Option Nat
 |[],_=>none
 |(g,n)::r,f=>if Nat.beq g f then some n else Nc r f
end Go.Va
