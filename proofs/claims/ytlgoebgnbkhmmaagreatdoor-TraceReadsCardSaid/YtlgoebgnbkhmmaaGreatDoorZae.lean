/- a part of the proof -/
import Derived.Test.YtlgoebgnbkhmmaaGreatDoorZad
import Derived.Tactics
set_option linter.all false
namespace Go.Va
open Go.RowKit
variable [Gv]
section
variable {P:Program} {w:World}
theorem jeL(t:TypeId):(Instr.makeMap t none).run P w= .ok (.map (some w.heap.size)) (w.alloc (.map #[] 0)):=rfl
theorem jgp{t:TypeId}(ht:P.underlying t=some .string)(s:ByteArray):(Instr.range t (.string s)).run P w= .ok (.pointer (some ⟨w.heap.size,0,none⟩)) (w.alloc (.stringIter s 0)):=by
 simp[Instr.range,run_underlying ht,newObj]
 rfl
theorem jbC{g:Nat}{s:ByteArray}{p:Nat}{t:TypeId}(h:w.heap[g]? =some (.stringIter s p))(hp: ¬p<s.size):(Instr.next (.pointer (some ⟨g,0,none⟩)) true t).run P w= .ok (.tuple #[.bool false]) w:=by
 simp[Instr.next,getObj,Sem.run,h,hp]
theorem jab{g:Nat}{s:ByteArray}{p:Nat}{t:TypeId}(h:w.heap[g]? =some (.stringIter s p))(hp:p<s.size):
  (Instr.next (.pointer (some ⟨g,0,none⟩)) true t).run P w= .ok (.tuple #[.bool true,.int .i64 p,.int .i32 (Utf8.decode s p).1]) { w with heap:=w.heap.setIfInBounds g (.stringIter s (p+(Utf8.decode s p).2)) }:=by
 simp_all[Instr.next,getObj,setObj,Sem.run,goInt]
def Do:Bool→TypeDesc
 |false=> .string
 |true=> .int .i64
theorem KP{t:TypeId}{b:Bool}(ht:P.underlying t=some (Do b))(e:Bool)(n:Nat){k:Ky}(hk:k.num=b):(Instr.checkKey e (n+1) t k.v).run P w= .ok () w:=by
 cases k<;>cases hk<;>simp[Instr.checkKey,run_underlying ht,Do,Ky.v,Ky.num]
theorem Xl{k a:Ky}(h:a.num=k.num):Instr.sameNow (Do k.num) k.v a.v=some (D6 k a):=by
 cases k<;>cases a<;>first|(cases h;done)|rfl
theorem M7(k:Ky): ∀(L:List MapEntry) (es:List (Ky×Int)) (i:Nat),L.map (fun e=>(e.key,e.val))=es.map Ee→es.all (fun e=>e.1.num==k.num)=true→Instr.findNow (Do k.num) k.v L i=some ((B5 k es i).map fun p=>(p.1,.int .i64 p.2))
 |[],[],i,_,_=>rfl
 |[],_::_,_,h,_=>by simp at h
 |_::_,[],_,h,_=>by simp at h
 |e::L,(a,v)::es,i,h,ha=>by
  simp only[List.map_cons,List.cons.injEq,Ee,Prod.mk.injEq]at h;simp only[List.all_cons,AR,beq_iff_eq]at ha;obtain⟨⟨h1,h2⟩,h3⟩:=h;have ih:=M7 k L es (i+1) h3 (by simpa using ha.2)
  grind[Instr.findNow,B5,Xl,D6]
def Gs(c:Bool)(es:List (Ky×Int))(k:Ky):Value:=if c then .tuple #[.int .i64 (((B5 k es 0).map (·.2)).getD 0),.bool (B5 k es 0).isSome] else .int .i64 (((B5 k es 0).map (·.2)).getD 0)
theorem jfw{t kt et:TypeId}{b:Bool}(ht:P.underlying t=some (.map kt et))(hk:P.underlying kt=some (Do b))(hz: ∀w,(zeroValue et).run P w= .ok (.int .i64 0) w){g:Nat}{arr:Array MapEntry}{c:Nat}{es:List (Ky×Int)}
  (hg:w.heap[g]? =some (.map arr c)) (he:arr.toList.map (fun e=>(e.key,e.val))=es.map Ee) {k:Ky} (hkb:k.num=b) (hall:es.all (fun e=>e.1.num==b)=true) (co:Bool):
  (Instr.lookup t (.map (some g)) k.v co).run P w= .ok (Gs co es k) w:=by
 subst hkb;have hf:=M7 k arr.toList es 0 he hall;have hgo:(getObj g).run P w= .ok (.map arr c) w:=by simp[getObj,Sem.run,hg]
 cases hfk:B5 k es 0 with
 |none=>
  rw[hfk]at hf
  cases co<;>simp[Instr.lookup,run_underlying ht,hgo,KP hk _ _ rfl,Instr.findKey,run_underlying hk,hf,hz,Gs,hfk]
 |some p=>
  rw[hfk]at hf
  cases co<;>simp[Instr.lookup,run_underlying ht,hgo,KP hk _ _ rfl,Instr.findKey,run_underlying hk,hf,Gs,hfk]
theorem Qo{a b:ByteArray}(h:(a==b)=true):a=b:=by
 obtain⟨x⟩:=a
 obtain⟨y⟩:=b
 have e:x=y:=by simpa using (show(x==y)=true from h)
 rw[e]
theorem Qg(a:ByteArray):(a==a)=true:=by
 obtain⟨x⟩:=a
 show(x==x)=true
 simp
theorem Tt{a b:Ky}(h:D6 a b=true):a=b:=by
 cases a<;>cases b<;>simp only[D6,Bool.false_eq_true]at h
 ·rw[Qo h]
 grind
theorem TK{k:Ky}: ∀{es:List (Ky×Int)} {i j:Nat} {v:Int},B5 k es i=some (j,v)→i≤j∧es[j - i]? =some (k,v)
 |[],i,j,v,h=>by cases h
 |(a,u)::r,i,j,v,h=>by
  unfold B5 at h;split at h
  ·rename_i e
   cases h;have:k=a:=Tt e
   grind
  ·obtain⟨h1,h2⟩:=TK h
   grind
theorem XZ{t kt et:TypeId}{b:Bool}(ht:P.underlying t=some (.map kt et))(hk:P.underlying kt=some (Do b)){g:Nat}{arr:Array MapEntry}{c:Nat}{es:List (Ky×Int)}
  (hg:w.heap[g]? =some (.map arr c)) (he:arr.toList.map (fun e=>(e.key,e.val))=es.map Ee) {k:Ky} (hkb:k.num=b) (hall:es.all (fun e=>e.1.num==b)=true) (v:Int):
  ∃arr' c',(Instr.mapUpdate t (.map (some g)) k.v (.int .i64 v)).run P w= .ok () { w with heap:=w.heap.setIfInBounds g (.map arr' c') }∧arr'.toList.map (fun e=>(e.key,e.val))=(GY k v es).map Ee:=by
 subst hkb;have hf:=M7 k arr.toList es 0 he hall;have hgo:(getObj g).run P w= .ok (.map arr c) w:=by simp[getObj,Sem.run,hg]
 have hso: ∀o,(setObj g o).run P w= .ok () { w with heap:=w.heap.setIfInBounds g o }:=(by grind[setObj,Sem.run])
 unfold GY;cases hfk:B5 k es 0 with
 |none=>
  rw[hfk]at hf
  refine⟨_,_,by simp[Instr.mapUpdate,run_underlying ht,hgo,KP hk _ _ rfl,Instr.findKey,run_underlying hk,hf,hso];rfl,?_⟩
  simp[he,Ee]
 |some p=>
  rw[hfk]at hf
  obtain⟨i,u⟩:=p
  obtain⟨_,hi⟩:=TK hfk
  simp only[Nat.sub_zero]at hi;have hL:(arr.toList.map fun e=>(e.key,e.val))[i]? =some (k.v,.int .i64 u):=by rw[he,Bf,hi];rfl
  rw[Bf,jze]at hL
  obtain⟨e,hei,hek⟩:=hL
  have hek1:e.key=k.v:=(by grind)
  have hea:arr[i]? =some e:=by simpa using hei
  have hst:(Instr.keyThatStays k.v k.v).run P w= .ok k.v w:=by
   cases k<;>simp[Instr.keyThatStays,Instr.sameBits,Qg,Ky.v]
  refine⟨arr.modify i fun e=>{ e with key:=k.v,val:= .int .i64 v },c,by simp[Instr.mapUpdate,run_underlying ht,hgo,KP hk _ _ rfl,Instr.findKey,run_underlying hk,hf,hso,hea,hek1,hst],?_⟩
  refine List.ext_getElem? fun j=> ?_
  have hj:(arr.toList.map fun e=>(e.key,e.val))[j]? =(es.map Ee)[j]? :=by rw[he]
  grind[Array.toList_modify,Ee]
theorem jcM{et:TypeId}(h:(match P.info? et with|some info=>(match info.zero with|some (.int .i64 n)=>decide (n=0)|_=>false)|none=>false)=true)(w:World):(zeroValue et).run P w= .ok (.int .i64 0) w:=by
 split at h
 ·rename_i info hi
  split at h
  ·simp_all[zeroValue,typeInfo]
  ·cases h
 ·cases h
theorem TyOk.map{t:TypeId}{i:TI}{info:TypeInfo}{d:TypeDesc}(h:TyOk P t i info d)(hm:i.mp=true): ∃kt et,P.underlying t=some (.map kt et)∧P.underlying kt=some (Do i.mpi)∧ ∀w,(zeroValue et).run P w= .ok (.int .i64 0) w:=by
 have hb:=h.mp hm;unfold LT at hb;split at hb
 ·rename_i kt et hu
  simp only[AR]at hb;obtain⟨h1,h2⟩:=hb;refine⟨kt,et,hu,?_,jcM h2⟩;split at h1
  ·rename_i hs
   rw[show i.mpi=false by simpa using h1]
   exact hs
  ·rename_i hs
   rw[show i.mpi=true from h1]
   exact hs
  ·cases h1
 ·cases hb
end
section
variable {P:Program} {T:AH} {M Z:Addr→Prop} {w0 w:World} {ρ:AE} {st:St} {a:Act}
def Fl(w:World):Own:={ g:=w.heap.size,o:=0,sz:=0,room:=0,app:=false,nil:=true,gone:=false }
theorem Rel.newObj(h:Rel M Z w0 ρ st a w)(i:Nat){x:Ob}{y:Obj}(hr:IQ x y):Rel M Z w0 (BW ρ i (Fl w)) (st.new i (.mp x)) a (w.alloc y):=by
 have hget:(w.alloc y).heap[w.heap.size]? =some y:=by
  show(w.heap.push y)[w.heap.size]? =some y
  simp
 exact h.new (Ext.alloc w _) i (fun ad hh=>by obtain⟨_,h1,_⟩:=hh;grind[Fl]) (by grind[Fl]) (by simp[Fl,maxLen]) ⟨rfl,⟨rfl,rfl⟩,y,hget,hr⟩ (fun _=>⟨AO _,y,hget,Ib hr⟩)
theorem Rel.setObj(h:Rel M Z w0 ρ st a w){i:Nat}{o:Own}{x x':Ob}{y':Obj}(hi:ρ i=some o)(hb:RepB ρ w Z o (.mp x))(hy':IQ x' y'):Rel M Z w0 ρ (st.blk i (.mp x')) a { w with heap:=w.heap.setIfInBounds o.g y' }:=by
 obtain⟨hroom,hmp,y,hg,hx⟩:=hb
 have hy:=Ib hx;have hn':=Ib hy';have hlt:o.g<w.heap.size:=(by grind)
 have hget: ∀k,k≠o.g→(w.heap.setIfInBounds o.g y')[k]? =w.heap[k]? :=(by grind)
 have hgs:(w.heap.setIfInBounds o.g y')[o.g]? =some y':=by
  grind
 have hcell: ∀ad:Addr,({ w with heap:=w.heap.setIfInBounds o.g y' }:World).cell? ad=w.cell? ad:=fun ad=>by
  unfold World.cell?;by_cases e:ad.block=o.g
  ·simp only[e,hgs,hg];cases y'<;>cases y<;>first|rfl|exact absurd rfl (hy _ _ _)|exact absurd rfl (hn' _ _ _)
  grind
 have hfro: ∀ad:Addr,({ w with heap:=w.heap.setIfInBounds o.g y' }:World).frozen? ad=w.frozen? ad:=fun ad=>by
  unfold World.frozen?;by_cases e:ad.block=o.g
  ·simp only[e,hgs,hg];cases y'<;>cases y<;>first|rfl|exact absurd rfl (hy _ _ _)|exact absurd rfl (hn' _ _ _)
  grind
 have hk: ∀Z1:Addr→Prop,Keep w { w with heap:=w.heap.setIfInBounds o.g y' } Z1 Z1:=fun Z1 ad v h1 h2=>(by grind)
 have ht:Cf ρ ρ w { w with heap:=w.heap.setIfInBounds o.g y' } Z Dt:=fun c v hc=>by rw[C.on_id];exact hc.keep (hk _) fun _ _=>rfl
 have oth: ∀j o',ρ j=some o'→o'.mp→j≠i→o'.g≠o.g:=fun j o' hj hm hne e=>h.heap.owns.apart j i o' o hj hi hne ⟨o.g,0,none⟩ (ER hm e.symm) (ER hmp rfl)
 exact {
  fr:=⟨h.fr.os,h.fr.drawn,h.fr.tape,h.fr.output,by simpa using h.fr.size,fun ad v hm hv=>(hcell ad).trans (h.fr.cell ad v hm hv),fun ad hm ha=>(hfro ad).trans (h.fr.frz ad hm ha),fun k hk' hm=>(hget k (fun e=>by
   subst e;rcases h.mine i o ⟨o.g,0,none⟩ hi (ER hmp rfl)with h1|h1
   ·grind
   grind)).trans (h.fr.blk k hk' hm)⟩
  heap:=⟨⟨fun i o hi hn j hj=>by rw[hcell,hfro];exact h.heap.owns.cells i o hi hn j hj,h.heap.owns.apart,h.heap.owns.lim⟩,fun j b hb=>by
   by_cases e:j=i
   ·subst e;simp only[St.blk]at hb;rw[Bt]at hb;cases hb;exact⟨o,hi,hroom,hmp,y',hgs,hy'⟩
   ·simp only[St.blk]at hb;rw[BD e,BR e]at hb;obtain⟨o',ho',hr⟩:=h.heap.rep j b hb;have:=hr.turn ht (hk _) (by grind) (by grind)
    grind[Blk.on_id]⟩
  mine:=h.mine
  out:=h.out
  mz:=h.mz
  tmps:=fun t v hv=>by
   have:=(h.tmps t v hv).turn ht
   rwa [V.on_id]at this
  defers:=h.defers
  mps:=fun j o' hj hm=>by
   by_cases e:o'.g=o.g
   ·grind
   ·obtain⟨z,hz,hn⟩:=h.mps j o' hj hm
    grind }
theorem C.str_some{c:C}{s:ByteArray}{v:Value}(h:c.str? =some s)(hr:RepC ρ w Z c v):v= .string s:=by
 unfold C.str? at h;split at h
 ·cases h;cases hr;rfl
 ·cases h
theorem C.key_some{c:C}{b:Bool}{s:Ky}{v:Value}(h:c.key? b=some s)(hr:RepC ρ w Z c v):v=s.v∧s.num=b:=by
 unfold C.key? at h;split at h
 ·split at h
  ·cases h
  ·rename_i hb
   cases h;cases hr
   exact⟨rfl,by grind[Ky.num]⟩
 ·split at h
  ·rename_i hb
   cases h;cases hr
   exact⟨rfl,hb.symm⟩
  ·cases h
 ·cases h
theorem R3(h:Rel M Z w0 ρ st a w){c:C}{p:Nat×List (Ky×Int)}(hm:HO st c=some p){v:Value}(hr:RepC ρ w Z c v): ∃o arr n,ρ p.1=some o∧RepB ρ w Z o (.mp (.mp p.2))∧v= .map (some o.g)∧w.heap[o.g]? =some (.map arr n)∧arr.toList.map (fun e=>(e.key,e.val))=p.2.map Ee:=by
 unfold HO at hm;split at hm
 ·rename_i i
  rw[jzd]at hm
  obtain⟨b,hb,hm⟩:=hm
  split at hm
  ·rename_i es
   cases hm;obtain⟨o,ho,hv⟩:=hr
   obtain⟨o',ho',hrb⟩:=h.heap.rep i _ hb
   obtain rfl:o'=o:=(by grind)
   have hrb':=hrb;obtain⟨_,_,y,hy,hx⟩:=hrb;cases y<;>first|exact hx.elim|skip
   exact⟨o',_,_,ho,hrb',by simpa using hv,hy,hx⟩
  ·cases hm
 ·cases hm
theorem jgC(h:Rel M Z w0 ρ st a w){c:C}{p:Nat×ByteArray×Nat}(hm:KL st c=some p){v:Value}(hr:RepC ρ w Z c v): ∃o,ρ p.1=some o∧RepB ρ w Z o (.mp (.it p.2.1 p.2.2))∧v= .pointer (some ⟨o.g,0,none⟩)∧w.heap[o.g]? =some (.stringIter p.2.1 p.2.2):=by
 unfold KL at hm;split at hm
 ·rename_i i
  rw[jzd]at hm
  obtain⟨b,hb,hm⟩:=hm
  split at hm
  ·rename_i s q
   cases hm;obtain⟨o,ho,hv⟩:=hr
   obtain⟨o',ho',hrb⟩:=h.heap.rep i _ hb
   obtain rfl:o'=o:=(by grind)
   have hrb':=hrb;obtain⟨_,_,y,hy,hx⟩:=hrb;cases y<;>first|exact hx.elim|skip
   obtain⟨rfl,rfl⟩:=hx
   grind
  ·cases hm
 ·cases hm
theorem ji5(h:Rel M Z w0 ρ st a w){o:Oper}(hd: ∀d,o.dst=some d→d<a.tmps.size)(t:TypeId)(ho:o.op= .makeMap t none){st':St}
  (hs:((T t).bind fun i=>if i.mp then mk o.dst st (.mp (.mp [])) fun d=> .mp false d else none)=some st'):StepOk P M Z w0 o st' a w:=by
 rw[jzd]at hs
 obtain⟨i,hi,hs⟩:=hs
 split at hs
 case isFalse=>cases hs
 obtain⟨k,hk,rfl⟩:=F8 hs
 have hr:=h.newObj k (x:= .mp []) (y:= .map #[] 0) rfl;exact StepOk.at (P:=P) (w:=w) (o:=o) (w':=w.alloc (.map #[] 0)) hk (v:=vC (.mp false k)) (x:= .map (some w.heap.size)) hd (by simp[execOp,ho,jeL]) hr ⟨Fl w,Cd _ _ _,by simp[Fl]⟩
theorem X5(h:Rel M Z w0 ρ st a w)(hT:A5 P T){o:Oper}(hd: ∀d,o.dst=some d→d<a.tmps.size)(t:TypeId)(x:Operand)(ho:o.op= .range t x){st':St}
  (hs:((T t).bind fun i=>if Ce i=true then (st.evC x).bind fun c=>c.str?.bind fun s=>mk o.dst st (.mp (.it s 0)) fun d=> .mp true d else none)=some st'):StepOk P M Z w0 o st' a w:=by
 rw[jzd]at hs
 obtain⟨i,hi,hs⟩:=hs
 split at hs
 case isFalse=>cases hs
 rename_i hstr
 simp only[jzd]at hs;obtain⟨c,hc,s,hcs,hs⟩:=hs;obtain⟨k,hk,rfl⟩:=F8 hs;obtain⟨info,d,ht⟩:=Be (hT t i hi);have hu:=Ih ht hstr;have hv:=C.str_some hcs (h.evC hc);have hr:=h.newObj k (x:= .it s 0) (y:= .stringIter s 0) ⟨rfl,rfl⟩;exact StepOk.at (P:=P) (w:=w) (o:=o) (w':=w.alloc (.stringIter s 0)) hk (v:=vC (.mp true k)) (x:= .pointer (some ⟨w.heap.size,0,none⟩)) hd (by simp[execOp,ho,hv,jgp hu]) hr ⟨Fl w,Cd _ _ _,by simp[Fl]⟩
theorem YL{c:Bool}{es:List (Ky×Int)}{k:Ky}:RepV ρ w Z (found c es k) (Gs c es k):=by
 cases c with
 |false=>exact .int _ _
 |true=>
  refine⟨_,rfl,rfl,fun j x v hx hv=> ?_⟩
  match j with
  |0=>simp at hx hv;subst hx;subst hv;exact .int _ _
  |1=>simp at hx hv;subst hx;subst hv;exact .bool _
  |j+2=>simp at hx
theorem Y2(h:Rel M Z w0 ρ st a w)(hT:A5 P T){o:Oper}(hd: ∀d,o.dst=some d→d<a.tmps.size)(t:TypeId)(m k:Operand)(co:Bool)(ho:o.op= .lookup t m k co){st':St}
  (hs:((T t).bind fun i=>if i.mp then (st.evC m).bind fun m=>(st.evC k).bind fun k=>Hh st o.dst co i.mpi m k else none)=some st'):StepOk P M Z w0 o st' a w:=by
 rw[jzd]at hs
 obtain⟨i,hi,hs⟩:=hs
 split at hs
 case isFalse=>cases hs
 rename_i hmp
 simp only[jzd,Hh]at hs;obtain⟨c,hc,ck,hck,p,hp,s,hcs,hs⟩:=hs;split at hs
 case isFalse=>cases hs
 rename_i hall
 cases hs;obtain⟨info,d,ht⟩:=Be (hT t i hi)
 obtain⟨kt,et,h1,h2,h3⟩:=ht.map hmp
 obtain⟨hv,hkb⟩:=C.key_some hcs (h.evC hck)
 obtain⟨ow,arr,n,how,hb,hcv,hg,he⟩:=R3 h hp (h.evC hc)
 refine .val h hd ?_ YL;have:=jfw (P:=P) (w:=w) h1 h2 h3 hg he hkb hall co;simp[execOp,ho,hv,hcv,this]
theorem XE(h:Rel M Z w0 ρ st a w)(hT:A5 P T){o:Oper}(hd: ∀d,o.dst=some d→d<a.tmps.size)(t:TypeId)(m k x:Operand)(ho:o.op= .mapUpdate t m k x){st':St}
  (hs:((T t).bind fun i=>if i.mp then (st.evC m).bind fun m=>(st.evC k).bind fun k=>(st.evC x).bind fun x=>G7 st o.dst i.mpi m k x else none)=some st'):StepOk P M Z w0 o st' a w:=by
 rw[jzd]at hs
 obtain⟨i,hi,hs⟩:=hs
 split at hs
 case isFalse=>cases hs
 rename_i hmp
 simp only[jzd,G7]at hs;obtain⟨c,hc,ck,hck,cx,hcx,p,hp,s,hcs,hs⟩:=hs;split at hs
 ·rename_i z
  split at hs
  case isFalse=>cases hs
  rename_i hall
  cases hs;obtain⟨info,d,ht⟩:=Be (hT t i hi)
  obtain⟨kt,et,h1,h2,h3⟩:=ht.map hmp
  obtain⟨hv,hkb⟩:=C.key_some hcs (h.evC hck)
  have hx:a.eval x= .int .i64 z:=by
   have:=h.evC hcx
   generalize a.eval x=q at this;cases this;rfl
  obtain⟨ow,arr,n,how,hb,hcv,hg,he⟩:=R3 h hp (h.evC hc)
  obtain⟨arr',n',hrun,he'⟩:=XZ (P:=P) (w:=w) h1 h2 hg he hkb hall z
  refine⟨.skip,undef,_,ρ,by simp[execOp,ho,hv,hx,hcv,hrun],.inr ⟨rfl,rfl⟩,(h.setObj how hb (x':= .mp (GY s z p.2)) (y':= .map arr' n') he').put hd ⟨[],rfl,rfl,fun j x v hx=>by simp at hx⟩⟩
 ·cases hs
theorem jaE(h:Rel M Z w0 ρ st a w){o:Oper}(hd: ∀d,o.dst=some d→d<a.tmps.size)(x:Operand)(ho:o.op= .next x true){st':St}
  (hs:((st.evC x).bind fun c=>GN st o.dst c)=some st'):StepOk P M Z w0 o st' a w:=by
 simp only[jzd,GN,jze]at hs;obtain⟨c,hc,p,hp,rfl⟩:=hs;obtain⟨i,s,q⟩:=p;obtain⟨ow,how,hb,hcv,hg⟩:=jgC h hp (h.evC hc);simp only at how hb hg ⊢;split
 ·rename_i hlt
  have hrun:=jab (P:=P) (w:=w) (t:=o.type) hg hlt;refine⟨.value (.tuple #[.bool true,.int .i64 q,.int .i32 (Utf8.decode s q).1]),_,_,ρ,by simp_all[execOp],.inl rfl,(h.setObj how hb (x':= .it s (q+(Utf8.decode s q).2)) (y':= .stringIter s (q+(Utf8.decode s q).2)) ⟨rfl,rfl⟩).put hd ⟨[.bool true,.int .i64 q,.int .i32 (Utf8.decode s q).1],rfl,rfl,fun j x v hx hv=> ?_⟩⟩
  match j with
  |0=>simp at hx hv;subst hx;subst hv;exact .bool _
  |1=>simp at hx hv;subst hx;subst hv;exact .int _ _
  |2=>simp at hx hv;subst hx;subst hv;exact .int _ _
  |j+3=>simp at hx
 ·rename_i hlt
  have hrun:=jbC (P:=P) (w:=w) (t:=o.type) hg hlt;refine .val h hd (x:= .tuple #[.bool false]) (by simp_all[execOp]) ⟨[.bool false],rfl,rfl,fun j x v hx hv=> ?_⟩
  match j with
  |0=>simp at hx hv;subst hx;subst hv;exact .bool _
  |j+1=>simp at hx
end
end Go.Va
namespace Go.Va
open Go.RowKit
variable [Gv]
section
variable {P:Program} {T:AH} {M Z:Addr→Prop} {w0 w:World} {ρ:AE} {st:St} {a:Act}
theorem SZ{k:IntKind}: ∀{l:List (IntKind×Int)} {x:Int} {v:V},DL false k x l=some v→ ∃n:Int,v=vI k n∧((l.map fun p=>Value.int p.1 p.2).foldlM Builtin.min2 (.int k x)).run P w= .ok (.int k n) w
 |[],x,v,h=>by cases h;simp
 |(k',y)::r,x,v,h=>by
  simp only[DL]at h;split at h
  case isFalse=>cases h
  case isTrue hk=>
   subst hk;obtain⟨n,hn,hr⟩:=SZ h;refine⟨n,hn,?_⟩;simp only[List.map_cons,List.foldlM_cons,Builtin.min2,Sem.run_bind,Sem.run_pure,Result.andThen_ok]
   simpa using hr
theorem OH{k:IntKind}: ∀{l:List (IntKind×Int)} {x:Int} {v:V},DL true k x l=some v→ ∃n:Int,v=vI k n∧((l.map fun p=>Value.int p.1 p.2).foldlM Builtin.max2 (.int k x)).run P w= .ok (.int k n) w
 |[],x,v,h=>by cases h;simp
 |(k',y)::r,x,v,h=>by
  simp only[DL]at h;split at h
  case isFalse=>cases h
  case isTrue hk=>
   subst hk;obtain⟨n,hn,hr⟩:=OH h;refine⟨n,hn,?_⟩;simp only[List.map_cons,List.foldlM_cons,Builtin.max2,Sem.run_bind,Sem.run_pure,Result.andThen_ok]
   simpa using hr
theorem P2(h:Rel M Z w0 ρ st a w): ∀{xs:List Operand} {l:List (IntKind×Int)},xs.mapM st.evI=some l→xs.map a.eval=l.map fun p=>Value.int p.1 p.2
 |[],l,hl=>by grind
 |x::xs,l,hl=>by
  simp only[List.mapM_cons,Option.pure_def,Option.bind_eq_bind,jzd,Option.some.injEq]at hl;obtain⟨p,hp,l',hl',rfl⟩:=hl;simp[P2 h hl',h.evI hp]
theorem UO(h:Rel M Z w0 ρ st a w){o:Oper}(hd: ∀d,o.dst=some d→d<a.tmps.size)(mx:Bool)(x:Operand)(r:List Operand)(ts:Array TypeId)
  (ho:o.op= .call { callee:= .builtin (if mx then .max else .min),args:=(x::r).toArray,argTypes:=ts }) {st':St}
  (hs:((st.evI x).bind fun p=>(r.mapM st.evI).bind fun l=>(DL mx p.1 p.2 l).map fun v=>st.put o.dst v)=some st'):StepOk P M Z w0 o st' a w:=by
 simp only[jzd,jze]at hs;obtain⟨p,hp,l,hl,v,hv,rfl⟩:=hs;have hx:=h.evI hp;have hr:=P2 h hl;cases mx with
 |false=>
  obtain⟨n,rfl,hrun⟩:=SZ (P:=P) (w:=w) hv
  refine .val h hd (x:= .int p.1 n) ?_ (B4 _ _ _ _ _)
  simp_all[execOp,resolve,invoke,builtin,Builtin.min_]
 |true=>
  obtain⟨n,rfl,hrun⟩:=OH (P:=P) (w:=w) hv
  refine .val h hd (x:= .int p.1 n) ?_ (B4 _ _ _ _ _)
  simp_all[execOp,resolve,invoke,builtin,Builtin.max_]
theorem jhz(h:Rel M Z w0 ρ st a w)(hT:A5 P T){o:Oper}(hd: ∀d,o.dst=some d→d<a.tmps.size)(t t':TypeId)(x y:Operand)
  (ho:o.op= .call { callee:= .builtin .copy,args:= #[x,y],argTypes:= #[t,t'] }) {st':St} {i:TI} {e:Nat} {j:TI} {s:C} {b off n:Nat} {p:Nat×List D} {k:Blk}
  (hi:T t=some i) (he:i.sl=some e) (hj:T e=some j) (hc:st.evC x=some (.sl b off n)) (hs:st.evC y=some s) (hp:st.src j s=some p) (hk:lk b st.h=some k)
  (hst:copyTo j o.dst b off n st p k=some st'):StepOk P M Z w0 o st' a w:=by
 obtain⟨m,ds⟩:=p
 obtain⟨info,dd,ht⟩:=Be (hT t i hi)
 obtain⟨infe,de,hte⟩:=Be (hT e j hj)
 obtain⟨A,cx,news,hvy,hds,hnl,hnews⟩:=NT (P:=P) (j:=j) h (h.evC hs) hp
 cases k with
 |box=>simp[copyTo]at hst
 |fbox=>simp[copyTo]at hst
 |mp=>simp[copyTo]at hst
 |gh=>simp[copyTo]at hst
 |row sz cs app=>
  simp only[copyTo]at hst;split at hst
  case isFalse=>cases hst
  case isTrue hcond=>
   cases hst;obtain⟨rfl,hlen⟩:=hcond
   obtain⟨ow,how,hroom,hcase⟩:=h.evC hc
   obtain⟨o2,ho2,hr⟩:=h.heap.rep b _ hk
   obtain rfl:o2=ow:=Bi (ho2.symm.trans how);obtain⟨q1,q2,q3,q4,q5⟩:=hr;have hmn:min m n≤m:=Nat.min_le_left _ _;have hmn':min m n≤n:=Nat.min_le_right _ _;have hrd:=hnews (min m n) hmn w rfl;have hkl:(ds.take (min m n*j.size)).length=min m n*j.size:=by
    rw[A8,hds.1,hnl,Bs (BC _ hmn)]
   have hvl:(news.take (min m n*j.size)).length=min m n*j.size:=by
    rw[A8,hnl,Bs (BC _ hmn)]
   have hfit:off*j.size+min m n*j.size≤cs.length:=by
    have:=BC j.size hmn'
    rw[Nat.add_mul]at hlen
    omega
   have hds':RepL (RepD w (Ar ρ Z)) (ds.take (min m n*j.size)) (news.take (min m n*j.size)):=by
    refine⟨by rw[hkl,hvl],fun q y v hy hv=> ?_⟩
    rw[List.getElem?_take]at hy hv
    split at hy<;>try (cases hy;done)
    rw[if_pos ‹_›]at hv
    exact hds.2 q y v hy hv
   have hmin:Nat.min m n=min m n:=rfl
   have fin: ∀w':World,(∀ad cap,a.eval x= .slice (some ad) n cap→(storeCells ad (news.take (min m n*j.size))).run P w= .ok () w')→(a.eval x= .slice none 0 0→w'=w)→
     Rel M Z w0 ρ (st.blk b (.row j.size (splice (off*j.size) (ds.take (min m n*j.size)) cs) app)) a w'→
     StepOk P M Z w0 o ((st.blk b (.row j.size (splice (off*j.size) (ds.take (min m n*j.size)) cs) app)).put o.dst (vI .i64 (min m n:Nat))) a w:=fun w' h1 h2 hrel=>by
    refine .new hd (x:= .int .i64 (min m n:Nat)) ?_ hrel (B4 _ _ _ _ _);rw[hvy]at hrd;rcases hcase with⟨_,he2,_,rfl⟩|⟨_,ad,cap,he2,_⟩
    ·obtain rfl:=h2 he2;simp only[Nat.min_zero,Nat.zero_mul,List.take_zero]at hrd;simp[execOp,ho,resolve,invoke,builtin,Builtin.copy_,run_underlying (ht.slice he),he2,hvy,Builtin.lenOf,hte.sizeOf,hrd,goInt]
    ·have h3:=h1 ad cap he2;simp[execOp,ho,resolve,invoke,builtin,Builtin.copy_,run_underlying (ht.slice he),he2,hvy,Builtin.lenOf,hte.sizeOf,hmin,hrd,h3,goInt]
   rcases hcase with⟨hn,he2,rfl,rfl⟩|⟨hn,ad,cap,he2,hnc,hcm,had,_⟩
   ·refine fin w (fun ad cap h=>by rw[he2]at h;cases h) (fun _=>rfl) ?_
    have hsp:splice (0*j.size) (ds.take (min m 0*j.size)) cs=cs:=by simp[splice]
    rw[hsp]
    refine h.congr (fun _=>rfl) fun q=> ?_
    simp only[St.blk];by_cases e:q=b
    ·subst e;rw[Bt,hk]
    ·rw[BD e,BR e]
   ·replace hn:o2.gone=false:=q4.2.trans hn
    have hspace:off*j.size+(news.take (min m n*j.size)).length≤o2.room*o2.sz:=by rw[hvl,q1];omega
    have hw:=h.write how hn (off:=off*j.size) (vs:=news.take (min m n*j.size)) hspace (b:= .row j.size (splice (off*j.size) (ds.take (min m n*j.size)) cs) app) fun hk=>⟨q1,q2,by
     rw[F1 _ _ _ (by rw[hkl];exact hfit)];exact q3,q4,fun q y hy=>by
     rw[GI h how hn hspace,hvl]
     rw[Df _ _ _ (by rw[hkl];exact hfit),hkl]at hy
     split at hy
     ·rename_i hq
      rw[if_pos hq]
      have hq2:q - off*j.size<(news.take (min m n*j.size)).length:=by rw[hvl];omega
      exact⟨_,AD hq2,(hds'.2 _ _ _ hy (AD hq2)).keep hk⟩
     ·rename_i hq
      rw[if_neg hq]
      obtain⟨v,hv,hdd⟩:=q5 q y hy
      exact⟨v,hv,hdd.keep hk⟩⟩
    refine fin _ (fun ad' cap' h'=> ?_) (fun h'=>by rw[he2]at h';cases h') hw
    rw[he2]at h'
    cases h'
    rcases had with hc0|hae
    ·have hn0:n=0:=by omega
     subst hn0;simp[storeCells,World.setCells]
    ·subst hae;have hs2:=run_storeCells_cells (P:=P) o2.g (o2.o+off*j.size) (news.take (min m n*j.size)) 0 w (fun q hq=>by
       obtain⟨⟨u,hu⟩,_⟩:=h.heap.owns.cells b o2 how hn (off*j.size+q) (by omega)
       have he:(⟨o2.g,o2.o+off*j.size+0+q,none⟩:Addr)=o2.at (off*j.size+q):=by simp;omega
       rw[he,hu];rfl) (fun q hq=>by
       obtain⟨_,hf⟩:=h.heap.owns.cells b o2 how hn (off*j.size+q) (by omega)
       have he:(⟨o2.g,o2.o+off*j.size+0+q,none⟩:Addr)=o2.at (off*j.size+q):=by simp;omega
       rw[he,hf]) (fun v hv=>by
       obtain⟨q,hq,rfl⟩:=List.getElem_of_mem hv
       exact(hds'.2 q _ _ (AD (by rw[hds'.1];exact hq)) (AD hq)).one)
     rw[q1]
     simpa using hs2
theorem jcJ(h:Rel M Z w0 ρ st a w)(hT:A5 P T){o:Oper}(hd: ∀d,o.dst=some d→d<a.tmps.size)(t:TypeId)(x:Operand)
  (ho:o.op= .call { callee:= .builtin .clear,args:= #[x],argTypes:= #[t] }) {st':St} {i:TI} {e:Nat} {j:TI} {c:C} {z:List D}
  (hi:T t=some i) (he:i.sl=some e) (hj:T e=some j) (hc:st.evC x=some c) (hz:j.zero.mapM (toD (fun _=>false) st.h 4)=some z) (hst:clearTo j z o.dst st c=some st'):StepOk P M Z w0 o st' a w:=by
 obtain⟨info,dd,ht⟩:=Be (hT t i hi)
 obtain⟨infe,de,hte⟩:=Be (hT e j hj)
 obtain⟨zv,hzv,hzc⟩:=hte.zero
 have hun: ∀{w:World} (ρ:AE),RepV ρ w Z (.tup []) (.tuple #[]):=fun ρ=>⟨[],rfl,rfl,(by simp)⟩
 unfold clearTo at hst;split at hst
 case h_3=>cases hst
 case h_1=>
  cases hst;have he2:a.eval x= .slice none 0 0:=h.evC hc
  exact .val h hd (x:= .tuple #[]) (by simp[execOp,ho,resolve,invoke,builtin,Builtin.clear_,run_underlying (ht.slice he),he2]) (hun ρ)
 case h_2 b off n=>
  rw[jzd]at hst
  obtain⟨k,hk,hst⟩:=hst
  split at hst
  case h_2=>cases hst
  case h_1 sz cs app=>
   split at hst
   case isFalse=>cases hst
   case isTrue hcond=>
    cases hst;obtain⟨rfl,hlen⟩:=hcond
    obtain⟨ow,how,hroom,hcase⟩:=h.evC hc
    obtain⟨o2,ho2,hr⟩:=h.heap.rep b _ hk
    obtain rfl:o2=ow:=Bi (ho2.symm.trans how);obtain⟨q1,q2,q3,q4,q5⟩:=hr;have hzr:RepL (RepC ρ w Z) j.zero zv.cells.toList:=Ep hzc;have hzs:zv.cells.size=j.size:=by have:=hzr.1;simp at this;rw[←this,hte.zlen]
    obtain⟨hm1,hm2⟩:=Dl hz
    have hers:ersd (fun _=>false) ρ=ρ:=by funext q;simp[ersd]
    have hdz:RepL (RepD w (Ar ρ Z)) z zv.cells.toList:=by
     refine⟨hm1.trans hzr.1,fun q y v hy hv=> ?_⟩
     have hq:q<j.zero.length:=by rw[←hm1];exact(jzg.1 hy).1
     obtain⟨y',hy',hf⟩:=hm2 q _ (AD hq)
     rw[hy]at hy'
     cases hy'
     have:=EP h (fun _=>false) 4 _ v _ (hzr.2 q _ v (AD hq) hv) hf
     rwa [hers]at this
    have hnews:=Rp hdz n;generalize hnw:(Array.range (n*zv.cells.size)).map (zv.cells[· %zv.cells.size]!)=news at hnews;have hzl:z.length=j.size:=by rw[hm1,hte.zlen]
    have hkl:(rep n z).length=n*j.size:=by rw[Hp,hzl]
    have hvl:news.toList.length=n*j.size:=by rw[←hnews.1,hkl]
    have hfit:off*j.size+n*j.size≤cs.length:=by rw[Nat.add_mul]at hlen;exact hlen
    rcases hcase with⟨hn,he2,rfl,rfl⟩|⟨hn,ad,cap,he2,hnc,hcm,had,_⟩
    ·have hsp:splice (0*j.size) (rep 0 z) cs=cs:=by simp[splice,rep]
     rw[hsp]
     refine .new hd (x:= .tuple #[]) (by simp[execOp,ho,resolve,invoke,builtin,Builtin.clear_,run_underlying (ht.slice he),he2]) (h.congr (s':=st.blk b (.row j.size cs app)) (fun _=>rfl) fun q=> ?_) (hun ρ)
     simp only[St.blk];by_cases e:q=b
     ·subst e;rw[Bt,hk]
     ·rw[BD e,BR e]
    ·by_cases hn0:n=0
     ·subst hn0;have hsp:splice (off*j.size) (rep 0 z) cs=cs:=by simp[splice,rep]
      rw[hsp]
      refine .new hd (x:= .tuple #[]) (by simp[execOp,ho,resolve,invoke,builtin,Builtin.clear_,run_underlying (ht.slice he),he2]) (h.congr (s':=st.blk b (.row j.size cs app)) (fun _=>rfl) fun q=> ?_) (hun ρ)
      simp only[St.blk];by_cases e:q=b
      ·subst e;rw[Bt,hk]
      ·rw[BD e,BR e]
     ·replace hn:o2.gone=false:=q4.2.trans hn
      have hspace:off*j.size+news.toList.length≤o2.room*o2.sz:=by rw[hvl,q1];omega
      have hw:=h.write how hn (off:=off*j.size) (vs:=news.toList) hspace (b:= .row j.size (splice (off*j.size) (rep n z) cs) app) fun hk=>⟨q1,q2,by
       rw[F1 _ _ _ (by rw[hkl];exact hfit)];exact q3,q4,fun q y hy=>by
       rw[GI h how hn hspace,hvl]
       rw[Df _ _ _ (by rw[hkl];exact hfit),hkl]at hy
       split at hy
       ·rename_i hq
        rw[if_pos hq]
        have hq2:q - off*j.size<news.toList.length:=by rw[hvl];omega
        exact⟨_,AD hq2,(hnews.2 _ _ _ hy (AD hq2)).keep hk⟩
       ·rename_i hq
        rw[if_neg hq]
        obtain⟨v,hv,hdd⟩:=q5 q y hy
        exact⟨v,hv,hdd.keep hk⟩⟩
      rcases had with hc0|hae
      ·omega
      ·subst hae;have hs2:=run_storeCells_cells (P:=P) o2.g (o2.o+off*j.size) news.toList 0 w (fun q hq=>by
         obtain⟨⟨u,hu⟩,_⟩:=h.heap.owns.cells b o2 how hn (off*j.size+q) (by omega)
         have he:(⟨o2.g,o2.o+off*j.size+0+q,none⟩:Addr)=o2.at (off*j.size+q):=by simp;omega
         rw[he,hu];rfl) (fun q hq=>by
         obtain⟨_,hf⟩:=h.heap.owns.cells b o2 how hn (off*j.size+q) (by omega)
         have he:(⟨o2.g,o2.o+off*j.size+0+q,none⟩:Addr)=o2.at (off*j.size+q):=by simp;omega
         rw[he,hf]) (fun v hv=>by
         obtain⟨q,hq,rfl⟩:=List.getElem_of_mem hv
         exact(hnews.2 q _ _ (AD (by rw[hnews.1];exact hq)) (AD hq)).one)
       refine .new hd (x:= .tuple #[]) ?_ hw (hun ρ);have hzz:Builtin.zeroCells zv.cells n=news:=hnw;have hne: ∀m,n≠m+0∨n=m:=fun m=>by omega
       rw[q1]at he2
       simp only[Nat.add_zero]at hs2;cases n with
       |zero=>exact absurd rfl hn0
       |succ n=>simp[execOp,ho,resolve,invoke,builtin,Builtin.clear_,run_underlying (ht.slice he),he2,zeroValue,typeInfo,hte.inf,hzv,hzz,Own.at,hs2]
theorem jkH(h:Rel M Z w0 ρ st a w)(hT:A5 P T){o:Oper}(hd: ∀d,o.dst=some d→d<a.tmps.size){st':St}(hs:DH T o st=some st'):StepOk P M Z w0 o st' a w:=by
 unfold DH at hs;split at hs
 ·grind[jjJ]
 ·grind[N2]
 ·exact N2 h hd _ (.inr ‹_›) hs
 ·grind[Y1]
 ·grind[jbP]
 ·grind[ZB]
 ·grind[jb6]
 ·grind[XX]
 ·grind[XG]
 ·grind[jae]
 ·grind[U4]
 ·grind[jcb,Qu]
 ·grind[jhW]
 ·grind[jjK]
 ·grind[YU]
 ·grind[jbg]
 ·grind[jeR]
 ·grind[jgk]
 ·grind[jd5]
 ·grind[jgX]
 ·grind[jeN]
 ·grind[VS]
 ·grind[ZY]
 ·rename_i b args ts ho
  unfold FK at hs;split at hs
  ·rename_i t x ht hx
   have hts:ts= #[t]:=by grind
   have hxs:args= #[x]:=by grind
   grind[jj7]
  ·rename_i t t' x y ht hx
   have hts:ts= #[t,t']:=by grind
   have hxs:args= #[x,y]:=by grind
   grind[Option.bind_eq_some_iff,jjn,WR]
  ·rename_i t t' x y ht hx
   have hts:ts= #[t,t']:=by grind
   have hxs:args= #[x,y]:=by grind
   subst hts;subst hxs;simp only[jzd]at hs
   grind[Option.bind_eq_some_iff,jhz]
  ·rename_i x r hx
   have hxs:args=(x::r).toArray:=by grind
   subst hxs;exact UO h hd false x r ts ho hs
  ·rename_i t x ht hx
   have hts:ts= #[t]:=by grind
   have hxs:args= #[x]:=by grind
   grind[Option.bind_eq_some_iff,jcJ]
  ·rename_i x r hx
   have hxs:args=(x::r).toArray:=by grind
   subst hxs;exact UO h hd true x r ts ho hs
  ·rename_i t x ht hx
   have hts:ts= #[t]:=by grind
   have hxs:args= #[x]:=by grind
   grind[jhl]
  ·cases hs
 ·grind[jgc]
 ·exact ji5 h hd _ ‹_› hs
 ·grind[X5]
 ·grind[jaE]
 ·grind[Y2]
 ·grind[XE]
 ·grind[jiK]
 ·cases hs
end
end Go.Va
namespace Go.Va
open Go.RowKit
variable [Gv]
section
variable {P:Program} {T:AH} {M Z:Addr→Prop} {w0 w:World} {ρ:AE} {st:St} {a:Act}
theorem GP{Z':Addr→Prop}{w':World}{x:D}{v:Value}(hf:x.flat=true)(h:RepD w Z x v):RepD w' Z' x v:=by
 cases h with
 |int k n=>exact .int k n
 |bool b=>exact .bool b
 |str s=>exact .str s
 |nilFn=>exact .nilFn
 |nilPtr=>exact .nilPtr
 |lit _ h=>exact .lit _ h
 |any _ h=>exact .any _ h
 |nn t x=>exact .nn t x
 |slice=>cases hf
 |snil=>cases hf
 |ref=>cases hf
 |iface=>cases hf
 |fn=>cases hf
theorem PR{ρs ρ2:AE}{Zc:Addr→Prop}{w':World}{k:Nat}{fl:Bool}(tr: ∀x v,(fl=true→D.flat x=true)→RepD w' (Ar ρs Zc) x v→RepD w' (Ar ρ2 Z) x v)(hk: ∀o,ρs k=some o→ρ2 k=some o)
  {c:RC} {v:Value} (hfl:fl=true→c.flat=true) (h:RepC ρs w' Zc (c.imp k) v):RepC ρ2 w' Z (c.imp k) v:=by
 cases c with
 |d x=>exact tr x v hfl h
 |own sz n cs=>obtain⟨o,ho,r⟩:=h;exact⟨o,hk o ho,r⟩
theorem PW{ρs ρ2:AE}{Zc:Addr→Prop}{w':World}{k:Nat}{fl:Bool}(tr: ∀x v,(fl=true→D.flat x=true)→RepD w' (Ar ρs Zc) x v→RepD w' (Ar ρ2 Z) x v)(hk: ∀o,ρs k=some o→ρ2 k=some o)
  {u:RU} {v:Value} (hfl:fl=true→u.flat=true) (h:RepU ρs w' Zc (u.imp k) v):RepU ρ2 w' Z (u.imp k) v:=by
 cases u with
 |c x=>exact PR tr hk hfl h
 |agg cs=>
  obtain⟨vs,rfl,h1,h2⟩:=h
  refine⟨vs,rfl,h1,fun j c v hc hv=> ?_⟩
  have hr:=h2 j c v hc hv;simp only[Bf,jze]at hc;obtain⟨c0,hc0,rfl⟩:=hc;refine PR tr hk (fun hf=> ?_) hr
  grind[RU.flat,List.all_eq_true,List.mem_of_getElem?]
theorem Lx{ρs ρ2:AE}{Zc:Addr→Prop}{w':World}{k:Nat}{fl:Bool}(tr: ∀x v,(fl=true→D.flat x=true)→RepD w' (Ar ρs Zc) x v→RepD w' (Ar ρ2 Z) x v)(hk: ∀o,ρs k=some o→ρ2 k=some o)
  {r:R} {v:Value} (hfl:fl=true→r.flat=true) (h:RepV ρs w' Zc (r.imp k) v):RepV ρ2 w' Z (r.imp k) v:=by
 cases r with
 |u x=>exact PW tr hk hfl h
 |tup xs=>
  obtain⟨vs,rfl,h1,h2⟩:=h
  refine⟨vs,rfl,h1,fun j c v hc hv=> ?_⟩
  have hr:=h2 j c v hc hv;simp only[Bf,jze]at hc;obtain⟨c0,hc0,rfl⟩:=hc;refine PW tr hk (fun hf=> ?_) hr
  grind[R.flat,List.all_eq_true,List.mem_of_getElem?]
theorem RC.rows_row{c:RC}{b:Blk}(h:b∈c.rows): ∃sz n cs,b= .row sz cs true∧c= .own sz n cs:=by
 cases c with
 |d x=>simp[RC.rows]at h
 |own sz n cs=>simp[RC.rows]at h;grind
theorem RU.rows_row{c:RU}{b:Blk}(h:b∈c.rows): ∃sz cs,b= .row sz cs true∧(c.flat=true→cs.all D.flat=true):=by
 cases c with
 |c x=>obtain⟨sz,n,cs,h1,rfl⟩:=RC.rows_row h;exact⟨sz,cs,h1,fun h=>h⟩
 |agg l=>
  simp only[RU.rows,List.mem_flatMap]at h;obtain⟨x,hx,h⟩:=h;obtain⟨sz,n,cs,h1,rfl⟩:=RC.rows_row h;refine⟨sz,cs,h1,fun h=> ?_⟩
  simp only[RU.flat,jzy]at h;exact h _ hx
theorem R.rows_row{c:R}{b:Blk}(h:b∈c.rows): ∃sz cs,b= .row sz cs true∧(c.flat=true→cs.all D.flat=true):=by
 cases c with
 |u x=>exact RU.rows_row h
 |tup l=>
  grind[R.rows,RU.rows_row,R.flat,List.all_eq_true]
theorem jhQ(h:Rel M Z w0 ρ st a w){dst:Option Nat}(hd: ∀d,dst=some d→d<a.tmps.size){ids:List Nat}{res:R}{w':World}{v:Value}(hx:Ext w w')(hr:Hb w w' (Ar (AJ ids ρ) Z) res v):
  ∃ρ',Rel M Z w0 ρ' (st.back dst ids res) (a.put dst v) w':=by
 obtain⟨hlen,o,hfar,hrep⟩:=hr
 obtain⟨hv,hh⟩:=hrep (dst.getD 0)
 obtain⟨ρ1,h1,hout⟩: ∃ρ1,Rel M Z w0 ρ1 (if res.flat then st else st.freeze ids) a w∧(res.flat=false→ ∀ad,Ar ρ1 Z ad→Ar (AJ ids ρ) Z ad):=by
  cases hf:res.flat with
  |true=>grind
  |false=>exact⟨AJ ids ρ,by simpa using h.freeze ids,fun _ _ h=>h⟩
 cases hrows:res.rows with
 |nil=>
  rw[hrows]at hv hh
  have tr: ∀x v,(res.flat=true→D.flat x=true)→RepD w' (Ar (B3 (dst.getD 0) [] o) (Ar (AJ ids ρ) Z)) x v→RepD w' (Ar ρ1 Z) x v:=fun x v hf hd'=>by
   cases hfl:res.flat with
   |true=>grind[GP]
   |false=>exact hd'.keep (Keep.mono fun ad h=> .inl (hout hfl ad h))
  have:=Lx tr (fun o' ho'=>by cases ho') (fun h=>h) hv
  refine⟨ρ1,?_⟩
  have hp:=(h1.ext hx).put (dst:=dst) hd this
  grind[St.back]
 |cons b r=>
  rw[hrows]at hv hh hlen
  obtain⟨sz,cs,rfl,hcs⟩:=R.rows_row (c:=res) (b:=b) (by rw[hrows];simp)
  have hs:B3 (dst.getD 0) (.row sz cs true::r) o (dst.getD 0)=some o:=by simp[B3]
  obtain⟨o',ho',hb⟩:=hh.rep (dst.getD 0) (.row sz cs true) (by simp[Bt])
  obtain rfl:o'=o:=(by grind)
  obtain⟨q1,q2,q3,q4,q5⟩:=hb
  have osub: ∀ad,(res.flat=false)→Ar (BW ρ1 (dst.getD 0) o') Z ad→Ar (B3 (dst.getD 0) (.row sz cs true::r) o') (Ar (AJ ids ρ) Z) ad:=fun ad hfl ho=>by
   rcases ho with hz|⟨j,oj,hj,hoj⟩
   ·exact .inl (.inl hz)
   ·by_cases e:j=dst.getD 0
    ·subst e;rw[Cd]at hj;cases hj;exact .inr ⟨_,_,hs,hoj⟩
    ·rw[Gn _ _ e]at hj;exact .inl (hout hfl ad (.inr (by grind)))
  have tr: ∀x v,(res.flat=true→D.flat x=true)→RepD w' (Ar (B3 (dst.getD 0) (.row sz cs true::r) o') (Ar (AJ ids ρ) Z)) x v→RepD w' (Ar (BW ρ1 (dst.getD 0) o') Z) x v:=fun x v hf hd'=>by
   cases hfl:res.flat with
   |true=>grind[GP]
   |false=>exact hd'.keep (by grind[Keep.mono])
  have hadd:=(h1.purge (dst.getD 0)).add (i:=dst.getD 0) (o:=o') (b:= .row sz cs true) (BZ _ _ _) (fun ad hh=>Nat.le_trans h1.fr.size (hfar ad hh)) (by grind) hx (hh.owns.cells _ _ hs) (hh.owns.lim _ _ hs) ⟨q1,q2,q3,q4,fun j x hx'=>by
    obtain⟨u,hu,hd'⟩:=q5 j x hx'
    refine⟨u,hu,tr x u (fun hf=> ?_) hd'⟩
    grind⟩ (fun hm=>by obtain⟨hm1,hm2⟩:=hm;grind)
  have:=Lx tr (by grind[Cd]) (fun h=>h) hv
  refine⟨BW ρ1 (dst.getD 0) o',?_⟩
  have hp:=Rel.put (dst:=dst) hadd hd this
  change Rel M Z w0 (upd (upd ρ1 (dst.getD 0) none) (dst.getD 0) (some o')) _ _ _
  grind[St.back,St.new,Blk.on]
theorem E9(h:Rel M Z w0 ρ st a w)(ids:List Nat){us:List U}{as:List A}{vals:List Value}(hv:RepL (RepU ρ w Z) us vals)(ha:us.mapM (U.toA ids st.h)=some as):RepL (A.rep w (Ar (AJ ids ρ) Z)) as vals:=by
 obtain⟨m1,m2⟩:=Dl ha
 refine⟨m1.trans hv.1,fun j A0 v hA hv'=> ?_⟩
 have hj:j<us.length:=by rw[←m1];exact(jzg.1 hA).1
 obtain⟨y,hy,ha1⟩:=m2 j _ (AD hj)
 rw[hA]at hy
 cases hy;have hr:=hv.2 j _ v (AD hj) hv'
 generalize us[j]=u at ha1 hr;have lst: ∀{cs:List C} {ds:List D} {vs:List Value},cs.mapM (toD (ids.contains ·) st.h 4)=some ds→RepL (RepC ρ w Z) cs vs→RepL (RepD w (Ar (AJ ids ρ) Z)) ds vs:=fun {cs ds vs} hd hl=>by
  obtain⟨m1,m2⟩:=Dl hd
  refine⟨m1.trans hl.1,fun j x v hx hv=> ?_⟩
  have hj:j<cs.length:=by rw[←m1];exact(jzg.1 hx).1
  obtain⟨y,hy,hf⟩:=m2 j _ (AD hj)
  rw[hx]at hy
  cases hy;exact EP h _ 4 _ v _ (hl.2 j _ v (AD hj) hv) hf
 cases u with
 |c c0=>
  simp only[U.toA,jze]at ha1;obtain⟨d,hd,rfl⟩:=ha1;exact EP h _ 4 c0 _ d hr hd
 |agg cs=>
  simp only[U.toA,jze]at ha1;obtain⟨ds,hd,rfl⟩:=ha1;obtain⟨vs,hvs,hl⟩:=hr;exact⟨vs,hvs,lst hd hl⟩
 |clo f cs=>
  simp only[U.toA,jze]at ha1;obtain⟨ds,hd,rfl⟩:=ha1;obtain⟨vs,hvs,hl⟩:=hr;obtain⟨h1,h2⟩:=lst hd hl;rw[hvs];exact RepD.fn f ds vs h1 h2
theorem M5(h:Rel M Z w0 ρ st a w){xs:List Operand}{us:List U}(hu:xs.mapM st.evU=some us):RepL (RepU ρ w Z) us (xs.map a.eval):=by
 obtain⟨m1,m2⟩:=Dl hu
 refine⟨by simpa using m1,fun j u v hx hv=> ?_⟩
 simp only[Bf,jze]at hv;obtain⟨x,hx',rfl⟩:=hv;obtain⟨y,hy,hf⟩:=m2 j x hx';rw[hx]at hy;cases hy;exact h.evU hf
theorem Mp(h:Rel M Z w0 ρ st a w)(ids:List Nat){xs:List Operand}{us:List U}{as:List A}(hu:xs.mapM st.evU=some us)(ha:us.mapM (U.toA ids st.h)=some as):
  RepL (A.rep w (Ar (AJ ids ρ) Z)) as (xs.map a.eval):=E9 h ids (M5 h hu) ha
theorem jdr{α β:Type}{f:α→Option β}{l1 l2:List α}{r:List β}(h:(l1++l2).mapM f=some r): ∃r1 r2,r=r1++r2∧l1.mapM f=some r1∧l2.mapM f=some r2:=by
 simp only[List.mapM_append,Option.pure_def,Option.bind_eq_bind,jzd,Option.some.injEq]at h
 grind
def Bj(ids:List Nat)(ρ:AE):AE:=fun j=>if ids.contains j then ρ j else none
theorem A9{ids:List Nat}{j:Nat}{o:Own}(h:Bj ids ρ j=some o):j∈ids∧ρ j=some o:=by
 grind[Bj]
theorem D5{ids:List Nat}{j:Nat}(h:j∈ids):Bj ids ρ j=ρ j:=by simp_all[Bj,if_pos]
theorem TW(ids:List Nat)(ad:Addr):Ar (Bj ids ρ) (Ar (AJ ids ρ) Z) ad↔Ar ρ Z ad:=by
 constructor
 ·rintro (h|⟨j,o,hj,ho⟩)
  ·exact CD h
  ·exact .inr ⟨j,o,(A9 hj).2,ho⟩
 ·rintro (h|⟨j,o,hj,ho⟩)
  ·exact .inl (.inl h)
  ·by_cases e:j∈ids
   ·exact .inr ⟨j,o,(D5 e).trans hj,ho⟩
   ·exact .inl (.inr ⟨j,o,by simp[AJ,ersd,e,hj],ho⟩)
theorem repD_rhoR{ids:List Nat}{x:D}{v:Value}:RepD w (Ar (Bj ids ρ) (Ar (AJ ids ρ) Z)) x v↔RepD w (Ar ρ Z) x v:=by
 have:Ar (Bj ids ρ) (Ar (AJ ids ρ) Z)=Ar ρ Z:=funext (by grind[TW])
 rw[this]
theorem E7{ids:List Nat}{c:C}{v:Value}(hi: ∀i,c.id? =some i→i∈ids)(h:RepC ρ w Z c v):RepC (Bj ids ρ) w (Ar (AJ ids ρ) Z) c v:=by
 cases c with
 |d x=>exact repD_rhoR.2 h
 |nl=>exact h
 |bad=>exact h
 |sl i off n=>obtain⟨o,ho,r⟩:=h;exact⟨o,(D5 (hi i rfl)).trans ho,r⟩
 |ptr i off=>obtain⟨o,ho,r⟩:=h;exact⟨o,(D5 (hi i rfl)).trans ho,r⟩
 |mp q i=>obtain⟨o,ho,r⟩:=h;exact⟨o,(D5 (hi i rfl)).trans ho,r⟩
theorem Lj{ids:List Nat}{c:C}{v:Value}(h:RepC (Bj ids ρ) w (Ar (AJ ids ρ) Z) c v):RepC ρ w Z c v:=by
 cases c with
 |d x=>exact repD_rhoR.1 h
 |nl=>exact h
 |bad=>exact h
 |sl i off n=>obtain⟨o,ho,r⟩:=h;exact⟨o,(A9 ho).2,r⟩
 |ptr i off=>obtain⟨o,ho,r⟩:=h;exact⟨o,(A9 ho).2,r⟩
 |mp q i=>obtain⟨o,ho,r⟩:=h;exact⟨o,(A9 ho).2,r⟩
theorem OV{ids:List Nat}{u:U}{v:Value}(hi:DB ids u.all)(h:RepU ρ w Z u v):RepU (Bj ids ρ) w (Ar (AJ ids ρ) Z) u v:=by
 cases u with
 |c x=>exact E7 (hi x (by simp[U.all])) h
 |agg cs=>obtain⟨vs,rfl,h1,h2⟩:=h;exact⟨vs,rfl,h1,fun j x v hx hv=>E7 (hi x (BY hx)) (h2 j x v hx hv)⟩
 |clo f cs=>obtain⟨vs,rfl,h1,h2⟩:=h;exact⟨vs,rfl,h1,fun j x v hx hv=>E7 (hi x (BY hx)) (h2 j x v hx hv)⟩
theorem Jb{ids:List Nat}{o:Own}{b:Blk}(hi:KW ids b)(h:RepB ρ w Z o b):RepB (Bj ids ρ) w (Ar (AJ ids ρ) Z) o b:=by
 cases b with
 |row sz cs app=>obtain⟨q1,q2,q3,q4,q5⟩:=h;exact⟨q1,q2,q3,q4,fun j x hx=>by obtain⟨v,hv,hd⟩:=q5 j x hx;exact⟨v,hv,repD_rhoR.2 hd⟩⟩
 |box cs=>obtain⟨q1,q2,q3,q4⟩:=h;exact⟨q1,q2,q3,fun j x hx=>by obtain⟨v,hv,h1,hd⟩:=q4 j x hx;exact⟨v,hv,h1,E7 (hi x (by grind)) hd⟩⟩
 |fbox f cs=>obtain⟨q1,q2,q3,v,hv,hd⟩:=h;exact⟨q1,q2,q3,v,hv,OV (u:= .clo f cs) hi hd⟩
 |mp x=>exact h
 |gh cs=>exact hi.elim
theorem jiW{ids:List Nat}{o:Own}{b:Blk}(h:RepB (Bj ids ρ) w (Ar (AJ ids ρ) Z) o b):RepB ρ w Z o b:=by
 cases b with
 |row sz cs app=>obtain⟨q1,q2,q3,q4,q5⟩:=h;exact⟨q1,q2,q3,q4,fun j x hx=>by obtain⟨v,hv,hd⟩:=q5 j x hx;exact⟨v,hv,repD_rhoR.1 hd⟩⟩
 |box cs=>obtain⟨q1,q2,q3,q4⟩:=h;exact⟨q1,q2,q3,(by grind[Lj])⟩
 |fbox f cs=>obtain⟨q1,q2,q3,v,hv,vs,rfl,hl⟩:=h;exact⟨q1,q2,q3,_,hv,vs,rfl,hl.1,fun j x u hx hu=>Lj (hl.2 j x u hx hu)⟩
 |mp x=>exact h
 |gh cs=>obtain⟨q1,q2,q3⟩:=h;exact⟨q1,q2,(by grind[Lj])⟩
theorem Jh{ids:List Nat}{c:C}{v:Value}(h:RepC ρ w Z c v):RepC (Bj ids ρ) w (Ar (AJ ids ρ) Z) (c.on (B1 ids)) v:=by
 have one:one v:=h.one;have key:(∀i,c.id? =some i→i∈ids)→RepC (Bj ids ρ) w (Ar (AJ ids ρ) Z) c v:=fun hi=>E7 hi h
 cases c with
 |d x=>exact key fun i hi=>(by cases hi)
 |nl=>exact h
 |bad=>exact h
 |sl i off n=>
  simp only[C.on,B1];split
  ·rename_i hm;exact key fun k hk=>by cases hk;simpa using hm
  ·exact one
 |ptr i off=>
  simp only[C.on,B1];split
  ·rename_i hm;exact key fun k hk=>by cases hk;simpa using hm
  ·exact one
 |mp q i=>
  simp only[C.on,B1];split
  ·rename_i hm;exact key fun k hk=>by cases hk;simpa using hm
  ·exact one
theorem T0{ids:List Nat}{cs:List C}{vs:List Value}(h:RepL (RepC ρ w Z) cs vs):RepL (RepC (Bj ids ρ) w (Ar (AJ ids ρ) Z)) (cs.map (C.on (B1 ids))) vs:=by
 refine⟨by simpa using h.1,fun j x v hx hv=> ?_⟩
 rw[Bf,jze]at hx
 obtain⟨y,hy,rfl⟩:=hx
 exact Jh (h.2 j y v hy hv)
theorem PG{ids:List Nat}{u:U}{v:Value}(h:RepU ρ w Z u v):RepU (Bj ids ρ) w (Ar (AJ ids ρ) Z) (u.on (B1 ids)) v:=by
 cases u with
 |c x=>exact Jh h
 |agg cs=>obtain⟨vs,e,hl⟩:=h;exact⟨vs,e,T0 hl⟩
 |clo f cs=>obtain⟨vs,e,hl⟩:=h;exact⟨vs,e,T0 hl⟩
theorem jhI{ids:List Nat}{o:Own}{b:Blk}(h:RepB ρ w Z o b):RepB (Bj ids ρ) w (Ar (AJ ids ρ) Z) o (b.on (B1 ids)):=by
 cases b with
 |row sz cs app=>exact Jb (b:= .row sz cs app) trivial h
 |box cs=>
  obtain⟨q1,q2,q3,q4⟩:=h
  refine⟨q1,by simpa using q2,q3,fun j x hx=> ?_⟩
  rw[Bf,jze]at hx
  obtain⟨y,hy,rfl⟩:=hx
  grind[Jh]
 |fbox f cs=>obtain⟨q1,q2,q3,v,hv,hd⟩:=h;exact⟨q1,q2,q3,v,hv,PG (u:= .clo f cs) hd⟩
 |mp x=>exact h
 |gh cs=>
  obtain⟨q1,q2,q3⟩:=h
  refine⟨q1,q2,fun j x hx u hu=> ?_⟩
  rw[Bf,jze]at hx
  obtain⟨y,hy,rfl⟩:=hx
  grind[Jh]
theorem HQ{α:Type}(k:Nat)(l2:List (Nat×α)): ∀l1:List (Nat×α),lk k (l1++l2)=(lk k l1).or (lk k l2)
 |[]=>rfl
 |(j,v)::r=>by
  simp only[List.cons_append,lk];split
  ·rfl
  ·exact HQ k l2 r
theorem Fr.into{M Mc:Addr→Prop}{w0 w w':World}(h:Fr M w0 w)(k:Fr Mc w w')(hm: ∀ad,Mc ad→M ad∨w0.heap.size≤ad.block):Fr M w0 w' where
 os:=k.os.trans h.os
 drawn:=h.drawn.trans k.drawn
 tape:=k.tape.trans h.tape
 output:=k.output.trans h.output
 size:=Nat.le_trans h.size k.size
 cell:=fun ad v hn hv=>k.cell ad v (fun hc=>by
  rcases hm ad hc with h1|h1
  ·exact hn h1
  ·have:=World.block_lt_of_cell? w0 ad hv;omega) (h.cell ad v hn hv)
 frz:=fun ad hn hl=>(k.frz ad (by grind) (Nat.lt_of_lt_of_le hl h.size)).trans (h.frz ad hn hl)
 blk:=fun j hl hn=>(k.blk j (Nat.lt_of_lt_of_le hl h.size) (by grind)).trans (h.blk j hl hn)
theorem Fr.mono{M M':Addr→Prop}{w0 w:World}(h:Fr M w0 w)(hm: ∀ad,M ad→M' ad):Fr M' w0 w where
 os:=h.os
 drawn:=h.drawn
 tape:=h.tape
 output:=h.output
 size:=h.size
 cell:=fun ad v hn hv=>h.cell ad v (by grind) hv
 frz:=fun ad hn hl=>h.frz ad (by grind) hl
 blk:=fun j hl hn=>h.blk j hl (by grind)
theorem G0{Mc:Addr→Prop}{w w':World}(hx:Fr Mc w w'){g:Nat}(hmc: ∀ad:Addr,ad.block=g→ ¬Mc ad){y:Obj}(hy:w.heap[g]? =some y):w'.heap[g]? =some y:=
 (hx.blk g (by grind) hmc).trans hy
theorem jbs(h:Rel M Z w0 ρ st a w){dst:Option Nat}(hd: ∀d,dst=some d→d<a.tmps.size){ids:List Nat}{res:R}{w':World}{v:Value}{h2:List (Nat×Blk)}(hrows:res.rows=[])(hnm: ∀i∈ids,∀o,ρ i=some o→ ¬o.mp)
  (hx:Fr (Cells (Bj ids ρ)) w w') (hh:Heap (Bj ids ρ) w' (Ar (AJ ids ρ) Z) h2) (hv:RepV (fun _=>none) w' (Ar (Bj ids ρ) (Ar (AJ ids ρ) Z)) (res.imp 0) v):
  Rel M Z w0 ρ (st.backW dst ids h2 res) (a.put dst v) w':=by
 have hcell: ∀ad,Cells (Bj ids ρ) ad→Ar ρ Z ad:=fun ad ⟨j,o,hj,ho⟩=> .inr ⟨j,o,(A9 hj).2,ho⟩
 have hk:Keep w w' (Ar ρ Z) (Ar ρ Z):=fun ad x hn hv=>⟨hx.cell ad x (by grind) hv,hn⟩
 have ht:Cf ρ ρ w w' Z Dt:=fun c v hc=>by rw[C.on_id];exact hc.keep hk fun _ _=>rfl
 have stay: ∀j o,j∉ids→ρ j=some o→o.gone=false→ ∀k,k<o.room*o.sz→w'.cell? (o.at k)=w.cell? (o.at k)∧w'.frozen? (o.at k)=w.frozen? (o.at k):=fun j o hj ho hg k hk'=>by
  obtain⟨⟨u,hu⟩,hf⟩:=h.heap.owns.cells j o ho hg k hk'
  suffices hnm: ¬Cells (Bj ids ρ) (o.at k) from⟨by rw[hu];exact hx.cell _ u hnm hu,hx.frz _ hnm (World.block_lt_of_cell? w _ hu)⟩
  rintro⟨i,o',hi,hh'⟩
  obtain⟨h1,h2⟩:=A9 hi
  exact h.heap.owns.apart j i o o' ho h2 (by grind) _ (Own.has_at hg hk') hh'
 have hobj: ∀i o,ρ i=some o→o.mp→ ∀y:Obj,w.heap[o.g]? =some y→w'.heap[o.g]? =some y:=fun i o hi hm y hy=>G0 hx (fun ad e ⟨j,o',hj,ho⟩=>by
  obtain⟨h1,h2⟩:=A9 hj
  exact h.heap.owns.apart j i o' o h2 hi (by grind) ad ho (ER hm e)) hy
 have hrel:Rel M Z w0 ρ { st with h:=h2++Ds (ids.contains ·) st.h } a w':=
  {fr:=h.fr.into hx fun ad ⟨j,o,hj,ho⟩=>h.mine j o ad (A9 hj).2 ho
   heap:=⟨⟨fun j o ho hg k hk'=>by
     by_cases e:j∈ids
     ·exact hh.owns.cells j o ((D5 e).trans ho) hg k hk'
     ·obtain⟨s1,s2⟩:=stay j o e ho hg k hk'
      rw[s1,s2]
      exact h.heap.owns.cells j o ho hg k hk',h.heap.owns.apart,h.heap.owns.lim⟩,fun j b hb=>by
    simp only at hb;rw[HQ]at hb;cases hl:lk j h2 with
    |some b2=>
     rw[hl]at hb
     cases hb;obtain⟨o,ho,hr⟩:=hh.rep j _ hl
     exact⟨o,(A9 ho).2,jiW hr⟩
    |none=>
     rw[hl]at hb
     simp only[Option.none_or]at hb;rw[FZ]at hb;split at hb
     ·cases hb
     ·rename_i e
      have e:j∉ids:=by simpa using e
      obtain⟨o,ho,hr⟩:=h.heap.rep j b hb
      have:=hr.turn ht hk (by grind) (by grind)
      grind[Blk.on_id]⟩
   mine:=h.mine
   out:=h.out
   mz:=h.mz
   tmps:=fun t v hv=>by
    have:=(h.tmps t v hv).turn ht
    rwa [V.on_id]at this
   defers:=h.defers
   mps:=h.mps.to (by grind) }
 have hv':RepV ρ w' Z (res.imp 0) v:=Lx (fl:=false) (fun x v _ hd'=>hd'.keep (Keep.mono fun ad ho=> .inl ((TW ids ad).2 ho))) (by simp) (by simp) hv
 exact hrel.put hd hv'
theorem IN{α:Type}{l:List (Nat×α)}: ∀{l0:List (Nat×α)},AW l l0→ ∀k v,lk k l0=some v→lk k l=some v
 |[],_,k,v,h=>by cases h
 |(j,u)::r,⟨h1,h2⟩,k,v,h=>by
  unfold lk at h;split at h
  ·grind
  ·exact IN h2 k v h
def TrLe(s' s:St):Prop:= ∀x r,lk YS s'.t=some (.tr x r)→lk YS s.t=some (.tr x r)
theorem TrLe.refl(s:St):TrLe s s:=fun _ _ h=>h
theorem TrLe.trans{s1 s2 s3:St}(h:TrLe s1 s2)(k:TrLe s2 s3):TrLe s1 s3:=fun x r hh=>k x r (h x r hh)
theorem TrLe.put{s:St}{d:Option Nat}{v:V}(hd: ∀k,d=some k→k<YS):TrLe (s.put d v) s:=fun x r h=>by
 cases d with
 |none=>exact h
 |some k=>
  simp only[St.put]at h;rw[BD (by grind),BR (by grind)]at h
  exact h
theorem TrLe.on{s:St}(g:Nat→C→C):TrLe (s.on g) s:=fun x r h=>by
 simp only[St.on,BN,jze]at h;obtain⟨v,hv,he⟩:=h;cases v with
 |u=>cases he
 |tup=>cases he
 |tr x' r'=>grind[V.on,V.tr.injEq]
theorem TrLe.hp{s:St}{h:List (Nat×Blk)}:TrLe { s with h:=h } s:=fun _ _ h=>h
theorem TrLe.purge{s:St}(i:Nat):TrLe (s.purge i) s:=fun x r h=>TrLe.on _ x r h
theorem TrLe.purges: ∀(l:List Nat) {s:St},TrLe (purges l s) s
 |[],s=>TrLe.refl s
 |i::l,s=>(TrLe.purges l (s:=s.purge i)).trans (TrLe.purge i)
theorem TrLe.blk{s:St}(i:Nat)(b:Blk):TrLe (s.blk i b) s:=fun _ _ h=>h
theorem TrLe.drop{s:St}(i:Nat):TrLe (s.drop i) s:=fun _ _ h=>h
theorem TrLe.new{s:St}(i:Nat)(b:Blk):TrLe (s.new i b) s:=fun x r h=>TrLe.purge i x r h
theorem TrLe.freezeK{s:St}(ok:Nat→Bool):TrLe (s.freezeK ok) s:=fun x r h=>TrLe.on _ x r h
theorem TrLe.freeze{s:St}(ids:List Nat):TrLe (s.freeze ids) s:=by
 cases ids with
 |nil=>exact TrLe.refl s
 |cons i r=>exact TrLe.freezeK _
theorem TrLe.sealW{s s':St}{ids:List Nat}{cs:List C}{ds:List D}(h:s.sealW ids cs=some (ds,s')):TrLe s' s:=by
 simp only[St.sealW,jze,Prod.mk.injEq]at h;obtain⟨_,_,_,rfl⟩:=h;exact TrLe.freeze ids
theorem TrLe.back{s:St}{d:Option Nat}{ids:List Nat}{res:R}(hd: ∀k,d=some k→k<YS):TrLe (s.back d ids res) s:=by
 grind[St.back,TrLe.put,TrLe,TrLe.refl,TrLe.freeze,TrLe.new]
theorem TrLe.backW{s:St}{d:Option Nat}{ids:List Nat}{h2:List (Nat×Blk)}{res:R}(hd: ∀k,d=some k→k<YS):TrLe (s.backW d ids h2 res) s:=(TrLe.put hd).trans TrLe.hp
theorem TrLe.backX{s:St}{d:Option Nat}{ids nw fz:List Nat}{cs:List C}{h2:List (Nat×Blk)}(hd: ∀k,d=some k→k<YS):TrLe (s.backX d ids nw fz cs h2) s:=
 (TrLe.put hd).trans (TrLe.hp.trans ((TrLe.on _).trans ((TrLe.purges nw).trans (TrLe.freeze fz))))
theorem TrLe.backH{s:St}{d:Option Nat}{ids nw:List Nat}{gs gs':List C}{h2:List (Nat×Blk)}{v:V}(hd: ∀k,d=some k→k<YS):TrLe (s.backH d ids nw gs gs' h2 v) s:=(TrLe.put hd).trans (TrLe.hp.trans (TrLe.on _))
theorem TrLe.mk{s s':St}{d:Option Nat}{b:Blk}{c:Nat→C}(hd: ∀k,d=some k→k<YS)(h:mk d s b c=some s'):TrLe s' s:=by
 simp only[Va.mk,jze]at h;obtain⟨k,rfl,rfl⟩:=h;exact(TrLe.put hd).trans (TrLe.new _ _)
theorem TrLe.rn{s:St}(i j:Nat):TrLe (s.rn i j) s:=by
 unfold St.rn;split
 ·exact TrLe.refl s
 ·split
  ·exact TrLe.refl s
  ·exact TrLe.hp.trans (TrLe.on _)
theorem TrLe.rns: ∀(l:List (Nat×Nat)) {s:St},TrLe (rns l s) s
 |[],s=>TrLe.refl s
 |(i,j)::l,s=>(TrLe.rns l (s:=s.rn i j)).trans (TrLe.rn i j)
theorem TrLe.le{s0 s:St}(h:s0.le s):TrLe s0 s:=fun x r hh=>IN h.1 _ _ hh
theorem TrLe.storeB{s s':St}{b off:Nat}{v:List C}{k:Blk}(h:s.storeB b off v k=some s'):TrLe s' s:=by
 cases k with
 |box cs=>grind[St.storeB,TrLe.blk]
 |fbox f cs=>simp[St.storeB]at h
 |mp x=>simp[St.storeB]at h
 |gh x=>simp[St.storeB]at h
 |row sz cs app=>
  simp only[St.storeB,jzd]at h;obtain⟨p,hp,h⟩:=h;split at h
  ·split at h<;>cases h
   exact(TrLe.blk _ _).trans (TrLe.sealW hp)
  ·cases h
theorem TrLe.store{s s':St}{i:TI}{c:C}{u:U}(h:s.store i c u=some s'):TrLe s' s:=by
 unfold St.store at h;split at h
 ·split at h
  ·simp only[jzd]at h;obtain⟨k,_,h⟩:=h;rcases Ro h with⟨_,_,_,_,_,_,rfl⟩|h
   ·exact TrLe.blk _ _
   ·exact TrLe.storeB h
  ·cases h
 ·cases h
theorem TrLe.appGo{s s':St}{e:TI}{d:Nat}{cs:List D}{n:Nat}{news:List D}{m:Nat}(hd:d<YS)(h:s.appGo e d cs n news m=some s'):TrLe s' s:=by
 unfold St.appGo at h;split at h<;>cases h;exact(TrLe.put (by grind)).trans (TrLe.new _ _)
theorem TrLe.app{s s':St}{e:TI}{d:Nat}{x:C}{news:List D}{m:Nat}(hd:d<YS)(h:s.app e d x news m=some s'):TrLe s' s:=by
 unfold St.app at h;split at h
 ·exact TrLe.appGo hd h
 ·simp only[jzd]at h;obtain⟨b,_,h⟩:=h;split at h
  ·split at h
   ·exact(TrLe.appGo hd h).trans (TrLe.drop _)
   ·split at h
    ·exact(TrLe.appGo hd h).trans (TrLe.drop _)
    ·cases h
  ·cases h
 ·cases h
theorem TrLe.copyTo{s s':St}{e:TI}{d:Option Nat}{i off n:Nat}{p:Nat×List D}{b:Blk}(hd: ∀k,d=some k→k<YS)(h:copyTo e d i off n s p b=some s'):TrLe s' s:=by
 unfold Va.copyTo at h;split at h
 ·split at h<;>cases h
  exact(TrLe.put hd).trans (TrLe.blk _ _)
 ·cases h
theorem TrLe.clearTo{s s':St}{j:TI}{z:List D}{d:Option Nat}{c:C}(hd: ∀k,d=some k→k<YS)(h:clearTo j z d s c=some s'):TrLe s' s:=by
 unfold Va.clearTo at h;split at h
 ·grind[TrLe.put]
 ·simp only[jzd]at h;obtain⟨k,_,h⟩:=h;split at h
  ·split at h<;>cases h
   exact(TrLe.put hd).trans (TrLe.blk _ _)
  ·cases h
 ·cases h
theorem TrLe.builtin{T:AH}{b:Builtin}{ts:List TypeId}{args:List Operand}{d:Option Nat}{s s':St}(hd: ∀k,d=some k→k<YS)(h:FK T b ts args d s=some s'):TrLe s' s:=by
 unfold FK at h;split at h
 ·simp only[jzd]at h;obtain⟨i,_,h⟩:=h;unfold G3 at h;split at h
  ·grind[TrLe.put]
  ·simp only[jzd,jze]at h;obtain⟨c,_,n,_,rfl⟩:=h;exact TrLe.put hd
 ·simp only[jzd]at h;obtain⟨k,hk,i,_,e,_,j,_,c,_,x,_,h⟩:=h;split at h
  ·grind[Option.bind_eq_some_iff,TrLe.app]
  ·rw[jzd]at h
   obtain⟨k',_,h⟩:=h
   unfold J0 at h;split at h
   ·split at h<;>cases h
    exact(TrLe.put (by grind)).trans (TrLe.new _ _)
   ·grind[TrLe.app]
   ·cases h
 ·simp only[jzd]at h
  grind[Option.bind_eq_some_iff,TrLe.copyTo]
 ·simp only[jzd,jze]at h;obtain⟨p,_,l,_,v,_,rfl⟩:=h;exact TrLe.put hd
 ·grind[Option.bind_eq_some_iff,TrLe.clearTo]
 ·simp only[jzd,jze]at h;obtain⟨p,_,l,_,v,_,rfl⟩:=h;exact TrLe.put hd
 ·grind[Option.bind_eq_some_iff,Ko,TrLe.put]
 ·cases h
theorem TrLe.step{T:AH}{o:Oper}{s s':St}(hd: ∀k,o.dst=some k→k<YS)(h:DH T o s=some s'):TrLe s' s:=by
 unfold DH at h;split at h
 case h_1=>
  unfold GH at h;simp only[jzd,jze]at h;obtain⟨k,hk,i,_,e,_,j,_,rfl⟩:=h;exact(TrLe.put (by grind)).trans (TrLe.new _ _)
 case h_8=>
  simp only[jzd]at h;obtain⟨_,_,_,_,_,_,_,_,h⟩:=h;unfold FG at h;split at h
  ·simp only[jzd]at h;obtain⟨cs,_,h⟩:=h;split at h
   ·exact TrLe.mk hd h
   ·simp only[jzd]at h;obtain⟨p,hp,h⟩:=h;exact(TrLe.mk hd h).trans (TrLe.sealW hp)
  ·cases h
 case h_10=>
  simp only[jzd,jze]at h;obtain⟨_,_,_,_,_,_,_,hs,rfl⟩:=h;exact(TrLe.put hd).trans (TrLe.store hs)
 case h_12=>
  split at h
  ·simp only[jzd,jze]at h;obtain⟨_,_,_,_,rfl⟩:=h;exact TrLe.put hd
  ·simp only[jzd,jze]at h;obtain⟨_,_,_,_,_,_,rfl⟩:=h;exact TrLe.put hd
 case h_16=>
  simp only[jzd]at h
  grind[FC,Option.bind_eq_some_iff,TrLe.mk]
 case h_18=>
  simp only[jzd]at h;obtain⟨_,_,_,_,_,_,_,_,h⟩:=h;split at h
  ·cases h
  ·simp only[jze]at h;obtain⟨_,_,rfl⟩:=h;exact TrLe.put hd
 case h_5=>
  grind[Option.bind_eq_some_iff,TrLe.mk]
 case h_6=>
  grind[Option.bind_eq_some_iff,TrLe.mk]
 case h_23=>
  split at h
  ·simp only[jze]at h;obtain⟨_,_,rfl⟩:=h;exact TrLe.put hd
  ·cases h
 case h_24=>exact TrLe.builtin hd h
 case h_32=>cases h
 case h_26=>
  simp only[jzd]at h;obtain⟨_,_,h⟩:=h;split at h
  ·exact TrLe.mk hd h
  ·cases h
 case h_27=>
  simp only[jzd]at h;obtain⟨_,_,h⟩:=h;split at h
  ·simp only[jzd]at h;obtain⟨_,_,_,_,h⟩:=h;exact TrLe.mk hd h
  ·cases h
 case h_28=>
  simp only[jzd,GN,jze]at h;obtain⟨_,_,q,_,rfl⟩:=h;split
  ·exact(TrLe.put hd).trans (TrLe.blk _ _)
  ·exact TrLe.put hd
 case h_29=>
  simp only[jzd]at h;obtain⟨_,_,h⟩:=h;split at h
  ·simp only[jzd,Hh]at h;obtain⟨_,_,_,_,_,_,_,_,h⟩:=h;split at h
   ·cases h;exact TrLe.put hd
   ·cases h
  ·cases h
 case h_30=>
  simp only[jzd]at h;obtain⟨_,_,h⟩:=h;split at h
  ·simp only[jzd,G7]at h;obtain⟨_,_,_,_,_,_,_,_,_,_,h⟩:=h;split at h
   ·split at h
    ·cases h;exact(TrLe.put hd).trans (TrLe.blk _ _)
    ·cases h
   ·cases h
  ·cases h
 all_goals
  simp only[jzd,jze]at h
  first
  |(obtain⟨_,_,rfl⟩:=h;exact TrLe.put hd)
  |(obtain⟨_,_,_,_,rfl⟩:=h;exact TrLe.put hd)
  |(obtain⟨_,_,_,_,_,_,rfl⟩:=h;exact TrLe.put hd)
  |(obtain⟨_,_,_,_,_,_,_,_,rfl⟩:=h;exact TrLe.put hd)
  |(obtain⟨_,_,_,_,_,_,_,_,_,_,rfl⟩:=h;exact TrLe.put hd)
end
end Go.Va
