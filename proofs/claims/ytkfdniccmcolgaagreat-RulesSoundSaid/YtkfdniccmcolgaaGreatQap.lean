/- a part of the proof -/
import Derived.Test.YtkfdniccmcolgaaGreatQao
import Derived.Test.YtkfdniccmcolgaaGreatRows
import Derived.ProofKit
import Derived.OpenShut
import Derived.Carry
import Derived.ChangeSlices
set_option linter.all false
set_option maxHeartbeats 4000000
set_option maxRecDepth 100000
namespace Go.Va
open Int (natCast_add natCast_mul natCast_emod natCast_ediv natCast_pow)
open Go.Proofs
structure Fct where
 kind:Int
 args:List Int
 neg:Bool
 abs:List Nat
 den:List Nat
 deriving DecidableEq
@[simp]def Fct.ds(f:Fct):List D:=[.int .i64 f.kind,intsD f.args,.bool f.neg,Ab f.abs,Ab f.den]
def arity(k:Int):Nat:=if k=1∨k=5 then 3 else if k=2∨k=3∨k=4∨k=6∨k=9 then 4 else if k=7 then 8 else if k=8 then 2 else 0
theorem Xn(k:Int):CallsF Tryz.prog 158 [.c (.int .i64 k)] (.u (.c (.d (.int .i64 (arity k))))):=by
 refine Ae (T:=tb) Ad mixed Tryz.func158 rfl (by decide) (Ac rfl) rfl ?_;unfold St.init
 by_cases h1:k=1
 ·subst h1;simp -implicitDefEqProofs[jJ,-natCast_add,-natCast_mul,arity]
 by_cases h2:k=2
 ·subst h2;simp -implicitDefEqProofs[jJ,-natCast_add,-natCast_mul,arity]
 by_cases h3:k=3
 ·subst h3;simp -implicitDefEqProofs[jJ,-natCast_add,-natCast_mul,arity]
 by_cases h4:k=4
 ·subst h4;simp -implicitDefEqProofs[jJ,-natCast_add,-natCast_mul,arity]
 by_cases h5:k=5
 ·subst h5;simp -implicitDefEqProofs[jJ,-natCast_add,-natCast_mul,arity]
 by_cases h6:k=6
 ·subst h6;simp -implicitDefEqProofs[jJ,-natCast_add,-natCast_mul,arity]
 by_cases h7:k=7
 ·subst h7;simp -implicitDefEqProofs[jJ,-natCast_add,-natCast_mul,arity]
 by_cases h8:k=8
 ·subst h8;simp -implicitDefEqProofs[jJ,-natCast_add,-natCast_mul,arity]
 by_cases h9:k=9
 ·subst h9;simp -implicitDefEqProofs[jJ,-natCast_add,-natCast_mul,arity]
 simp -implicitDefEqProofs[jJ,-natCast_add,-natCast_mul,arity,h1,h2,h3,h4,h5,h6,h7,h8,h9]
def EY(neg:Bool)(a b:List Nat):Bool:= !neg&&decide (a=[])&&decide (b=[])
theorem Ze(neg:Bool)(a b:List Nat):CallsF Tryz.prog 160 [.agg [.bool neg,Ab a,Ab b]] (.u (.c (.d (.bool (EY neg a b))))):=by
 refine Ae (T:=tb) Ad mixed Tryz.func160 rfl (by decide) (Ac rfl) rfl ?_;unfold St.init
 cases neg<;>cases a<;>cases b<;>simp -implicitDefEqProofs[jJ,-natCast_add,-natCast_mul,EY]
def FW(f:Fct)(n:Int):Int:=
 if arity f.kind=0 then 8 else if f.args.length≠arity f.kind then 1 else if f.args.any (fun a=>decide (a<0)||decide (n≤a)) then 2
 else if (if f.kind=9 then BR f.neg f.abs f.den else EY f.neg f.abs f.den) then 0 else 1
structure Fct.Mild (f:Fct):Prop where
 la:f.abs.length≤4
 ld:f.den.length≤4
 oa:Ok f.abs
 od:Ok f.den
 ln:f.args.length≤1099511627776
theorem SZ{l:List Int}{p:Int→Bool}{i:Nat}(h:i<l.length):(l.drop i).any p=(p l[i]||(l.drop (i+1)).any p):=by
 rw[AD h,List.any_cons]
theorem jbs(f:Fct)(hf:f.Mild)(n:Int):CallsF Tryz.prog 81 [.agg f.ds,.c (.int .i64 n)] (.u (.c (.d (.int .i64 (FW f n))))):=by
 refine Ae (T:=tb) Ad mixed Tryz.func81 rfl (by decide) (Ac rfl) rfl ?_;unfold St.init
 obtain⟨kind,args,neg,abs,den⟩:=f
 obtain⟨la,ld,oa,od,ln⟩:=hf
 simp only at la ld oa od ln;simp only[Fct.ds,FW];simp -implicitDefEqProofs[jJ,-natCast_add,-natCast_mul];refine Aa (Xn kind) ?_;generalize arity kind=ar at*;by_cases h1:ar=0
 ·simp -implicitDefEqProofs[jJ,-natCast_add,-natCast_mul,h1]
 by_cases h2:args.length=ar
 ·simp -implicitDefEqProofs[jJ,-natCast_add,-natCast_mul,h1,h2];refine Av (fun i:Nat=>⟨[(21,vI .i64 i),(20,vI .i64 (ar:Nat)),(19,vC (.d (intsD args))),(2,vC (.ptr 2 0)),(1,vI .i64 n)],[(2,.box [.d (.int .i64 kind),.d (intsD args),.d (.bool neg),.d (Ab abs),.d (Ab den)])]⟩) (fun i=>i≤args.length∧(args.drop i).any (fun a=>decide (a<0)||decide (n≤a))=args.any (fun a=>decide (a<0)||decide (n≤a))) (fun i=>args.length - i) 0 (by simp) ⟨by omega,rfl⟩ ?_
  rintro i ⟨h3,h4⟩
  by_cases h:i<args.length
  ·have e:=SZ (p:=fun a=>decide (a<0)||decide (n≤a)) h
   have hk:i<ar:=by omega
   rw[e]at h4
   by_cases h5:args[i]<0
   ·simp -implicitDefEqProofs[jJ,-natCast_add,-natCast_mul,h,hk,h5,i64];intro hh;have:=hh _ (Ak h);omega
   ·by_cases h6:n≤args[i]
    ·simp -implicitDefEqProofs[jJ,-natCast_add,-natCast_mul,h,hk,h5,h6,i64];intro hh;have:=hh _ (Ak h);omega
    ·simp -implicitDefEqProofs[jJ,-natCast_add,-natCast_mul,h,hk,h5,h6,i64];simp only[decide_eq_false h5,decide_eq_false h6,Bool.false_or]at h4;exact⟨by omega,⟨by omega,h4⟩,by omega⟩
  ·have hk: ¬i<ar:=by omega
   have e:i=args.length:=by omega
   rw[e,List.drop_length]at h4
   have h4': ∀x∈args,0≤x∧x<n:=by simpa using h4.symm
   rw[←h4]
   have k1:=jbH neg abs den oa (by omega) od (by omega)
   have k2:=Ze neg abs den;by_cases h9:kind=9
   ·simp -implicitDefEqProofs[jJ,-natCast_add,-natCast_mul,hk,h9];refine Aa k1 ?_;cases BR neg abs den<;>simp -implicitDefEqProofs[jJ,-natCast_add,-natCast_mul]<;>exact h4'
   ·simp -implicitDefEqProofs[jJ,-natCast_add,-natCast_mul,hk,h9];refine Aa k2 ?_;cases EY neg abs den<;>simp -implicitDefEqProofs[jJ,-natCast_add,-natCast_mul]<;>exact h4'
 ·simp -implicitDefEqProofs[jJ,-natCast_add,-natCast_mul,h1,h2]
end Go.Va
namespace Go.Va
open Go.Proofs Go.ChangeShapes Go.WideShapes Go.ChangeAt Go.RowKit
section
variable {H:Type} {enc:TypeId×Value→H} {w:World} {base:Nat} {sp:Nat→Bool} {hd:Bool}
abbrev Z0:Addr→Prop:=fun _=>False
theorem Sp{e:D→Prop}{a:Addr}{len cap:Nat}{zs:List Int}{k:IntKind}(hl:len≤cap)(hm:cap≤maxLen)(hz:len≤zs.length)(hc: ∀i,i<zs.length→w.cell? (a.add i)=some (.int k (zs.getD i 0))):
  RepD w Z0 (.slice len ((zs.take len).map (D.int k))) (.slice (some a) len cap):=by
 have key: ∀(j:Nat) (x:D),((zs.take len).map (D.int k))[j]? =some x→j<len∧x= .int k (zs.getD j 0):=fun j x hj=>by
  rw[Bw,List.getElem?_take]at hj
  by_cases h:j<len
  ·rw[if_pos h,Ai (by omega)]at hj
   refine⟨h,?_⟩
   rw[Ar,Ai (by omega)]
   exact(AX hj).symm
  ·rw[if_neg h]at hj
   cases hj
 have hspot:0<len→a.spot=none:=fun h=>by
  have:=hc 0 (by omega)
  unfold Addr.add at this;rw[if_pos rfl]at this;unfold World.cell? at this;split at this
  ·split at this
   ·cases this
   ·rename_i hn
    simpa using hn
  ·cases this
 refine .slice len _ a cap (fun j=> .int k (zs.getD j 0)) (fun hne=> ?_) hl hm (fun j x hj=> ?_) (fun j x hj h=>h) (fun j x hj=> ?_)
 ·obtain⟨x,hx⟩:=List.exists_mem_of_ne_nil _ hne
  obtain⟨j,hj⟩:=List.getElem?_of_mem hx
  have:=(key j x hj).1
  exact hspot (by omega)
 ·have hk:=key j x hj;have h1:=hc j (by omega)
  have h2:=hspot (by omega)
  have:a.add j=⟨a.block,a.off+j,none⟩:=by
   unfold Addr.add;split
   ·rename_i h0
    subst h0;obtain⟨b,o,s⟩:=a;simp only at h2;subst h2;rfl
   ·rfl
  rw[←this]
  exact h1
 ·rw[(key j x hj).2]
  exact .int _ _
theorem To{fuel:Nat}{cs:List Value}{x:DataW H×List MemPlace}(h:DataW.trod enc Tryz.prog w base sp hd fuel 31 cs=some x): ∃(l:List Int) (v:Value),cs=[v]∧RepD w Z0 (intsD l) v:=by
 rcases open_ints (k:= .i64) Tryz.underlying31 Tryz.underlying3 (by kernel_rfl) h with⟨rfl,_⟩|⟨a,len,cap,zs,rfl,_,h1,h2,h3,_,h4,_⟩
 ·exact⟨[],_,rfl,.snil⟩
 ·have hz:len≤zs.length:=by rw[h3];split<;>omega
  refine⟨zs.take len,_,rfl,?_⟩
  have:=Sp (e:=fun _=>True) h1 h2 hz h4
  have e:(intsD (zs.take len))= .slice len ((zs.take len).map (D.int .i64)):=by
   show D.slice _ _=_
   rw[AG,AU hz]
   rfl
  rw[e]
  exact this
theorem Lu{fuel:Nat}{cs:List Value}{x:DataW H×List MemPlace}(h:DataW.trod enc Tryz.prog w base sp hd fuel 33 cs=some x): ∃(l:List Nat) (v:Value),Ok l∧cs=[v]∧RepD w Z0 (Ab l) v:=by
 rcases open_ints (k:= .u16) Tryz.underlying33 (by kernel_rfl:Tryz.prog.underlying _=_) (by kernel_rfl) h with⟨rfl,_⟩|⟨a,len,cap,zs,rfl,_,h1,h2,h3,_,h4,h5⟩
 ·exact⟨[],_,Ok.nil,rfl,.snil⟩
 ·have hz:len≤zs.length:=by rw[h3];split<;>omega
  have hb: ∀n∈zs,0≤n∧n<65536:=fun n hn=>by
   have:=h5 n hn
   simp[Lit.wf,IntKind.min,IntKind.max,IntKind.signed,IntKind.bits]at this
   omega
  refine⟨(zs.take len).map Int.toNat,_,fun y hy=> ?_,rfl,?_⟩
  ·obtain⟨n,hn,rfl⟩:=jzk.1 hy
   have:=hb n (List.mem_of_mem_take hn)
   omega
  ·have:=Sp (e:=fun _=>True) h1 h2 hz h4
   have e:Ab ((zs.take len).map Int.toNat)= .slice len ((zs.take len).map (D.int .u16)):=by
    show D.slice _ _=_
    rw[List.length_map,AG,AU hz,List.map_map]
    congr 1
    refine List.map_congr_left fun n hn=> ?_
    have:=hb n (List.mem_of_mem_take hn)
    show D.int .u16 ((n.toNat:Nat):Int)=_
    rw[Int.toNat_of_nonneg this.1]
   rw[e]
   exact this
structure InFact (f:Fct):Prop where
 oa:Ok f.abs
 od:Ok f.den
theorem PJ{r:Reach}{b0:Nat}{v:Value}{d:DataW H}{p:List MemPlace}(hval:Value.okWide Tryz.prog w r b0 3 v)(h:DataW.Trod enc Tryz.prog w base sp hd 3 v d p): ∃k:Int,A.rep w Z0 (.c (.int .i64 k)) v:=by
 obtain⟨fuel,h⟩:=h
 obtain⟨k,e0,_⟩:=DataW.trod_int Tryz.underlying3 h
 refine⟨k,?_⟩
 unfold Value.okWide at hval;rw[Tryz.underlying3]at hval;simp only at hval;unfold Cell.okWide at hval;rw[Tryz.underlying3]at hval;have:v= .int .i64 k:=by
  cases v with
  |agg cs=>simp[Cell.ok,Tryz.underlying3]at hval
  |_=>first|(simp[Value.cells]at e0;done)|simpa [Value.cells]using e0
 rw[this]
 exact .int _ _
theorem S9{P:Program}(hl:laidOutB P=true){W W':World}(hb:Below W.heap.size W W'): ∀{ts:List TypeId} {vs:List Value} {ds:List (DataW H)} {ps:List MemPlace},
  (∀t∈ts,P.readableRec t=true∧t<P.types.size)→DataW.TrodAll enc P W 0 (fun _=>true) true ts vs ds ps→(∀x∈ps,x.block<W.heap.size)→DataW.TrodAll enc P W' 0 (fun b=>decide (b<W.heap.size)) true ts vs ds ps
 |[],vs,ds,ps,_,h,_=>by
  obtain⟨rfl,rfl,rfl⟩:=trodAll_nil h
  rfl
 |t::ts,vs,ds,ps,ht,h,hlt=>by
  obtain⟨v,vs',d,ds',p,q,rfl,rfl,rfl,h1,h2⟩:=trodAll_cons h
  have:=ht t (by simp)
  exact trodAll_cons_mk (Below.trod hl this.1 this.2 h1 hb (fun x hx=>hlt x (by simp[hx]))) (S9 hl hb (fun t' h'=>ht t' (by simp[h'])) h2 (fun x hx=>hlt x (by simp[hx])))
end
theorem jdI:laidOutB Tryz.prog=true:=by kernel_rfl
theorem jew:ownKnob Tryz.prog.godebug=none:=by kernel_rfl
theorem TL{f:FuncId}{fn:Func}{s:ChangeSpec}(os:Os)(started:os.Started)(H:Type)(enc:TypeId×Value→H)(noInit:Tryz.prog.inits.idxOf? f=none)(hfn:Tryz.prog.funcs[f]? =some fn)(hvars:s.vars=[])
  (hres:fn.resultTypes= #[4]) (hts: ∀t∈fn.params.toList,Tryz.prog.readableRec t=true∧t<Tryz.prog.types.size)
  (hspec: ∀(H:Type) (ds:List (DataW H)),ds.length=fn.params.size→s.fn H ds={ results:=[.lit (.bool true)],args:=ds })
  (witness: ∃(w:World) (tape:Tape) (i:Input),w.os=os∧(w.forCall tape i).Shaped Tryz.prog∧i.vars=[]∧Input.okWide Tryz.prog (w.forCall tape i) .any w.heap.size f i∧
   s.pre6 enc Tryz.prog fn [] false (w.forCall tape i).memory i.args∧({}:Assume).holds Tryz.prog (lone (Frame.enter Tryz.prog f i.args .normal) [] (w.forCall tape i)))
  (hc: ∀(W:World) (args:Array Value) (ds:List (DataW H)) (ps:List MemPlace) (base:Nat),(∀(j:Nat) t v,fn.params[j]? =some t→args[j]? =some v→Value.okWide Tryz.prog W .any base t v)→DataW.TrodAll enc Tryz.prog W 0 (fun _=>true) true fn.params.toList args.toList ds ps→
   Calls Tryz.prog f args W fun e W'=>e= .returned (.bool true)∧Below W.heap.size W W'):
  ReturnsInHanded {} Tryz.checked os f .any (s.pre6 enc Tryz.prog fn [] false) (s.post enc Tryz.prog fn false true false false):=by
 refine returnsInHanded_of_change (C:=Tryz.checked) jew started noInit hfn witness ?_;intro W base args ds gs before hval hW hcnd _;have hW':=hW;obtain⟨p,q,hA,hV,rfl,hfz,hnd⟩:=hW;rw[hvars]at hV;obtain⟨rfl,rfl⟩:=trodVars_none hV;have hlen: ∀{ts:List TypeId} {vs:List Value} {ds:List (DataW H)} {ps:List MemPlace},DataW.TrodAll enc Tryz.prog W 0 (fun _=>true) true ts vs ds ps→ds.length=ts.length:=by
  intro ts
  induction ts with
  |nil=>intro vs ds ps h;obtain⟨_,rfl,_⟩:=trodAll_nil h;rfl
  |cons t ts ih=>intro vs ds ps h;obtain⟨v,vs',d,ds',p,q,rfl,rfl,rfl,h1,h2⟩:=trodAll_cons h;simp[ih h2]
 have hsp:s.fn H (ds++[])={ results:=[.lit (.bool true)],args:=ds }:=by
  rw[List.append_nil]
  exact hspec H ds (by simpa using hlen hA)
 refine(hc W args ds p base hval hA).mono fun e W' ⟨he,hb⟩=> ?_
 subst he;refine⟨_,rfl,ds,[],p++[],[],p,[],hW',?_,?_,?_,?_,fun h=>by cases h⟩
 ·rw[hsp,hres]
  exact trodAll_cons_mk (shut_bool Tryz.underlying4 _) trodAll_mk0
 ·rw[hsp]
  exact S9 jdI hb hts hA (fun x hx=>by
   have:=hW'.lt x (by simpa using hx)
   exact this)
 ·rw[hvars,hsp];rfl
 ·exact hb.frame _
theorem SX{f:FuncId}{xs:List A}(hc:CallsF Tryz.prog f xs (.u (.c (.d (.bool true))))){W:World}{vals:List Value}(hv:RepL (A.rep W Z0) xs vals):
  Calls Tryz.prog f vals.toArray W fun e W'=>e= .returned (.bool true)∧Below W.heap.size W W':=
 (hc.2 W Z0 vals (fun _ h=>h.elim) hv).mono fun e W' ⟨v,h1,h2,h3⟩=>by
  obtain⟨_,o,_,h4⟩:=h3
  have h5:RepD W' (Ag (BN 0 [] o) Z0) (.bool true) v:=(h4 0).1;cases h5;exact⟨h1,h2.toBelow⟩
end Go.Va
namespace Go.Va
open Go.Proofs
def RC.dat:RC→RC
 | .d x=> .d x
 | .own sz n cs=> .d (.slice n (cs.take (n*sz)))
def RU.dat:RU→RU
 | .c x=> .c x.dat
 | .agg cs=> .agg (cs.map RC.dat)
def R.dat:R→R
 | .u x=> .u x.dat
 | .tup xs=> .tup (xs.map RU.dat)
theorem RC.dat_rows(x:RC):x.dat.rows=[]:=by cases x<;>rfl
theorem RU.dat_rows(x:RU):x.dat.rows=[]:=by
 cases x with
 |c x=>exact RC.dat_rows x
 |agg cs=>exact List.flatMap_eq_nil_iff.2 fun y hy=>by obtain⟨z,_,rfl⟩:=jzk.1 hy;exact RC.dat_rows z
theorem R.dat_rows(x:R):x.dat.rows=[]:=by
 cases x with
 |u x=>exact RU.dat_rows x
 |tup cs=>exact List.flatMap_eq_nil_iff.2 fun y hy=>by obtain⟨z,_,rfl⟩:=jzk.1 hy;exact RU.dat_rows z
section
variable {w w':World} {Z:Addr→Prop} {k:Nat} {o:Own} {bs:List Blk}
theorem RC.dat_rep(hZ: ∀ad,Z ad→ad.block<w.heap.size)(ho: ∀ad,o.has ad→w.heap.size≤ad.block)
  (hh:Heap (BN k bs o) w' Z (match bs with|[]=>[]|b::_=>[(k,b)])) (hb:bs.length≤1) {x:RC} {v:Value} (hx: ∀b∈x.rows,b∈bs)
  (h:RepC (BN k bs o) w' Z (x.imp k) v) (ρ:Aq) (hρ: ∀i,ρ i=none):RepC ρ w' Z (x.dat.imp k) v:=by
 have hk:Keep w' w' (Ag (BN k bs o) Z) (Ag ρ Z):=Keep.mono fun a ha=>by
  rcases ha with ha|⟨i,o',hi,_⟩
  ·exact .inl ha
  ·rw[hρ]at hi;cases hi
 cases x with
 |d x=>exact RepD.keep hk h
 |own sz n cs=>
  have hm:(Blk.row sz cs true)∈bs:=hx _ (by simp[RC.rows])
  obtain⟨b,rfl⟩: ∃b,bs=[b]:=by
   match bs,hb,hm with
   |[b],_,_=>exact⟨b,rfl⟩
  have hbe:Blk.row sz cs true=b:=by simpa using hm
  subst hbe;obtain⟨o1,h1,h2⟩:=hh.rep k _ (Bh k _ _);have e1:o1=o:=by
   unfold BN at h1;simp only[if_true]at h1;exact(AX h1).symm
  subst e1;obtain⟨hs,happ,hl,⟨hn1,hn2⟩,hc⟩:=h2;obtain⟨o2,h3,h4,h5⟩:=h;have e2:o2=o1:=by
   unfold BN at h3;simp only[if_true]at h3;exact(AX h3).symm
  subst e2
  show RepD w' (Ag ρ Z) (.slice n (cs.take (n*sz))) v
  rcases h5 with⟨h6,rfl,_,rfl⟩|⟨h6,a,c,rfl,h7,h8,h9,h10⟩
  ·have:(cs.take (0*sz))=[]:=by simp
   rw[this]
   exact .snil
  ·have key: ∀(j:Nat) (x:D),(cs.take (n*sz))[j]? =some x→cs[j]? =some x∧a=o2.at 0:=by
    intro j x hj;rw[List.getElem?_take]at hj;split at hj
    ·rename_i hlt
     refine⟨hj,?_⟩
     rcases h9 with h9|h9
     ·have:n=0:=by omega
      subst this;simp at hlt
     ·simpa using h9
    ·cases hj
   refine .slice n _ a c (fun j=>(w'.cell? ⟨a.block,a.off+j,none⟩).getD undef) ?_ h7 h8 ?_ ?_ ?_
   ·intro hne;obtain⟨x,hx⟩:=List.exists_mem_of_ne_nil _ hne;obtain⟨j,hj⟩:=List.getElem?_of_mem hx;rw[(key j x hj).2]
   all_goals
    intro j x hj;obtain⟨k1,k2⟩:=key j x hj;obtain⟨u,hu,hr⟩:=hc j x k1;subst k2;have he:(⟨(o2.at 0).block,(o2.at 0).off+j,none⟩:Addr)=o2.at j:=by simp[Own.at]
   ·rw[he,hu];rfl
   ·rw[he]
    have hin:o2.has (o2.at j):=by
     refine⟨by rw[hn2];exact h6,rfl,by simp[Own.at],?_⟩
     have:=(jzg.1 k1).1
     simp only[Own.at];rw[hs];omega
    rintro (hz|⟨i,o',hi,_⟩)
    ·have:=hZ _ hz;have:=ho _ hin;omega
    ·rw[hρ]at hi;cases hi
   ·rw[he,hu];exact RepD.keep hk hr
theorem RU.dat_rep(hZ: ∀ad,Z ad→ad.block<w.heap.size)(ho: ∀ad,o.has ad→w.heap.size≤ad.block)
  (hh:Heap (BN k bs o) w' Z (match bs with|[]=>[]|b::_=>[(k,b)])) (hb:bs.length≤1) {x:RU} {v:Value} (hx: ∀b∈x.rows,b∈bs)
  (h:RepU (BN k bs o) w' Z (x.imp k) v) (ρ:Aq) (hρ: ∀i,ρ i=none):RepU ρ w' Z (x.dat.imp k) v:=by
 cases x with
 |c x=>exact RC.dat_rep hZ ho hh hb hx h ρ hρ
 |agg cs=>
  obtain⟨vs,h1,h2,h3⟩:=h
  refine⟨vs,h1,by simpa using h2,fun j y u hy hu=> ?_⟩
  simp only[Bw,jze]at hy;obtain⟨z,⟨z',hz',rfl⟩,rfl⟩:=hy;exact RC.dat_rep hZ ho hh hb (fun b hbm=>hx b (List.mem_flatMap.2 ⟨z',Bv hz',hbm⟩)) (h3 j _ u (by simp[hz']) hu) ρ hρ
theorem R.dat_rep(hZ: ∀ad,Z ad→ad.block<w.heap.size){r:R}{v:Value}(h:Jn w w' Z r v):Jn w w' Z r.dat v:=by
 obtain⟨hb,o,ho,hr⟩:=h
 refine⟨by rw[R.dat_rows];simp,o,ho,fun k=> ?_⟩
 obtain⟨h1,hh⟩:=hr k
 rw[R.dat_rows]
 have hρ: ∀i,BN k [] o i=none:=fun i=>rfl
 refine⟨?_,⟨⟨fun j o hj=>by(rw[hρ]at hj;cases hj),fun j j' o o' hj=>by(rw[hρ]at hj;cases hj),fun j o hj=>by(rw[hρ]at hj;cases hj)⟩,fun i b hb=>by cases hb⟩⟩
 cases r with
 |u x=>exact RU.dat_rep hZ ho hh hb (fun b h=>h) h1 _ hρ
 |tup cs=>
  obtain⟨vs,e1,h2,h3⟩:=h1
  refine⟨vs,e1,by simpa [R.dat,R.imp]using h2,fun j y u hy hu=> ?_⟩
  simp only[Bw,jze]at hy;obtain⟨z,⟨z',hz',rfl⟩,rfl⟩:=hy;exact RU.dat_rep hZ ho hh hb (fun b hbm=>List.mem_flatMap.2 ⟨z',Bv hz',hbm⟩) (h3 j _ u (by simp[hz']) hu) _ hρ
theorem CallsF.dat{P:Program}{f:FuncId}{xs:List A}{r:R}(h:CallsF P f xs r):CallsF P f xs r.dat:=
 ⟨h.1,fun w Z vals hZ hv=>(h.2 w Z vals hZ hv).mono fun e w' ⟨v,h1,h2,h3⟩=>⟨v,h1,h2,R.dat_rep hZ h3⟩⟩
end
end Go.Va
