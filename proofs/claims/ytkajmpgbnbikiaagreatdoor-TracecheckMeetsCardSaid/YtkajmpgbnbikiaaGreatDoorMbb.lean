/- a part of the proof -/
import Derived.Test.YtkajmpgbnbikiaaGreatDoorMay
import Derived.Test.YtkajmpgbnbikiaaGreatDoorMba
import Derived.Test.YtkajmpgbnbikiaaGreatDoorTie
import Derived.Lay
import Derived.Handy
set_option linter.all false
set_option maxRecDepth 100000
set_option maxHeartbeats 4000000
namespace Go.Va
open Go.Proofs Go.ChangeShapes Go.WideShapes Go.ChangeAt Go.RowKit
theorem jdk{E:Type}{n:Nat}(hn:0<n){ds:E→List D}(hds: ∀e,(ds e).length=n)(l:List E)(j:Nat):(l.flatMap ds)[j]? =(l[j/n]?).bind fun f=>(ds f)[j%n]? :=by
 have e:j=j/n*n+j%n:=by rw[Nat.mul_comm];exact(Nat.div_add_mod j n).symm
 have hm:=Nat.mod_lt j hn;have h1:(l.flatMap ds)[j]? =((l.flatMap ds).drop (j/n*n))[j%n]? :=by
  rw[List.getElem?_drop]
  congr 1
 rw[h1,DU hds]
 by_cases h:j/n<l.length
 ·rw[AX h,Am h,List.flatMap_cons,List.getElem?_append_left (by rw[hds];exact hm)]
  rfl
 ·rw[List.drop_eq_nil_of_le (by omega),By (l:=l) (by omega)]
  rfl
section
variable {H:Type} {enc:TypeId×Value→H} {w:World} {base:Nat} {sp:Nat→Bool} {hd:Bool}
theorem Q9{E:Type}[Inhabited E]{n:Nat}(hn:0<n){ds:E→List D}(hds: ∀e,(ds e).length=n){Q:E→Prop}{tE tS:TypeId}(hu:Tryz.prog.underlying tS=some (.slice tE))(hcell:Tryz.prog.cellsOf tE=n)
  (he: ∀{fuel:Nat} {cs:List Value} {x:DataW H×List MemPlace},cs.length=n→DataW.trod enc Tryz.prog w base sp hd fuel tE cs=some x→ ∃f:E,Q f∧ ∀(j:Nat) (x:D) (u:Value),(ds f)[j]? =some x→cs[j]? =some u→RepD w Z0 x u)
  {fuel:Nat} {cs:List Value} {x:DataW H×List MemPlace} (h:DataW.trod enc Tryz.prog w base sp hd fuel tS cs=some x):
  ∃(l:List E) (v:Value),(∀f∈l,Q f)∧cs=[v]∧RepD w Z0 (.slice l.length (l.flatMap ds)) v:=by
 rcases Go.Deep.open_slice hu h with⟨e,_⟩|⟨a,len,cap,m,k,DD,Pl,e,_,h1,h2,h3,_,h4⟩
 ·exact⟨[],_,by simp,e,.snil⟩
 ·have hm:len≤m:=by rw[h3];split<;>omega
  rw[hcell]at h4
  have each: ∀i,i<m→ ∃q:E×List Value,Q q.1∧q.2.length=n∧(∀k,k<n→w.cell? ((a.add (i*n)).add k)=q.2[k]?)∧ ∀(j:Nat) (x:D) (u:Value),(ds q.1)[j]? =some x→q.2[j]? =some u→RepD w Z0 x u:=fun i hi=>by
   obtain⟨cs,c1,c2⟩:=h4 i hi
   obtain⟨_,c3,c4⟩:=World.cells?_some c1
   obtain⟨f,f1,f2⟩:=he c3 c2
   exact⟨(f,cs),f1,c3,c4,f2⟩
  obtain⟨q,hq⟩:=Go.Deep.choose_lt each
  have hspot:0<len→a.spot=none:=fun h=>by
   obtain⟨_,q1,q2,_⟩:=hq 0 (by omega)
   have q2:=q2 0 hn;rw[Am (by omega)]at q2
   have:=q2
   unfold Addr.add at this;simp only[Nat.zero_mul,if_true]at this;unfold World.cell? at this;split at this
   ·split at this
    ·cases this
    ·rename_i hn
     simpa using hn
   ·cases this
  refine⟨(List.range len).map fun i=>(q i).1,_,fun f hf=> ?_,e,?_⟩
  ·obtain⟨i,hi,rfl⟩:=jzk.1 hf
   exact(hq i (by have:=List.mem_range.1 hi;omega)).1
  ·have hx: ∀(j:Nat) (x:Va.D),((((List.range len).map fun i=>(q i).1)).flatMap ds)[j]? =some x→j/n<len∧(ds (q (j/n)).1)[j%n]? =some x:=fun j x hj=>by
    rw[jdk hn hds,Bi]at hj
    by_cases h:j/n<len
    ·rw[List.getElem?_range h]at hj
     exact⟨h,by simpa using hj⟩
    ·rw[By (by simpa using h)]at hj
     cases hj
   rw[show((List.range len).map fun i=>(q i).1).length=len by simp]
   have hat: ∀j,j/n<len→w.cell? ⟨a.block,a.off+j,none⟩=some ((q (j/n)).2.getD (j%n) .nilFunc):=fun j hj=>by
    obtain⟨_,q1,q2,_⟩:=hq (j/n) (by omega)
    have hmd:=Nat.mod_lt j hn;have q2:=q2 (j%n) hmd;rw[Ax,Am (by omega)]
    rw[Am (by omega),Go.Deep.add_add]at q2
    have hs:=hspot (Nat.lt_of_le_of_lt (Nat.zero_le _) hj);have:a.add (j/n*n+j%n)=⟨a.block,a.off+j,none⟩:=by
     rw[show j/n*n+j%n=j by rw[Nat.mul_comm];exact Nat.div_add_mod j n]
     unfold Addr.add;split
     ·rename_i h0
      subst h0;obtain⟨b,o,s⟩:=a;simp only at hs;subst hs;rfl
     ·rfl
    rw[←this]
    exact q2
   refine .slice len _ a cap (fun j=>(q (j/n)).2.getD (j%n) .nilFunc) (fun hne=> ?_) h1 h2 (fun j x hj=>hat j (hx j x hj).1) (fun j x hj h=>h) (fun j x hj=> ?_)
   ·obtain⟨x,hx2⟩:=List.exists_mem_of_ne_nil _ hne
    obtain⟨j,hj⟩:=List.getElem?_of_mem hx2
    exact hspot (Nat.lt_of_le_of_lt (Nat.zero_le _) (hx j x hj).1)
   ·obtain⟨hj1,hj2⟩:=hx j x hj
    obtain⟨_,q1,_,q3⟩:=hq (j/n) (by omega)
    refine q3 _ _ _ hj2 ?_;rw[Ax,Am (by have:=Nat.mod_lt j hn;omega)]
    rfl
theorem some_of{α:Type}{o:Option α}{l:List α}{i:Nat}(h:o=l[i]?)(hi:i<l.length): ∃y,o=some y:=⟨l[i],by rw[h,Am hi]⟩
theorem V6{fuel:Nat}{cs:List Value}{x:DataW H×List MemPlace}(hlen:cs.length=2)(h:DataW.trod enc Tryz.prog w base sp hd fuel 55 cs=some x):
  ∃g:Grd,True∧ ∀(j:Nat) (x:D) (u:Value),g.ds[j]? =some x→cs[j]? =some u→RepD w Z0 x u:=by
 obtain⟨xs,n,_,_,_,hx,hf⟩:=DataW.trod_struct Tryz.underlying55 h
 have hx2:xs.length=2:=hx
 have hc3:Tryz.prog.cellsOf 3=1:=by kernel_rfl
 have hc22:Tryz.prog.cellsOf 43=1:=by kernel_rfl
 obtain⟨c0,c1,rfl⟩: ∃c0 c1,cs=[c0,c1]:=by
  match cs,hlen with
  |[c0,c1],_=>exact⟨c0,c1,rfl⟩
 obtain⟨y0,g0⟩:=some_of (hf 0 _ rfl) (by omega)
 obtain⟨y1,g1⟩:=some_of (hf 1 _ rfl) (by omega)
 simp only[hc3,hc22,List.getElem_toArray,List.getElem_cons_zero,List.getElem_cons_succ,List.drop_zero,List.take_succ_cons,List.take_zero,List.drop_succ_cons]at g0 g1;obtain⟨k,e0,_,_⟩:=DataW.trod_int Tryz.underlying3 g0;obtain⟨l,u1,e1,r1⟩:=Md g1;cases e0;cases e1;refine⟨⟨k,l⟩,trivial,fun j x u hx hu=> ?_⟩
 match j,hx,hu with
 |0,hx,hu=>cases hx;cases hu;exact .int _ _
 |1,hx,hu=>cases hx;cases hu;exact r1
theorem jeR{fuel:Nat}{cs:List Value}{x:DataW H×List MemPlace}(hlen:cs.length=7)(h:DataW.trod enc Tryz.prog w base sp hd fuel 53 cs=some x):
  ∃d:Der,InFact d.fact∧ ∀(j:Nat) (x:D) (u:Value),d.ds[j]? =some x→cs[j]? =some u→RepD w Z0 x u:=by
 obtain⟨xs,n,_,_,_,hx,hf⟩:=DataW.trod_struct Tryz.underlying53 h
 have hx2:xs.length=3:=hx
 have hc3:Tryz.prog.cellsOf 3=1:=by kernel_rfl
 have hc5:Tryz.prog.cellsOf 51=5:=by kernel_rfl
 have hc22:Tryz.prog.cellsOf 43=1:=by kernel_rfl
 obtain⟨c0,c1,c2,c3,c4,c5,c6,rfl⟩: ∃c0 c1 c2 c3 c4 c5 c6,cs=[c0,c1,c2,c3,c4,c5,c6]:=by
  match cs,hlen with
  |[c0,c1,c2,c3,c4,c5,c6],_=>exact⟨c0,c1,c2,c3,c4,c5,c6,rfl⟩
 obtain⟨y0,g0⟩:=some_of (hf 0 _ rfl) (by omega)
 obtain⟨y1,g1⟩:=some_of (hf 1 _ rfl) (by omega)
 obtain⟨y2,g2⟩:=some_of (hf 2 _ rfl) (by omega)
 simp only[hc3,hc5,hc22,List.getElem_toArray,List.getElem_cons_zero,List.getElem_cons_succ,List.drop_zero,List.take_succ_cons,List.take_zero,List.drop_succ_cons]at g0 g1 g2;obtain⟨f,f1,f2⟩:=jbO rfl g0;obtain⟨k,e1,_,_⟩:=DataW.trod_int Tryz.underlying3 g1;obtain⟨l,u1,e2,r2⟩:=Md g2;cases e1;cases e2;refine⟨⟨f,k,l⟩,f1,fun j x u hx hu=> ?_⟩
 match j,hx,hu with
 |0,hx,hu=>exact f2 0 x u hx hu
 |1,hx,hu=>exact f2 1 x u hx hu
 |2,hx,hu=>exact f2 2 x u hx hu
 |3,hx,hu=>exact f2 3 x u hx hu
 |4,hx,hu=>exact f2 4 x u hx hu
 |5,hx,hu=>cases hx;cases hu;exact .int _ _
 |6,hx,hu=>cases hx;cases hu;exact r2
theorem jdr{v:Value}{d:DataW H}{p:List MemPlace}(h:DataW.Trod enc Tryz.prog w base sp hd 25 v d p):
  ∃(ds:List Der) (gs:List Grd),(∀x∈ds,InFact x.fact)∧A.rep w Z0 (.agg [Fp ds,Br gs]) v:=by
 obtain⟨fuel,h⟩:=h
 obtain⟨xs,n,_,_,hlen,hx,hf⟩:=DataW.trod_struct Tryz.underlying25 h
 have hx2:xs.length=2:=hx
 have hc25:Tryz.prog.cellsOf 25=2:=by kernel_rfl
 rw[hc25]at hlen
 have hcd:Tryz.prog.cellsOf 22=1:=by kernel_rfl
 have hcg:Tryz.prog.cellsOf 23=1:=by kernel_rfl
 have hv: ∃c0 c1,v= .agg #[c0,c1]:=by
  cases v with
  |agg cs=>
   obtain⟨l⟩:=cs
   have hl:l.length=2:=hlen
   match l,hl with
   |[c0,c1],_=>exact⟨c0,c1,rfl⟩
  |_=>simp[Value.cells]at hlen
 obtain⟨c0,c1,rfl⟩:=hv
 have hcs:(Value.agg #[c0,c1]).cells.toList=[c0,c1]:=rfl
 rw[hcs]at hf
 obtain⟨y0,g0⟩:=some_of (hf 0 _ rfl) (by omega)
 obtain⟨y1,g1⟩:=some_of (hf 1 _ rfl) (by omega)
 simp only[hcd,hcg,List.getElem_toArray,List.getElem_cons_zero,List.getElem_cons_succ,List.drop_zero,List.take_succ_cons,List.take_zero,List.drop_succ_cons]at g0 g1
 haveI:Inhabited Der:=⟨⟨⟨0,[],false,[],[]⟩,0,[]⟩⟩
 haveI:Inhabited Grd:=⟨⟨0,[]⟩⟩
 obtain⟨ds,u0,q0,e0,r0⟩:=Q9 (n:=7) (by decide) Der.ds_len (Q:=fun x=>InFact x.fact) Tryz.underlying22 (by kernel_rfl) (fun h1 h2=>jeR h1 h2) g0
 obtain⟨gs,u1,_,e1,r1⟩:=Q9 (n:=2) (by decide) Grd.ds_len (Q:=fun _=>True) Tryz.underlying23 (by kernel_rfl) (fun h1 h2=>V6 h1 h2) g1
 cases e0;cases e1
 refine⟨ds,gs,q0,[_,_],rfl,rfl,fun j x u hx hu=> ?_⟩
 match j,hx,hu with
 |0,hx,hu=>cases hx;cases hu;exact r0
 |1,hx,hu=>cases hx;cases hu;exact r1
end
theorem jfr{f:FuncId}{fn:Func}{s:ChangeSpec}{laid:List (String×DataW Unit)}(os:Os)(started:os.Started)(H:Type)(enc:TypeId×Value→H)(noInit:Tryz.prog.inits.idxOf? f=none)(hfn:Tryz.prog.funcs[f]? =some fn)(hvars:s.vars=[])
  (hres:fn.resultTypes= #[4]) (hts: ∀t∈fn.params.toList,Tryz.prog.readableRec t=true∧t<Tryz.prog.types.size)
  (hspec: ∀(H:Type) (ds:List (DataW H)),ds.length=fn.params.size→s.fn H ds={ results:=[.lit (.bool true)],args:=ds })
  (witness: ∃(w:World) (tape:Tape) (i:Input),w.os=os∧(w.forCall tape i).Shaped Tryz.prog∧i.vars=[]∧Input.okWide Tryz.prog (w.forCall tape i) .any w.heap.size f i∧
   ((s.pre enc Tryz.prog fn [] false (w.forCall tape i).memory i.args∧laidMetH Tryz.prog laid (w.forCall tape i).memory)∧sizedMet enc Tryz.prog fn (OpenSpec.ofChange s) false (w.forCall tape i).memory i.args)∧({}:Assume).holds Tryz.prog (lone (Frame.enter Tryz.prog f i.args .normal) [] (w.forCall tape i)))
  (hc: ∀(W:World) (args:Array Value) (ds:List (DataW H)) (ps:List MemPlace) (base:Nat),(∀(j:Nat) t v,fn.params[j]? =some t→args[j]? =some v→Value.okWide Tryz.prog W .any base t v)→DataW.TrodAll enc Tryz.prog W 0 (fun _=>true) true fn.params.toList args.toList ds ps→
   Calls Tryz.prog f args W fun e W'=>e= .returned (.bool true)∧Below W.heap.size W W'):
  ReturnsInHanded {} Tryz.checked os f .any (fun w args=>(s.pre enc Tryz.prog fn [] false w args∧laidMetH Tryz.prog laid w)∧sizedMet enc Tryz.prog fn (OpenSpec.ofChange s) false w args) (s.post enc Tryz.prog fn false true false false):=by
 refine returnsInHanded_of_change_and (C:=Tryz.checked) (X:=fun w _=>laidMetH Tryz.prog laid w) (fun _ _ _ hh h=>h.of_heap hh) VF started noInit hfn witness ?_
 intro W base args ds gs before hval hW _ _ _ _;have hW':=hW;obtain⟨p,q,hA,hV,rfl,hfz,hnd⟩:=hW;rw[hvars]at hV;obtain⟨rfl,rfl⟩:=trodVars_none hV;have hlen: ∀{ts:List TypeId} {vs:List Value} {ds:List (DataW H)} {ps:List MemPlace},DataW.TrodAll enc Tryz.prog W 0 (fun _=>true) true ts vs ds ps→ds.length=ts.length:=by
  intro ts
  induction ts with
  |nil=>intro vs ds ps h;obtain⟨_,rfl,_⟩:=trodAll_nil h;rfl
  |cons t ts ih=>intro vs ds ps h;obtain⟨v,vs',d,ds',p,q,rfl,rfl,rfl,h1,h2⟩:=trodAll_cons h;simp[ih h2]
 have hsp:s.fn H (ds++[])={ results:=[.lit (.bool true)],args:=ds }:=by
  rw[List.append_nil]
  exact hspec H ds (by simpa using hlen hA)
 refine(hc W args ds p base hval hA).mono fun e W' ⟨he,hb⟩=> ?_
 subst he;refine⟨_,rfl,ds,[],p++[],[],p,[],hW',?_,?_,?_,?_,fun h=>by cases h⟩
 ·rw[hsp,hres]
  exact trodAll_cons_mk (shut_bool Tryz.underlying4 _) trodAll_mk0
 ·rw[hsp]
  exact N9 ZK hb hts hA (fun x hx=>by
   have:=hW'.lt x (by simpa using hx)
   exact this)
 ·rw[hvars,hsp];rfl
 ·exact hb.frame _
end Go.Va
