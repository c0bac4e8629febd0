/- a part of the proof -/
import Derived.Test.YtljdeoefpialhaaGreatDoorHax
import Derived.Test.YtljdeoefpialhaaGreatDoorHaz
import Derived.Test.YtljdeoefpialhaaGreatDoorTie
import Derived.Lay
import Derived.Handy
import Derived.SizedLaws
import Derived.Deep.Slices
import Derived.Test.YtljdeoefpialhaaGreatDoorHaa
import Derived.Lib.ItoaNum
import Derived.Test.YtljdeoefpialhaaGreatDoorHay
set_option linter.all false
set_option maxRecDepth 100000
set_option maxHeartbeats 4000000
namespace Go.Va
open Go.Proofs Go.ChangeShapes Go.WideShapes Go.ChangeAt Go.RowKit
theorem jd2{E:Type}{n:Nat}(hn:0<n){ds:E→List D}(hds: ∀e,(ds e).length=n)(l:List E)(j:Nat):(l.flatMap ds)[j]? =(l[j/n]?).bind fun f=>(ds f)[j%n]? :=by
 have e:j=j/n*n+j%n:=by rw[Nat.mul_comm];exact(Nat.div_add_mod j n).symm
 have hm:=Nat.mod_lt j hn;have h1:(l.flatMap ds)[j]? =((l.flatMap ds).drop (j/n*n))[j%n]? :=by
  rw[List.getElem?_drop]
  congr 1
 rw[h1,jdj hds]
 by_cases h:j/n<l.length
 ·rw[BQ h,AD h,List.flatMap_cons,List.getElem?_append_left (by rw[hds];exact hm)]
  rfl
 ·rw[List.drop_eq_nil_of_le (by omega),B9 (l:=l) (by omega)]
  rfl
theorem Dd{α:Type}{o:Option α}{l:List α}{i:Nat}(h:o=l[i]?)(hi:i<l.length):o=some l[i]:=by rw[h,AD hi]
section
variable {H:Type} {enc:TypeId×Value→H} {w:World} {base:Nat} {sp:Nat→Bool} {hd:Bool}
def Wt(t:TypeId)(d:DataW H):Prop:= ∀n∈d.weights Tryz.prog t,n≤reachBytes
theorem Ow{P:Program}{e:TypeId}: ∀{l:List (DataW H)} {d:DataW H},d∈l→ ∀n∈d.weights P e,n∈DataW.weightsAll P e l
 |x::l,d,h,n,hn=>by
  simp only[DataW.weightsAll,List.mem_append];rcases jzn.1 h with rfl|h
  ·exact .inl hn
  ·exact .inr (Ow h n hn)
theorem Wt.slice{t e:TypeId}{elems spare:List (DataW H)}(hu:Tryz.prog.underlying t=some (.slice e))(h:Wt t (.slice elems spare)):(elems.length+spare.length)*Tryz.prog.bytesOf e≤reachBytes∧ ∀d∈elems,Wt e d:=by
 unfold Wt at h;simp only[DataW.weights,hu,jzn,List.mem_append]at h;exact⟨h _ (.inl rfl),fun d hd n hn=>h n (.inr (.inl (Ow hd n hn)))⟩
theorem Wt.part{t:TypeId}{fs:Array Field}{parts:List (DataW H)}(hu:Tryz.prog.underlying t=some (.struct fs))(h:Wt t (.agg parts)){j:Nat}{u:TypeId}{d:DataW H}(h1:(fs.toList.map (·.type))[j]? =some u)(h2:parts[j]? =some d):Wt u d:=by
 unfold Wt at h;simp only[DataW.weights,hu]at h;exact fun n hn=>h n (DataW.weights_mem_each h1 h2 n hn)
theorem S6{fuel:Nat}{cs:List Value}{x:DataW H×List MemPlace}(h:DataW.trod enc Tryz.prog w base sp hd fuel 42 cs=some x)(hw:Wt 42 x.1):
  ∃(l:List Nat) (v:Value),Ok l∧l.length≤70368744177000∧cs=[v]∧RepD w Z0 (Ad l) v:=by
 have hb2:Tryz.prog.bytesOf 172=2:=by kernel_rfl
 have hu:Tryz.prog.underlying 42=some (.slice 172):=by kernel_rfl
 rcases open_ints (k:= .u16) hu (by kernel_rfl) (by kernel_rfl) h with⟨rfl,_⟩|⟨a,len,cap,zs,rfl,_,h1,h2,h3,hx,h4,h5⟩
 ·exact⟨[],_,Ok.nil,by simp,rfl,.snil⟩
 ·have hz:len≤zs.length:=by rw[h3];split<;>omega
  have hb: ∀n∈zs,0≤n∧n<65536:=fun n hn=>by
   have:=h5 n hn
   simp[Lit.wf,IntKind.min,IntKind.max,IntKind.signed,IntKind.bits]at this
   omega
  rw[hx]at hw
  have hl:=(hw.slice hu).1;rw[hb2]at hl;have hl2:(lits (H:=H) .u16 (zs.take len)).length=len:=by simp[lits,Bs hz]
  rw[hl2]at hl
  have hlen:len≤70368744177000:=by
   have:reachBytes=140737488351232:=rfl
   omega
  refine⟨(zs.take len).map Int.toNat,_,fun y hy=> ?_,by rw[List.length_map,A8];omega,rfl,?_⟩
  ·obtain⟨n,hn,rfl⟩:=jzk.1 hy
   have:=hb n (List.mem_of_mem_take hn)
   omega
  ·have:=Uk (e:=fun _=>True) h1 h2 hz h4
   have e:Ad ((zs.take len).map Int.toNat)= .slice len ((zs.take len).map (D.int .u16)):=by
    show D.slice _ _=_
    rw[List.length_map,A8,Bs hz,List.map_map]
    congr 1
    refine List.map_congr_left fun n hn=> ?_
    have:=hb n (List.mem_of_mem_take hn)
    show D.int .u16 ((n.toNat:Nat):Int)=_
    rw[Int.toNat_of_nonneg this.1]
   rw[e]
   exact this
theorem P3{E:Type}[Inhabited E]{n:Nat}(hn:0<n){ds:E→List D}(hds: ∀e,(ds e).length=n){Q:E→Prop}{tE tS:TypeId}(hu:Tryz.prog.underlying tS=some (.slice tE))(hcell:Tryz.prog.cellsOf tE=n)
  (he: ∀{fuel:Nat} {cs:List Value} {x:DataW H×List MemPlace},cs.length=n→DataW.trod enc Tryz.prog w base sp hd fuel tE cs=some x→Wt tE x.1→ ∃f:E,Q f∧ ∀(j:Nat) (x:D) (u:Value),(ds f)[j]? =some x→cs[j]? =some u→RepD w Z0 x u)
  {fuel:Nat} {cs:List Value} {x:DataW H×List MemPlace} (h:DataW.trod enc Tryz.prog w base sp hd fuel tS cs=some x) (hw:Wt tS x.1):
  ∃(l:List E) (v:Value),(∀f∈l,Q f)∧l.length*Tryz.prog.bytesOf tE≤reachBytes∧cs=[v]∧RepD w Z0 (.slice l.length (l.flatMap ds)) v:=by
 rcases Go.Deep.open_slice hu h with⟨e,_⟩|⟨a,len,cap,m,k,DD,Pl,e,_,h1,h2,h3,hx0,h4⟩
 ·exact⟨[],_,by simp,by simp,e,.snil⟩
 ·have hm:len≤m:=by rw[h3];split<;>omega
  rw[hx0]at hw
  obtain⟨w1,w2⟩:=hw.slice hu
  rw[List.length_map,List.length_range]at w1
  have w1':len*Tryz.prog.bytesOf tE≤reachBytes:=Nat.le_trans (BC _ (Nat.le_add_right _ _)) w1;rw[hcell]at h4;have each: ∀i,i<len→ ∃q:E×List Value,Q q.1∧q.2.length=n∧(∀k,k<n→w.cell? ((a.add (i*n)).add k)=q.2[k]?)∧ ∀(j:Nat) (x:D) (u:Value),(ds q.1)[j]? =some x→q.2[j]? =some u→RepD w Z0 x u:=fun i hi=>by
   obtain⟨cs,c1,c2⟩:=h4 i (by omega)
   obtain⟨_,c3,c4⟩:=World.cells?_some c1
   obtain⟨f,f1,f2⟩:=he c3 c2 (w2 _ (jzk.2 ⟨i,List.mem_range.2 hi,rfl⟩))
   exact⟨(f,cs),f1,c3,c4,f2⟩
  obtain⟨q,hq⟩:=Go.Deep.choose_lt each
  have hspot:0<len→a.spot=none:=fun h=>by
   obtain⟨_,q1,q2,_⟩:=hq 0 (by omega)
   have q2:=q2 0 hn;rw[AD (by omega)]at q2
   have:=q2
   unfold Addr.add at this;simp only[Nat.zero_mul,if_true]at this;unfold World.cell? at this;split at this
   ·split at this
    ·cases this
    ·rename_i hn
     simpa using hn
   ·cases this
  refine⟨(List.range len).map fun i=>(q i).1,_,fun f hf=> ?_,by rw[List.length_map,List.length_range];exact w1',e,?_⟩
  ·obtain⟨i,hi,rfl⟩:=jzk.1 hf
   exact(hq i (List.mem_range.1 hi)).1
  ·have hx: ∀(j:Nat) (x:Va.D),((((List.range len).map fun i=>(q i).1)).flatMap ds)[j]? =some x→j/n<len∧(ds (q (j/n)).1)[j%n]? =some x:=fun j x hj=>by
    rw[jd2 hn hds,Bf]at hj
    by_cases h:j/n<len
    ·rw[List.getElem?_range h]at hj
     exact⟨h,by simpa using hj⟩
    ·rw[B9 (by simpa using h)]at hj
     cases hj
   rw[show((List.range len).map fun i=>(q i).1).length=len by simp]
   have hat: ∀j,j/n<len→w.cell? ⟨a.block,a.off+j,none⟩=some ((q (j/n)).2.getD (j%n) .nilFunc):=fun j hj=>by
    obtain⟨_,q1,q2,_⟩:=hq (j/n) hj
    have hmd:=Nat.mod_lt j hn;have q2:=q2 (j%n) hmd;rw[AL,AD (by omega)]
    rw[AD (by omega),Go.Deep.add_add]at q2
    have hs:=hspot (Nat.lt_of_le_of_lt (Nat.zero_le _) hj);have:a.add (j/n*n+j%n)=⟨a.block,a.off+j,none⟩:=by
     rw[show j/n*n+j%n=j by rw[Nat.mul_comm];exact Nat.div_add_mod j n]
     unfold Addr.add;split
     ·rename_i h0
      subst h0;obtain⟨b,o,s⟩:=a;simp only at hs;subst hs;rfl
     ·rfl
    rw[←this]
    exact q2
   refine .slice len _ a cap (fun j=>(q (j/n)).2.getD (j%n) .nilFunc) (fun hne=> ?_) h1 h2 (fun j x hj=>hat j (hx j x hj).1) (fun j x hj h=>h) (fun j x hj=> ?_)
   ·obtain⟨x,hx2⟩:=List.exists_mem_of_ne_nil _ hne
    obtain⟨j,hj⟩:=List.getElem?_of_mem hx2
    exact hspot (Nat.lt_of_le_of_lt (Nat.zero_le _) (hx j x hj).1)
   ·obtain⟨hj1,hj2⟩:=hx j x hj
    obtain⟨_,q1,_,q3⟩:=hq (j/n) hj1
    refine q3 _ _ _ hj2 ?_;rw[AL,AD (by have:=Nat.mod_lt j hn;omega)]
    rfl
theorem U0{fuel:Nat}{cs:List Value}{x:DataW H×List MemPlace}(h:DataW.trod enc Tryz.prog w base sp hd fuel 46 cs=some x)(hw:Wt 46 x.1):
  ∃(b:Bool) (l m:List Nat) (v3 v4:Value),(Ok l∧l.length≤70368744177000)∧(Ok m∧m.length≤70368744177000)∧cs=[.bool b,v3,v4]∧RepD w Z0 (Ad l) v3∧RepD w Z0 (Ad m) v4:=by
 have hc26:Tryz.prog.cellsOf 44=2:=by kernel_rfl
 have hc24:Tryz.prog.cellsOf 42=1:=by kernel_rfl
 have hc28:Tryz.prog.cellsOf 46=3:=by kernel_rfl
 have hc4:Tryz.prog.cellsOf 4=1:=by kernel_rfl
 obtain⟨ys,n2,_,hx,hlen,hy2,hf2⟩:=DataW.trod_struct Tryz.underlying46 h
 rw[hc28]at hlen
 rw[hx]at hw
 have hy2':ys.length=2:=hy2
 obtain⟨c0,c1,c2,rfl⟩: ∃c0 c1 c2,cs=[c0,c1,c2]:=by
  match cs,hlen with
  |[c0,c1,c2],_=>exact⟨c0,c1,c2,rfl⟩
 have k0:=Dd (hf2 0 _ rfl) (by omega)
 have k1:=Dd (hf2 1 _ rfl) (by omega)
 have w0:Wt 44 (ys[0]'(by omega)).1:=hw.part (j:=0) Tryz.underlying46 rfl (by rw[Bf,AD (by omega)];rfl)
 have w1:Wt 42 (ys[1]'(by omega)).1:=hw.part (j:=1) Tryz.underlying46 rfl (by rw[Bf,AD (by omega)];rfl)
 simp only[hc26,hc24,List.getElem_toArray,List.getElem_cons_zero,List.getElem_cons_succ,List.drop_zero,List.take_succ_cons,List.take_zero,List.drop_succ_cons]at k0 k1;obtain⟨D4,u4,o4,p4,e4,r4⟩:=S6 k1 w1;obtain⟨zs,n3,_,hx3,_,hz2,hf3⟩:=DataW.trod_struct Tryz.underlying44 k0;rw[hx3]at w0;have hz2':zs.length=2:=hz2;have j0:=Dd (hf3 0 _ rfl) (by omega)
 have j1:=Dd (hf3 1 _ rfl) (by omega)
 have w2:Wt 42 (zs[1]'(by omega)).1:=w0.part (j:=1) Tryz.underlying44 rfl (by rw[Bf,AD (by omega)];rfl)
 simp only[hc4,hc24,List.getElem_toArray,List.getElem_cons_zero,List.getElem_cons_succ,List.drop_zero,List.take_succ_cons,List.take_zero,List.drop_succ_cons]at j0 j1;obtain⟨b,e2,_⟩:=DataW.trod_bool Tryz.underlying4 j0;obtain⟨D3,u3,o3,p3,e3,r3⟩:=S6 j1 w2;cases e2;cases e3;cases e4;exact⟨b,D3,D4,_,_,⟨o3,p3⟩,⟨o4,p4⟩,rfl,r3,r4⟩
theorem jgJ{fuel:Nat}{cs:List Value}{x:DataW H×List MemPlace}(hlen:cs.length=5)(h:DataW.trod enc Tryz.prog w base sp hd fuel 48 cs=some x)(hw:Wt 48 x.1):
  ∃f:Fct,f.Long∧ ∀(j:Nat) (x:D) (u:Value),f.ds[j]? =some x→cs[j]? =some u→RepD w Z0 x u:=by
 have hc3:Tryz.prog.cellsOf 3=1:=by kernel_rfl
 have hc22:Tryz.prog.cellsOf 40=1:=by kernel_rfl
 have hc28:Tryz.prog.cellsOf 46=3:=by kernel_rfl
 obtain⟨xs,n,_,hx,_,hx3,hf⟩:=DataW.trod_struct Tryz.underlying48 h
 rw[hx]at hw
 have hx3':xs.length=3:=hx3
 obtain⟨c0,c1,c2,c3,c4,rfl⟩: ∃c0 c1 c2 c3 c4,cs=[c0,c1,c2,c3,c4]:=by
  match cs,hlen with
  |[c0,c1,c2,c3,c4],_=>exact⟨c0,c1,c2,c3,c4,rfl⟩
 have g0:=Dd (hf 0 _ rfl) (by omega)
 have g1:=Dd (hf 1 _ rfl) (by omega)
 have g2:=Dd (hf 2 _ rfl) (by omega)
 have w2:Wt 46 (xs[2]'(by omega)).1:=hw.part (j:=2) Tryz.underlying48 rfl (by rw[Bf,AD (by omega)];rfl)
 simp only[hc3,hc22,hc28,List.getElem_toArray,List.getElem_cons_zero,List.getElem_cons_succ,List.drop_zero,List.take_succ_cons,List.take_zero,List.drop_succ_cons]at g0 g1 g2;obtain⟨k,e0,_,_⟩:=DataW.trod_int Tryz.underlying3 g0;obtain⟨l,u1,e1,r1⟩:=Rs g1;obtain⟨b,D3,D4,v3,v4,⟨o3,p3⟩,⟨o4,p4⟩,e2,r3,r4⟩:=U0 g2 w2;cases e0;cases e1;cases e2;refine⟨⟨k,l,b,D3,D4⟩,⟨o3,o4,p3,p4⟩,fun j x u hx hu=> ?_⟩
 match j,hx,hu with
 |0,hx,hu=>cases hx;cases hu;exact .int _ _
 |1,hx,hu=>cases hx;cases hu;exact r1
 |2,hx,hu=>cases hx;cases hu;exact .bool _
 |3,hx,hu=>cases hx;cases hu;exact r3
 |4,hx,hu=>cases hx;cases hu;exact r4
theorem X9{fuel:Nat}{cs:List Value}{x:DataW H×List MemPlace}(hlen:cs.length=6)(h:DataW.trod enc Tryz.prog w base sp hd fuel 53 cs=some x)(hw:Wt 53 x.1):
  ∃f:Stp,f.Ok∧ ∀(j:Nat) (x:D) (u:Value),f.ds[j]? =some x→cs[j]? =some u→RepD w Z0 x u:=by
 have hc3:Tryz.prog.cellsOf 3=1:=by kernel_rfl
 have hc9:Tryz.prog.cellsOf 9=1:=by kernel_rfl
 have hc22:Tryz.prog.cellsOf 40=1:=by kernel_rfl
 have hc28:Tryz.prog.cellsOf 46=3:=by kernel_rfl
 obtain⟨xs,n,_,hx,_,hx3,hf⟩:=DataW.trod_struct Tryz.underlying53 h
 rw[hx]at hw
 have hx3':xs.length=4:=hx3
 obtain⟨c0,c1,c2,c3,c4,c5,rfl⟩: ∃c0 c1 c2 c3 c4 c5,cs=[c0,c1,c2,c3,c4,c5]:=by
  match cs,hlen with
  |[c0,c1,c2,c3,c4,c5],_=>exact⟨c0,c1,c2,c3,c4,c5,rfl⟩
 have g0:=Dd (hf 0 _ rfl) (by omega)
 have g1:=Dd (hf 1 _ rfl) (by omega)
 have g2:=Dd (hf 2 _ rfl) (by omega)
 have g3:=Dd (hf 3 _ rfl) (by omega)
 have w3:Wt 46 (xs[3]'(by omega)).1:=hw.part (j:=3) Tryz.underlying53 rfl (by rw[Bf,AD (by omega)];rfl)
 simp only[hc3,hc9,hc22,hc28,List.getElem_toArray,List.getElem_cons_zero,List.getElem_cons_succ,List.drop_zero,List.take_succ_cons,List.take_zero,List.drop_succ_cons]at g0 g1 g2 g3;obtain⟨k,e0,_,_⟩:=DataW.trod_int Tryz.underlying3 g0;obtain⟨s,e1,_⟩:=DataW.trod_string Tryz.underlying9 g1;obtain⟨l,u1,e2,r1⟩:=Rs g2;obtain⟨b,D3,D4,v3,v4,⟨o3,p3⟩,⟨o4,p4⟩,e3,r3,r4⟩:=U0 g3 w3;cases e0;cases e1;cases e2;cases e3;refine⟨⟨k,s,l,b,D3,D4⟩,⟨o3,o4,p3,p4⟩,fun j x u hx hu=> ?_⟩
 match j,hx,hu with
 |0,hx,hu=>cases hx;cases hu;exact .int _ _
 |1,hx,hu=>cases hx;cases hu;exact .str _
 |2,hx,hu=>cases hx;cases hu;exact r1
 |3,hx,hu=>cases hx;cases hu;exact .bool _
 |4,hx,hu=>cases hx;cases hu;exact r3
 |5,hx,hu=>cases hx;cases hu;exact r4
theorem jkK{v:Value}{d:DataW H}{p:List MemPlace}(h:DataW.Trod enc Tryz.prog w base sp hd 25 v d p)(hw:Wt 25 d):
  ∃(l:List Stp) (gs:List Fct),(∀s∈l,s.Ok)∧(∀g∈gs,g.Long)∧A.rep w Z0 (.agg [Bx l,AQ gs]) v:=by
 obtain⟨fuel,h⟩:=h
 obtain⟨xs,n,_,hxx,hlen,hx,hf⟩:=DataW.trod_struct Tryz.underlying25 h
 have hd':d= .agg (xs.map (·.1)):=congrArg Prod.fst hxx
 subst hd';have hx2:xs.length=2:=hx;have hc25:Tryz.prog.cellsOf 25=2:=by kernel_rfl
 rw[hc25]at hlen
 have hcd:Tryz.prog.cellsOf 22=1:=by kernel_rfl
 have hcg:Tryz.prog.cellsOf 23=1:=by kernel_rfl
 have hv: ∃c0 c1,v= .agg #[c0,c1]:=by
  cases v with
  |agg cs=>
   obtain⟨l⟩:=cs
   have hl:l.length=2:=hlen
   match l,hl with
   |[c0,c1],_=>exact⟨c0,c1,rfl⟩
  |_=>simp[Value.cells]at hlen
 obtain⟨c0,c1,rfl⟩:=hv
 have hcs:(Value.agg #[c0,c1]).cells.toList=[c0,c1]:=rfl
 rw[hcs]at hf
 have g0:=Dd (hf 0 _ rfl) (by omega)
 have g1:=Dd (hf 1 _ rfl) (by omega)
 have w0:Wt 22 (xs[0]'(by omega)).1:=hw.part (j:=0) Tryz.underlying25 rfl (by rw[Bf,AD (by omega)];rfl)
 have w1:Wt 23 (xs[1]'(by omega)).1:=hw.part (j:=1) Tryz.underlying25 rfl (by rw[Bf,AD (by omega)];rfl)
 simp only[hcd,hcg,List.getElem_toArray,List.getElem_cons_zero,List.getElem_cons_succ,List.drop_zero,List.take_succ_cons,List.take_zero,List.drop_succ_cons]at g0 g1
 haveI:Inhabited Stp:=⟨⟨0,⟨#[]⟩,[],false,[],[]⟩⟩
 haveI:Inhabited Fct:=⟨⟨0,[],false,[],[]⟩⟩
 obtain⟨l,u0,q0,b0,e0,r0⟩:=P3 (n:=6) (by decide) Stp.ds_len (Q:=fun x=>x.Ok) Tryz.underlying22 (by kernel_rfl) (fun h1 h2 h3=>X9 h1 h2 h3) g0 w0
 obtain⟨gs,u1,q1,b1,e1,r1⟩:=P3 (n:=5) (by decide) Fct.ds_len (Q:=fun x=>x.Long) Tryz.underlying23 (by kernel_rfl) (fun h1 h2 h3=>jgJ h1 h2 h3) g1 w1
 cases e0;cases e1
 refine⟨l,gs,q0,q1,[_,_],rfl,rfl,fun j x u hx hu=> ?_⟩
 match j,hx,hu with
 |0,hx,hu=>cases hx;cases hu;exact r0
 |1,hx,hu=>cases hx;cases hu;exact r1
end
theorem jfF{f:FuncId}{fn:Func}{s:ChangeSpec}{laid:List (String×DataW Unit)}(os:Os)(started:os.Started)(H:Type)(enc:TypeId×Value→H)(noInit:Tryz.prog.inits.idxOf? f=none)(hfn:Tryz.prog.funcs[f]? =some fn)(hvars:s.vars=[])
  (hres:fn.resultTypes= #[4]) (hts: ∀t∈fn.params.toList,Tryz.prog.readableRec t=true∧t<Tryz.prog.types.size)
  (hspec: ∀(H:Type) (ds:List (DataW H)),ds.length=fn.params.size→s.fn H ds={ results:=[.lit (.bool true)],args:=ds })
  (witness: ∃(w:World) (tape:Tape) (i:Input),w.os=os∧(w.forCall tape i).Shaped Tryz.prog∧i.vars=[]∧Input.okWide Tryz.prog (w.forCall tape i) .any w.heap.size f i∧
   ((s.pre enc Tryz.prog fn [] false (w.forCall tape i).memory i.args∧laidMetH Tryz.prog laid (w.forCall tape i).memory)∧sizedMet enc Tryz.prog fn (OpenSpec.ofChange s) false (w.forCall tape i).memory i.args)∧({}:Assume).holds Tryz.prog (lone (Frame.enter Tryz.prog f i.args .normal) [] (w.forCall tape i)))
  (hc: ∀(W:World) (args:Array Value) (ds:List (DataW H)) (ps:List MemPlace) (base:Nat),(∀(j:Nat) t v,fn.params[j]? =some t→args[j]? =some v→Value.okWide Tryz.prog W .any base t v)→DataW.TrodAll enc Tryz.prog W 0 (fun _=>true) true fn.params.toList args.toList ds ps→
   (∀(j:Nat) t d,fn.params.toList[j]? =some t→ds[j]? =some d→Wt t d)→
   Calls Tryz.prog f args W fun e W'=>e= .returned (.bool true)∧Below W.heap.size W W'):
  ReturnsInHanded {} Tryz.checked os f .any (fun w args=>(s.pre enc Tryz.prog fn [] false w args∧laidMetH Tryz.prog laid w)∧sizedMet enc Tryz.prog fn (OpenSpec.ofChange s) false w args) (s.post enc Tryz.prog fn false true false false):=by
 refine returnsInHanded_of_change_and (C:=Tryz.checked) (X:=fun w _=>laidMetH Tryz.prog laid w) (fun _ _ _ hh h=>h.of_heap hh) jbF started noInit hfn witness ?_
 intro W base args ds gs before hval hW _ hwt _ _;have hW':=hW;obtain⟨p,q,hA,hV,rfl,hfz,hnd⟩:=hW;rw[hvars]at hV;obtain⟨rfl,rfl⟩:=trodVars_none hV;have hlen: ∀{ts:List TypeId} {vs:List Value} {ds:List (DataW H)} {ps:List MemPlace},DataW.TrodAll enc Tryz.prog W 0 (fun _=>true) true ts vs ds ps→ds.length=ts.length:=by
  intro ts
  induction ts with
  |nil=>intro vs ds ps h;obtain⟨_,rfl,_⟩:=trodAll_nil h;rfl
  |cons t ts ih=>intro vs ds ps h;obtain⟨v,vs',d,ds',p,q,rfl,rfl,rfl,h1,h2⟩:=trodAll_cons h;simp[ih h2]
 have hsp:s.fn H (ds++[])={ results:=[.lit (.bool true)],args:=ds }:=by
  rw[List.append_nil]
  exact hspec H ds (by simpa using hlen hA)
 have hwt': ∀(j:Nat) t d,fn.params.toList[j]? =some t→ds[j]? =some d→Wt t d:=fun j t d ht hd n hn=>by
  have ht':(fn.params.toList++s.plain.varTypes Tryz.prog)[j]? =some t:=by
   rw[List.getElem?_append_left (jzg.1 ht).1];exact ht
  have hd':(ds++[])[j]? =some d:=by rw[List.append_nil];exact hd
  have:=jzy.1 hwt n (DataW.weights_mem_each ht' hd' n hn)
  simpa using this
 refine(hc W args ds p base hval hA hwt').mono fun e W' ⟨he,hb⟩=> ?_
 subst he;refine⟨_,rfl,ds,[],p++[],[],p,[],hW',?_,?_,?_,?_,fun h=>by cases h⟩
 ·rw[hsp,hres]
  exact trodAll_cons_mk (shut_bool Tryz.underlying4 _) trodAll_mk0
 ·rw[hsp]
  exact Tb WY hb hts hA (fun x hx=>by
   have:=hW'.lt x (by simpa using hx)
   exact this)
 ·rw[hvars,hsp];rfl
 ·exact hb.frame _
end Go.Va
namespace Go.Va
open Go
def KY(l:List UInt8):Nat:=l.foldl (fun a b=>10*a+(b.toNat - 48)) 0
theorem IT{n:Nat}(h:n<256):(UInt8.ofNat n).toNat=n:=by
 rw[UInt8.toNat_ofNat']
 exact AX h
theorem Q0(u:Nat):KY (Lib.decDigits u)=u:=by
 induction u using Nat.strongRecOn with
 |_ u ih=>
  rw[Lib.decDigits]
  split
  ·rename_i h
   simp only[KY,List.foldl_cons,List.foldl_nil];rw[IT (by omega)]
   omega
  ·rename_i h
   have:=ih (u/10) (by omega)
   simp only[KY]at this ⊢;rw[List.foldl_append,this];simp only[List.foldl_cons,List.foldl_nil];rw[IT (by omega)]
   omega
theorem KQ{u v:Nat}(h:Lib.decDigits u=Lib.decDigits v):u=v:=by
 rw[←Q0 u,h,Q0]
def TE(l:List UInt8):Prop:= ∀x∈l,48≤x.toNat∧x.toNat≤57
theorem II(u:Nat):TE (Lib.decDigits u):=by
 induction u using Nat.strongRecOn with
 |_ u ih=>
  rw[Lib.decDigits]
  split
  ·rename_i h
   intro x hx;simp only[List.mem_singleton]at hx;subst hx;rw[IT (by omega)]
   omega
  ·rename_i h
   intro x hx;rcases List.mem_append.1 hx with hx|hx
   ·exact ih (u/10) (by omega) x hx
   ·simp only[List.mem_singleton]at hx;subst hx;rw[IT (by omega)]
    omega
theorem Nu(u:Nat):Lib.decDigits u≠[]:=by
 rw[Lib.decDigits]
 split<;>simp
def Jw(b:UInt8)(R:List UInt8):Prop:=R=[]∨ ∃r,R=b::r
theorem Ki{b:UInt8}: ∀{t t' R R':List UInt8},b∉t→b∉t'→Jw b R→Jw b R'→t++R=t'++R'→t=t'∧R=R'
 |[],[],R,R',_,_,_,_,h=>⟨rfl,h⟩
 |[],y::t',R,R',_,h2,h3,_,h=>by
  rcases h3 with rfl|⟨r,rfl⟩
  ·cases h
  ·simp only[List.nil_append,List.cons_append,List.cons.injEq]at h;exact absurd (by rw[h.1];exact List.mem_cons_self ..) h2
 |x::t,[],R,R',h1,_,_,h4,h=>by
  rcases h4 with rfl|⟨r,rfl⟩
  ·cases h
  ·simp only[List.nil_append,List.cons_append,List.cons.injEq]at h;exact absurd (by rw[h.1];exact List.mem_cons_self ..) h1
 |x::t,y::t',R,R',h1,h2,h3,h4,h=>by
  simp only[List.cons_append,List.cons.injEq]at h;obtain⟨e1,e2⟩:=Ki (fun hm=>h1 (List.mem_cons_of_mem _ hm)) (fun hm=>h2 (List.mem_cons_of_mem _ hm)) h3 h4 h.2
  exact⟨by rw[h.1,e1],e2⟩
def Bp(ts:List (List UInt8)):List UInt8:=ts.flatMap fun t=>32::t
theorem Kx(ts:List (List UInt8)):Jw 32 (Bp ts):=by
 cases ts with
 |nil=>exact .inl rfl
 |cons t r=>exact .inr ⟨_,rfl⟩
theorem N7: ∀{ts us:List (List UInt8)},(∀t∈ts,(32:UInt8)∉t)→(∀t∈us,(32:UInt8)∉t)→Bp ts=Bp us→ts=us
 |[],[],_,_,_=>rfl
 |[],_::_,_,_,h=>by cases h
 |_::_,[],_,_,h=>by cases h
 |t::ts,u::us,h1,h2,h=>by
  simp only[Bp,List.flatMap_cons,List.cons_append,List.cons.injEq,true_and]at h;obtain⟨e1,e2⟩:=Ki (h1 t (List.mem_cons_self ..)) (h2 u (List.mem_cons_self ..)) (Kx ts) (Kx us) h;rw[e1,N7 (fun x hx=>h1 x (List.mem_cons_of_mem _ hx)) (fun x hx=>h2 x (List.mem_cons_of_mem _ hx)) e2]
theorem jcf{t u:List UInt8}{ts us:List (List UInt8)}(h1: ∀x∈t::ts,(32:UInt8)∉x)(h2: ∀x∈u::us,(32:UInt8)∉x)(h:t++Bp ts=u++Bp us):t=u∧ts=us:=by
 obtain⟨e1,e2⟩:=Ki (h1 t (List.mem_cons_self ..)) (h2 u (List.mem_cons_self ..)) (Kx ts) (Kx us) h
 exact⟨e1,N7 (fun x hx=>h1 x (List.mem_cons_of_mem _ hx)) (fun x hx=>h2 x (List.mem_cons_of_mem _ hx)) e2⟩
theorem JF{l:List UInt8}(h:TE l){b:UInt8}(hb:b.toNat<48∨57<b.toNat):b∉l:=fun hm=>by
 have:=h b hm
 omega
def BL(neg:Bool)(m d:Nat):List UInt8:=(if neg then [45] else [])++(Lib.decDigits m++(if d=1 then [] else 47::Lib.decDigits d))
theorem jeB{n n':Bool}{m m' d d':Nat}(h:BL n m d=BL n' m' d'):n=n'∧m=m'∧d=d':=by
 have hd: ∀(d:Nat),Jw 47 (if d=1 then [] else 47::Lib.decDigits d):=fun d=>by
  split
  ·exact .inl rfl
  ·exact .inr ⟨_,rfl⟩
 have h47: ∀m,(47:UInt8)∉Lib.decDigits m:=fun m=>JF (II m) (by decide)
 have core: ∀{m m' d d':Nat},Lib.decDigits m++(if d=1 then [] else 47::Lib.decDigits d)=Lib.decDigits m'++(if d'=1 then [] else 47::Lib.decDigits d')→m=m'∧d=d':=fun {m m' d d'} h=>by
  obtain⟨e1,e2⟩:=Ki (h47 m) (h47 m') (hd d) (hd d') h
  refine⟨KQ e1,?_⟩
  split at e2<;>split at e2
  ·omega
  ·cases e2
  ·cases e2
  ·simp only[List.cons.injEq,true_and]at e2;exact KQ e2
 have mix: ∀{m m':Nat} {R R':List UInt8},(45:UInt8)::R≠Lib.decDigits m'++R':=fun {m m' R R'} e=>by
  cases hq:Lib.decDigits m' with
  |nil=>exact Nu _ hq
  |cons x l=>
   rw[hq]at e
   simp only[List.cons_append,List.cons.injEq]at e;have:=II m' x (by rw[hq];exact List.mem_cons_self ..)
   rw[←e.1]at this
   exact absurd this.1 (by decide)
 unfold BL at h;cases n<;>cases n'<;>simp only[Bool.false_eq_true,if_false,if_true,List.nil_append,List.cons_append]at h
 ·obtain⟨a,b⟩:=core h;exact⟨rfl,a,b⟩
 ·exact absurd h.symm (mix (m:=0))
 ·exact absurd h (mix (m:=0))
 ·simp only[List.cons.injEq,true_and]at h;obtain⟨a,b⟩:=core h;exact⟨rfl,a,b⟩
theorem jdz(n:Bool)(m d:Nat):(32:UInt8)∉BL n m d:=by
 have h: ∀m,(32:UInt8)∉Lib.decDigits m:=fun m=>JF (II m) (by decide)
 unfold BL;intro hm;rcases List.mem_append.1 hm with hm|hm
 ·split at hm
  ·simp at hm
  ·cases hm
 ·rcases List.mem_append.1 hm with hm|hm
  ·exact h m hm
  ·split at hm
   ·cases hm
   ·rcases jzn.1 hm with hm|hm
    ·exact absurd hm (by decide)
    ·exact h d hm
def Bv(l:List Int):List (List UInt8):=l.map fun a=>Lib.decDigits a.toNat
theorem jgN{l:List Int}: ∀t∈Bv l,(32:UInt8)∉t:=fun t ht=>by
 obtain⟨a,_,rfl⟩:=jzk.1 ht
 exact JF (II _) (by decide)
theorem Lb: ∀{l m:List Int},(∀a∈l,0≤a)→(∀a∈m,0≤a)→Bv l=Bv m→l=m
 |[],[],_,_,_=>rfl
 |[],_::_,_,_,h=>by cases h
 |_::_,[],_,_,h=>by cases h
 |a::l,b::m,h1,h2,h=>by
  simp only[Bv,List.map_cons,List.cons.injEq]at h;have:=KQ h.1;have:=h1 a (List.mem_cons_self ..);have:=h2 b (List.mem_cons_self ..);rw[Lb (fun x hx=>h1 x (List.mem_cons_of_mem _ hx)) (fun x hx=>h2 x (List.mem_cons_of_mem _ hx)) h.2,show a=b by omega]
def CI(k:Int)(l:List Int)(neg:Bool)(m d:Nat):List UInt8:=Lib.decDigits k.toNat++Bp (Bv l++if k=9 then [BL neg m d] else [])
theorem jiD{k k':Int}{l l':List Int}{n n':Bool}{m m' d d':Nat}(hk:0≤k)(hk':0≤k')(hl: ∀a∈l,0≤a)(hl': ∀a∈l',0≤a)(h:CI k l n m d=CI k' l' n' m' d'):
  k=k'∧l=l'∧(k=9→n=n'∧m=m'∧d=d'):=by
 have sp: ∀{k:Int} {l:List Int} {n:Bool} {m d:Nat},∀x∈Lib.decDigits k.toNat::(Bv l++if k=9 then [BL n m d] else []),(32:UInt8)∉x:=fun {k l n m d} x hx=>by
  rcases jzn.1 hx with rfl|hx
  ·exact JF (II _) (by decide)
  ·rcases List.mem_append.1 hx with hx|hx
   ·exact jgN x hx
   ·split at hx
    ·simp only[List.mem_singleton]at hx;subst hx;exact jdz _ _ _
    ·cases hx
 obtain⟨e1,e2⟩:=jcf sp sp h
 have ek:k=k':=by have:=KQ e1;omega
 subst ek;by_cases h9:k=9
 ·rw[if_pos h9,if_pos h9]at e2
  obtain⟨e3,e4⟩:=List.append_inj' e2 rfl
  simp only[List.cons.injEq,and_true]at e4;exact⟨rfl,Lb hl hl' e3,fun _=>jeB e4⟩
 ·rw[if_neg h9,if_neg h9,List.append_nil,List.append_nil]at e2
  exact⟨rfl,Lb hl hl' e2,fun h=>absurd h h9⟩
end Go.Va
namespace Go.Va
open Int renaming natCast_add → qA, natCast_mul → qB, natCast_emod → qC, natCast_ediv → qD, natCast_pow → qE
open List renaming reduceReplicate → qF
open Go.Proofs
def C3(f:Fct):Bool:=decide (wrong f 40=0)
theorem Ux(f:Fct)(hf:f.Mild):CallsF Tryz.prog 27 [.agg f.ds] (.u (.c (.d (.bool (C3 f))))):=by
 refine cO Tryz.func27 rfl ?_;have k:=RO f hf 40;simp only[Fct.ds]at k ⊢;simp -implicitDefEqProofs[jJ,-qA,-qB];refine Ac k ?_
 simp -implicitDefEqProofs[jJ,-qA,-qB,C3]
theorem Ph(f:Fct)(hf:f.Mild):CallsF Tryz.prog 102 [.agg f.ds] (.u (.c (.d (.bool (C3 f))))):=by
 refine cO Tryz.func102 rfl ?_;have k:=jbB f hf 40;simp only[Fct.ds]at k ⊢;simp -implicitDefEqProofs[jJ,-qA,-qB];refine Ac k ?_
 simp -implicitDefEqProofs[jJ,-qA,-qB,C3]
theorem I3(kind a b c d:Int)(neg:Bool)(abs den:List Nat):CallsF Tryz.prog 53 [.agg [.int .i64 kind,intsD [a,b,c,d],.bool neg,Ad abs,Ad den]] (.u (.c (.own 2 2 [.int .i64 (lo a b),.int .i64 (hi a b),.int .i64 (lo c d),.int .i64 (hi c d)]))):=
 UQ ⟨kind,[a,b,c,d],neg,abs,den⟩ (by simp)
theorem PO(kind a b c d e f g h:Int)(neg:Bool)(abs den:List Nat):CallsF Tryz.prog 53 [.agg [.int .i64 kind,intsD [a,b,c,d,e,f,g,h],.bool neg,Ad abs,Ad den]] (.u (.c (.own 2 4 [.int .i64 (lo a b),.int .i64 (hi a b),.int .i64 (lo c d),.int .i64 (hi c d),.int .i64 (lo e f),.int .i64 (hi e f),.int .i64 (lo g h),.int .i64 (hi g h)]))):=
 UQ ⟨kind,[a,b,c,d,e,f,g,h],neg,abs,den⟩ (by simp)
def Fct.res(f:Fct):R:= .u (.agg [.d (.int .i64 f.kind),.d (intsD f.args),.d (.bool f.neg),.d (Ad f.abs),.d (Ad f.den)])
theorem IB(kind a b c d:Int)(neg:Bool)(abs den:List Nat):CallsF Tryz.prog 191 [.c (.int .i64 kind),.agg [.bool neg,Ad abs,Ad den],.c (.slice 2 [.int .i64 a,.int .i64 b,.int .i64 c,.int .i64 d])]
  (.u (.agg [.d (.int .i64 kind),.d (intsD [a,b,c,d]),.d (.bool neg),.d (Ad abs),.d (Ad den)])):=
 Oj kind neg abs den [(a,b),(c,d)] (by simp)
theorem O3(kind a b c d e f g h:Int)(neg:Bool)(abs den:List Nat):CallsF Tryz.prog 191 [.c (.int .i64 kind),.agg [.bool neg,Ad abs,Ad den],.c (.slice 4 [.int .i64 a,.int .i64 b,.int .i64 c,.int .i64 d,.int .i64 e,.int .i64 f,.int .i64 g,.int .i64 h])]
  (.u (.agg [.d (.int .i64 kind),.d (intsD [a,b,c,d,e,f,g,h]),.d (.bool neg),.d (Ad abs),.d (Ad den)])):=
 Oj kind neg abs den [(a,b),(c,d),(e,f),(g,h)] (by simp)
def D9(kind:Int)(p q:Int×Int):Fct:=if A6 q p<0 then ⟨kind,[q.1,q.2,p.1,p.2],false,[],[]⟩ else ⟨kind,[p.1,p.2,q.1,q.2],false,[],[]⟩
theorem LI(kind a b c d:Int)(neg:Bool)(abs den:List Nat):CallsF Tryz.prog 120 [.agg [.int .i64 kind,intsD [a,b,c,d],.bool neg,Ad abs,Ad den]] (D9 kind (A7 a b) (A7 c d)).res:=by
 refine cO Tryz.func120 rfl ?_;have k1:=I3 kind a b c d neg abs den;have k2:=Hw (lo c d) (hi c d) (lo a b) (hi a b);have k3:=IB kind (lo c d) (hi c d) (lo a b) (hi a b) false [] [];have k4:=IB kind (lo a b) (hi a b) (lo c d) (hi c d) false [] [];unfold D9 A7;simp only;generalize intsD [a,b,c,d]=l at*;generalize lo c d=x at*;generalize hi c d=y at*;generalize lo a b=z at*;generalize hi a b=t at*;simp -implicitDefEqProofs[jJ,-qA,-qB];refine Ac k1 ?_
 simp -implicitDefEqProofs[jJ,-qA,-qB];refine AA (Ah [0,1,3,0,8,24,63,127]) [.any [] [] (Aq [[3],[6],[7],[3],[9],[10]]),.one,.one] (by rfl) ?_
 simp -implicitDefEqProofs[jJ,-qA,-qB];refine Ac k2 ?_;by_cases h:A6 (x,y) (z,t)<0
 ·simp -implicitDefEqProofs[jJ,-qA,-qB,h];refine AA (Ah [0,0,0,4,12,0,32,96,253,509,1023,2047]) [.any [] [] [⟨0,[3],[],[],[]⟩,⟨0,[3],[5],[],[]⟩,⟨0,[3],[],[],[]⟩,⟨0,[16],[],[],[]⟩,⟨0,[17],[],[],[]⟩,⟨0,[3],[],[],[]⟩,⟨0,[19],[],[],[]⟩,⟨0,[20],[],[],[]⟩,⟨0,[14],[],[],[]⟩,⟨2,[18,22],[],[],[5]⟩],.one,.one] (by rfl) ?_
  simp -implicitDefEqProofs[jJ,-qA,-qB];refine Ac k3 ?_;simp -implicitDefEqProofs[jJ,-qA,-qB,Fct.res]
 ·simp -implicitDefEqProofs[jJ,-qA,-qB,h];refine Ac k4 ?_;simp -implicitDefEqProofs[jJ,-qA,-qB,Fct.res]
end Go.Va
