/- a part of the proof -/
import Derived.Test.YtkajmpgbnbikiaaGreatDoorMao
import Derived.Test.YtkajmpgbnbikiaaGreatDoorRows
import Derived.ProofKit
import Derived.OpenShut
import Derived.Carry
import Derived.ChangeSlices
set_option linter.all false
set_option maxRecDepth 100000
set_option maxHeartbeats 4000000
namespace Go.Va
open Go.Proofs Go.ChangeShapes Go.WideShapes Go.ChangeAt Go.RowKit
section
variable {H:Type} {enc:TypeId×Value→H} {w:World} {base:Nat} {sp:Nat→Bool} {hd:Bool}
abbrev Z0:Addr→Prop:=fun _=>False
theorem Qx{e:D→Prop}{a:Addr}{len cap:Nat}{zs:List Int}{k:IntKind}(hl:len≤cap)(hm:cap≤maxLen)(hz:len≤zs.length)(hc: ∀i,i<zs.length→w.cell? (a.add i)=some (.int k (zs.getD i 0))):
  RepD w Z0 (.slice len ((zs.take len).map (D.int k))) (.slice (some a) len cap):=by
 have key: ∀(j:Nat) (x:D),((zs.take len).map (D.int k))[j]? =some x→j<len∧x= .int k (zs.getD j 0):=fun j x hj=>by
  rw[Bi,List.getElem?_take]at hj
  by_cases h:j<len
  ·rw[if_pos h,Am (by omega)]at hj
   refine⟨h,?_⟩
   rw[Ax,Am (by omega)]
   exact(AK hj).symm
  ·rw[if_neg h]at hj
   cases hj
 have hspot:0<len→a.spot=none:=fun h=>by
  have:=hc 0 (by omega)
  unfold Addr.add at this;rw[if_pos rfl]at this;unfold World.cell? at this;split at this
  ·split at this
   ·cases this
   ·rename_i hn
    simpa using hn
  ·cases this
 refine .slice len _ a cap (fun j=> .int k (zs.getD j 0)) (fun hne=> ?_) hl hm (fun j x hj=> ?_) (fun j x hj h=>h) (fun j x hj=> ?_)
 ·obtain⟨x,hx⟩:=List.exists_mem_of_ne_nil _ hne
  obtain⟨j,hj⟩:=List.getElem?_of_mem hx
  have:=(key j x hj).1
  exact hspot (by omega)
 ·have hk:=key j x hj;have h1:=hc j (by omega)
  have h2:=hspot (by omega)
  have:a.add j=⟨a.block,a.off+j,none⟩:=by
   unfold Addr.add;split
   ·rename_i h0
    subst h0;obtain⟨b,o,s⟩:=a;simp only at h2;subst h2;rfl
   ·rfl
  rw[←this]
  exact h1
 ·rw[(key j x hj).2]
  exact .int _ _
theorem Md{fuel:Nat}{cs:List Value}{x:DataW H×List MemPlace}(h:DataW.trod enc Tryz.prog w base sp hd fuel 43 cs=some x): ∃(l:List Int) (v:Value),cs=[v]∧RepD w Z0 (intsD l) v:=by
 rcases open_ints (k:= .i64) Tryz.underlying43 Tryz.underlying3 (by kernel_rfl) h with⟨rfl,_⟩|⟨a,len,cap,zs,rfl,_,h1,h2,h3,_,h4,_⟩
 ·exact⟨[],_,rfl,.snil⟩
 ·have hz:len≤zs.length:=by rw[h3];split<;>omega
  refine⟨zs.take len,_,rfl,?_⟩
  have:=Qx (e:=fun _=>True) h1 h2 hz h4
  have e:(intsD (zs.take len))= .slice len ((zs.take len).map (D.int .i64)):=by
   show D.slice _ _=_
   rw[AP,A7 hz]
   rfl
  rw[e]
  exact this
theorem I9{fuel:Nat}{cs:List Value}{x:DataW H×List MemPlace}(h:DataW.trod enc Tryz.prog w base sp hd fuel 45 cs=some x): ∃(l:List Nat) (v:Value),Ok l∧cs=[v]∧RepD w Z0 (Ac l) v:=by
 rcases open_ints (k:= .u16) Tryz.underlying45 (by kernel_rfl:Tryz.prog.underlying _=_) (by kernel_rfl) h with⟨rfl,_⟩|⟨a,len,cap,zs,rfl,_,h1,h2,h3,_,h4,h5⟩
 ·exact⟨[],_,Ok.nil,rfl,.snil⟩
 ·have hz:len≤zs.length:=by rw[h3];split<;>omega
  have hb: ∀n∈zs,0≤n∧n<65536:=fun n hn=>by
   have:=h5 n hn
   simp[Lit.wf,IntKind.min,IntKind.max,IntKind.signed,IntKind.bits]at this
   omega
  refine⟨(zs.take len).map Int.toNat,_,fun y hy=> ?_,rfl,?_⟩
  ·obtain⟨n,hn,rfl⟩:=jzk.1 hy
   have:=hb n (List.mem_of_mem_take hn)
   omega
  ·have:=Qx (e:=fun _=>True) h1 h2 hz h4
   have e:Ac ((zs.take len).map Int.toNat)= .slice len ((zs.take len).map (D.int .u16)):=by
    show D.slice _ _=_
    rw[List.length_map,AP,A7 hz,List.map_map]
    congr 1
    refine List.map_congr_left fun n hn=> ?_
    have:=hb n (List.mem_of_mem_take hn)
    show D.int .u16 ((n.toNat:Nat):Int)=_
    rw[Int.toNat_of_nonneg this.1]
   rw[e]
   exact this
structure InFact (f:Fct):Prop where
 oa:Ok f.abs
 od:Ok f.den
theorem N9{P:Program}(hl:laidOutB P=true){W W':World}(hb:Below W.heap.size W W'): ∀{ts:List TypeId} {vs:List Value} {ds:List (DataW H)} {ps:List MemPlace},
  (∀t∈ts,P.readableRec t=true∧t<P.types.size)→DataW.TrodAll enc P W 0 (fun _=>true) true ts vs ds ps→(∀x∈ps,x.block<W.heap.size)→DataW.TrodAll enc P W' 0 (fun b=>decide (b<W.heap.size)) true ts vs ds ps
 |[],vs,ds,ps,_,h,_=>by
  obtain⟨rfl,rfl,rfl⟩:=trodAll_nil h
  rfl
 |t::ts,vs,ds,ps,ht,h,hlt=>by
  obtain⟨v,vs',d,ds',p,q,rfl,rfl,rfl,h1,h2⟩:=trodAll_cons h
  have:=ht t (by simp)
  exact trodAll_cons_mk (Below.trod hl this.1 this.2 h1 hb (fun x hx=>hlt x (by simp[hx]))) (N9 hl hb (fun t' h'=>ht t' (by simp[h'])) h2 (fun x hx=>hlt x (by simp[hx])))
end
theorem ZK:laidOutB Tryz.prog=true:=by kernel_rfl
theorem VF:ownKnob Tryz.prog.godebug=none:=by kernel_rfl
theorem YV{f:FuncId}{xs:List A}(hc:CallsF Tryz.prog f xs (.u (.c (.d (.bool true))))){W:World}{vals:List Value}(hv:RepL (A.rep W Z0) xs vals):
  Calls Tryz.prog f vals.toArray W fun e W'=>e= .returned (.bool true)∧Below W.heap.size W W':=
 (hc.2 W Z0 vals (fun _ h=>h.elim) hv).mono fun e W' ⟨v,h1,h2,h3⟩=>by
  obtain⟨_,o,_,h4⟩:=h3
  have h5:RepD W' (Aj (BE 0 [] o) Z0) (.bool true) v:=(h4 0).1;cases h5;exact⟨h1,h2.toBelow⟩
end Go.Va
namespace Go.Va
open Go.Proofs
def RC.dat:RC→RC
 | .d x=> .d x
 | .own sz n cs=> .d (.slice n (cs.take (n*sz)))
def RU.dat:RU→RU
 | .c x=> .c x.dat
 | .agg cs=> .agg (cs.map RC.dat)
def R.dat:R→R
 | .u x=> .u x.dat
 | .tup xs=> .tup (xs.map RU.dat)
theorem RC.dat_rows(x:RC):x.dat.rows=[]:=by cases x<;>rfl
theorem RU.dat_rows(x:RU):x.dat.rows=[]:=by
 cases x with
 |c x=>exact RC.dat_rows x
 |agg cs=>exact List.flatMap_eq_nil_iff.2 fun y hy=>by obtain⟨z,_,rfl⟩:=jzk.1 hy;exact RC.dat_rows z
theorem R.dat_rows(x:R):x.dat.rows=[]:=by
 cases x with
 |u x=>exact RU.dat_rows x
 |tup cs=>exact List.flatMap_eq_nil_iff.2 fun y hy=>by obtain⟨z,_,rfl⟩:=jzk.1 hy;exact RU.dat_rows z
section
variable {w w':World} {Z:Addr→Prop} {k:Nat} {o:Own} {bs:List Blk}
theorem RC.dat_rep(hZ: ∀ad,Z ad→ad.block<w.heap.size)(ho: ∀ad,o.has ad→w.heap.size≤ad.block)
  (hh:Heap (BE k bs o) w' Z (match bs with|[]=>[]|b::_=>[(k,b)])) (hb:bs.length≤1) {x:RC} {v:Value} (hx: ∀b∈x.rows,b∈bs)
  (h:RepC (BE k bs o) w' Z (x.imp k) v) (ρ:As) (hρ: ∀i,ρ i=none):RepC ρ w' Z (x.dat.imp k) v:=by
 have hk:Keep w' w' (Aj (BE k bs o) Z) (Aj ρ Z):=Keep.mono fun a ha=>by
  rcases ha with ha|⟨i,o',hi,_⟩
  ·exact .inl ha
  ·rw[hρ]at hi;cases hi
 cases x with
 |d x=>exact RepD.keep hk h
 |own sz n cs=>
  have hm:(Blk.row sz cs true)∈bs:=hx _ (by simp[RC.rows])
  obtain⟨b,rfl⟩: ∃b,bs=[b]:=by
   match bs,hb,hm with
   |[b],_,_=>exact⟨b,rfl⟩
  have hbe:Blk.row sz cs true=b:=by simpa using hm
  subst hbe;obtain⟨o1,h1,h2⟩:=hh.rep k _ (AR k _ _);have e1:o1=o:=by
   unfold BE at h1;simp only[if_true]at h1;exact(AK h1).symm
  subst e1;obtain⟨hs,happ,hl,⟨hn1,hn2⟩,hc⟩:=h2;obtain⟨o2,h3,h4,h5⟩:=h;have e2:o2=o1:=by
   unfold BE at h3;simp only[if_true]at h3;exact(AK h3).symm
  subst e2
  show RepD w' (Aj ρ Z) (.slice n (cs.take (n*sz))) v
  rcases h5 with⟨h6,rfl,_,rfl⟩|⟨h6,a,c,rfl,h7,h8,h9,h10⟩
  ·have:(cs.take (0*sz))=[]:=by simp
   rw[this]
   exact .snil
  ·have key: ∀(j:Nat) (x:D),(cs.take (n*sz))[j]? =some x→cs[j]? =some x∧a=o2.at 0:=by
    intro j x hj;rw[List.getElem?_take]at hj;split at hj
    ·rename_i hlt
     refine⟨hj,?_⟩
     rcases h9 with h9|h9
     ·have:n=0:=by omega
      subst this;simp at hlt
     ·simpa using h9
    ·cases hj
   refine .slice n _ a c (fun j=>(w'.cell? ⟨a.block,a.off+j,none⟩).getD undef) ?_ h7 h8 ?_ ?_ ?_
   ·intro hne;obtain⟨x,hx⟩:=List.exists_mem_of_ne_nil _ hne;obtain⟨j,hj⟩:=List.getElem?_of_mem hx;rw[(key j x hj).2]
   all_goals
    intro j x hj;obtain⟨k1,k2⟩:=key j x hj;obtain⟨u,hu,hr⟩:=hc j x k1;subst k2;have he:(⟨(o2.at 0).block,(o2.at 0).off+j,none⟩:Addr)=o2.at j:=by simp[Own.at]
   ·rw[he,hu];rfl
   ·rw[he]
    have hin:o2.has (o2.at j):=by
     refine⟨by rw[hn2];exact h6,rfl,by simp[Own.at],?_⟩
     have:=(jzg.1 k1).1
     simp only[Own.at];rw[hs];omega
    rintro (hz|⟨i,o',hi,_⟩)
    ·have:=hZ _ hz;have:=ho _ hin;omega
    ·rw[hρ]at hi;cases hi
   ·rw[he,hu];exact RepD.keep hk hr
theorem RU.dat_rep(hZ: ∀ad,Z ad→ad.block<w.heap.size)(ho: ∀ad,o.has ad→w.heap.size≤ad.block)
  (hh:Heap (BE k bs o) w' Z (match bs with|[]=>[]|b::_=>[(k,b)])) (hb:bs.length≤1) {x:RU} {v:Value} (hx: ∀b∈x.rows,b∈bs)
  (h:RepU (BE k bs o) w' Z (x.imp k) v) (ρ:As) (hρ: ∀i,ρ i=none):RepU ρ w' Z (x.dat.imp k) v:=by
 cases x with
 |c x=>exact RC.dat_rep hZ ho hh hb hx h ρ hρ
 |agg cs=>
  obtain⟨vs,h1,h2,h3⟩:=h
  refine⟨vs,h1,by simpa using h2,fun j y u hy hu=> ?_⟩
  simp only[Bi,jze]at hy;obtain⟨z,⟨z',hz',rfl⟩,rfl⟩:=hy;exact RC.dat_rep hZ ho hh hb (fun b hbm=>hx b (List.mem_flatMap.2 ⟨z',BB hz',hbm⟩)) (h3 j _ u (by simp[hz']) hu) ρ hρ
theorem R.dat_rep(hZ: ∀ad,Z ad→ad.block<w.heap.size){r:R}{v:Value}(h:Ix w w' Z r v):Ix w w' Z r.dat v:=by
 obtain⟨hb,o,ho,hr⟩:=h
 refine⟨by rw[R.dat_rows];simp,o,ho,fun k=> ?_⟩
 obtain⟨h1,hh⟩:=hr k
 rw[R.dat_rows]
 have hρ: ∀i,BE k [] o i=none:=fun i=>rfl
 refine⟨?_,⟨⟨fun j o hj=>by(rw[hρ]at hj;cases hj),fun j j' o o' hj=>by(rw[hρ]at hj;cases hj),fun j o hj=>by(rw[hρ]at hj;cases hj)⟩,fun i b hb=>by cases hb⟩⟩
 cases r with
 |u x=>exact RU.dat_rep hZ ho hh hb (fun b h=>h) h1 _ hρ
 |tup cs=>
  obtain⟨vs,e1,h2,h3⟩:=h1
  refine⟨vs,e1,by simpa [R.dat,R.imp]using h2,fun j y u hy hu=> ?_⟩
  simp only[Bi,jze]at hy;obtain⟨z,⟨z',hz',rfl⟩,rfl⟩:=hy;exact RU.dat_rep hZ ho hh hb (fun b hbm=>List.mem_flatMap.2 ⟨z',BB hz',hbm⟩) (h3 j _ u (by simp[hz']) hu) _ hρ
theorem CallsF.dat{P:Program}{f:FuncId}{xs:List A}{r:R}(h:CallsF P f xs r):CallsF P f xs r.dat:=
 ⟨h.1,fun w Z vals hZ hv=>(h.2 w Z vals hZ hv).mono fun e w' ⟨v,h1,h2,h3⟩=>⟨v,h1,h2,R.dat_rep hZ h3⟩⟩
end
end Go.Va
namespace Go.Va
open Int (natCast_add natCast_mul natCast_emod natCast_ediv natCast_pow)
open Go.Proofs
section
variable {α:Type} {k:Nat} {e:α→List D} (he: ∀x,(e x).length=k)
include he
theorem DG(l:List α):(l.flatMap e).length=l.length*k:=by
 induction l with
 |nil=>simp
 |cons a l ih=>rw[List.flatMap_cons,List.length_append,he,ih,List.length_cons,Nat.add_mul,Nat.one_mul,Nat.add_comm]
theorem DU(l:List α)(i:Nat):(l.flatMap e).drop (i*k)=(l.drop i).flatMap e:=by
 induction l generalizing i with
 |nil=>simp
 |cons a l ih=>
  cases i with
  |zero=>simp
  |succ i=>
   rw[List.flatMap_cons,List.drop_succ_cons,List.drop_append,Cg (by rw[he,Nat.add_mul];omega),he,List.nil_append,Nat.add_mul,Nat.one_mul,Nat.add_sub_cancel,ih]
theorem O0(l:List α)(i:Nat):(l.flatMap e).take (i*k)=(l.take i).flatMap e:=by
 induction l generalizing i with
 |nil=>simp
 |cons a l ih=>
  cases i with
  |zero=>simp
  |succ i=>
   rw[List.flatMap_cons,List.take_succ_cons,List.flatMap_cons,List.take_append,AH (by rw[he,Nat.add_mul];omega),he,Nat.add_mul,Nat.one_mul,Nat.add_sub_cancel,ih]
theorem EO(l:List α)(i:Nat)(h:i<l.length):((l.flatMap e).drop (i*k)).take k=e l[i]:=by
 rw[DU he,AX h,List.flatMap_cons,List.take_append,AH (by rw[he];omega),he,Nat.sub_self]
 simp
end
def BD(s:Int×Int):List D:=[i64 s.1,i64 s.2]
theorem Oe(s:Int×Int):(BD s).length=2:=rfl
theorem Fct.ds_len(f:Fct):f.ds.length=5:=rfl
@[simp high]theorem jhW(l:List (Int×Int)):(l.flatMap BD).length=l.length*2:=DG Oe l
@[simp high]theorem R8(l:List Fct):(l.flatMap Fct.ds).length=l.length*5:=DG Fct.ds_len l
def Df(l:List (Int×Int)):D:= .slice l.length (l.flatMap BD)
def Cn(l:List Fct):D:= .slice l.length (l.flatMap Fct.ds)
@[simp]theorem jk3(l:List (Int×Int)):lenC (.d (Df l))=some l.length:=rfl
@[simp]theorem jli(l:List Fct):lenC (.d (Cn l))=some l.length:=rfl
@[simp]theorem jkR(h:List (Nat×Blk))(i:Int)(l:List (Int×Int)):idxSl h 2 i (.d (Df l))=if 0≤i∧i<l.length then some (.d (.ref ((l.drop i.toNat).flatMap BD))) else none:=by
 unfold Df idxSl;simp only[jhW,and_true,DU Oe]
@[simp]theorem jkJ(h:List (Nat×Blk))(i:Int)(l:List Fct):idxSl h 5 i (.d (Cn l))=if 0≤i∧i<l.length then some (.d (.ref ((l.drop i.toNat).flatMap Fct.ds))) else none:=by
 unfold Cn idxSl;simp only[R8,and_true,DU Fct.ds_len]
@[simp]theorem jk4(l:List (Int×Int)):D.flat (Df l)=false:=rfl
@[simp]theorem jle(l:List Fct):D.flat (Cn l)=false:=rfl
theorem ZB{l:List (Int×Int)}{i:Nat}(h:i<l.length):(l.drop i).flatMap BD= .int .i64 l[i].1:: .int .i64 l[i].2::(l.drop (i+1)).flatMap BD:=by
 rw[AX h];rfl
theorem P0{l:List Fct}{i:Nat}(h:i<l.length):(l.drop i).flatMap Fct.ds= .int .i64 l[i].kind::intsD l[i].args:: .bool l[i].neg::Ac l[i].abs::Ac l[i].den::(l.drop (i+1)).flatMap Fct.ds:=by
 rw[AX h];rfl
def lo(a b:Int):Int:=if b<a then b else a
def hi(a b:Int):Int:=if a<b then b else a
def Ar(a b:Int):Int×Int:=(lo a b,hi a b)
theorem Mf(a b:Int):CallsF Tryz.prog 126 [.c (.int .i64 a),.c (.int .i64 b)] (.u (.agg [.d (.int .i64 (lo a b)),.d (.int .i64 (hi a b))])):=by
 refine Ak (T:=tb) Ah mixed Tryz.func126 rfl (by decide) (Af rfl) rfl ?_;unfold St.init
 simp -implicitDefEqProofs[jJ,-natCast_add,-natCast_mul,-natCast_emod,-natCast_ediv,-natCast_pow,lo,hi]
def Bs:List Int→List (Int×Int)
 |a::b::l=>Ar a b::Bs l
 |_=>[]
theorem H9: ∀l:List Int,(Bs l).length=l.length/2
 |[]=>rfl
 |[a]=>by simp[Bs]
 |a::b::l=>by
  simp only[Bs,List.length_cons,H9 l];omega
theorem Ri: ∀(l:List Int) (m:Nat) (h:2*m+1<l.length),(Bs l)[m]'(by rw[H9];omega)=Ar (l[2*m]'(by omega)) l[2*m+1]
 |a::b::l,0,_=>rfl
 |a::b::l,m+1,h=>by
  have:=Ri l m (by simp at h;omega)
  simp only[Bs,List.getElem_cons_succ,this];rfl
theorem Ug{l:List Int}{m:Nat}(h:2*m+1<l.length):((Bs l).take (m+1)).flatMap BD=((Bs l).take m).flatMap BD++[.int .i64 (lo (l[2*m]'(by omega)) l[2*m+1]),.int .i64 (hi (l[2*m]'(by omega)) l[2*m+1])]:=by
 rw[BX (by rw[H9];omega),List.flatMap_append,Ri l m h]
 rfl
theorem Qj(f:Fct)(hl:f.args.length≤1099511627776):CallsF Tryz.prog 68 [.agg f.ds] (.u (.c (.own 2 (Bs f.args).length ((Bs f.args).flatMap BD)))):=by
 refine Ak (T:=tb) Ah mixed Tryz.func68 rfl (by decide) (Af rfl) rfl ?_;unfold St.init
 obtain⟨kind,args,neg,abs,den⟩:=f
 simp only at hl;simp -implicitDefEqProofs[jJ,-natCast_add,-natCast_mul,-natCast_emod,-natCast_ediv,-natCast_pow];refine CJ [(3,27)] (fun x:Nat×Nat×List D=>⟨[(4,vI .i64 x.1),(3,vC (.sl 3 0 x.2.1)),(1,vC (.ptr 1 0))],[(3,.row 2 x.2.2 true),(1,.box [.d (.int .i64 kind),.d (intsD args),.d (.bool neg),.d (Ac abs),.d (Ac den)])]⟩) (fun x=>x.1=2*x.2.1∧x.2.1≤(Bs args).length∧x.2.2=((Bs args).take x.2.1).flatMap BD) (fun x=>(Bs args).length - x.2.1) (0,0,[]) (by simp) (by simp) ?_
 rintro⟨i,m,cs⟩ ⟨hm2,hm,hc⟩
 simp only at hm2 hm hc;subst hc;have hlen:=H9 args;by_cases h:i+1<args.length
 ·have e:=Ug (l:=args) (m:=m) (by omega)
  have e1:args[2*m]'(by omega)=args[i]:=by simp only[hm2]
  have e2:args[2*m+1]'(by omega)=args[i+1]:=by simp only[hm2]
  rw[e1,e2]at e
  have hb:i≤9223372036854775806:=by omega
  have h0:i<args.length:=by omega
  simp -implicitDefEqProofs[jJ,-natCast_add,-natCast_mul,-natCast_emod,-natCast_ediv,-natCast_pow,h,hb];refine At (Ad [0,0,2,0,14,30,0,64,0,256,960,1984,4094,8190,16383,32767]) [.any [] [26] [⟨0,[3],[26],[26],[]⟩,⟨0,[1],[],[26],[]⟩,⟨0,[14],[],[26],[]⟩,⟨0,[4],[],[26],[]⟩,⟨0,[15,16],[],[26],[]⟩,⟨0,[17],[],[26],[]⟩,⟨0,[1],[],[26],[]⟩,⟨0,[19],[],[26],[]⟩,⟨0,[4],[],[26],[]⟩,⟨0,[21],[],[26],[]⟩,⟨0,[20,22],[],[26],[]⟩,⟨0,[23],[],[26],[]⟩,⟨0,[18,24],[],[26],[]⟩,⟨1,[25],[],[],[]⟩],.one,.one] (by rfl) ?_
  simp -implicitDefEqProofs[jJ,-natCast_add,-natCast_mul,-natCast_emod,-natCast_ediv,-natCast_pow,h,h0,hb,i64]
  (first|refine Ab (Mf args[i] args[i+1]) ?_|refine Aa (Mf args[i] args[i+1]) ?_)
  simp -implicitDefEqProofs[jJ,-natCast_add,-natCast_mul,-natCast_emod,-natCast_ediv,-natCast_pow];rw[A7 hm];exact⟨rfl,⟨by omega,by omega⟩,by omega,i+2,m+1,_,⟨⟨rfl,rfl⟩,rfl⟩,⟨by omega,by omega,e.symm⟩,by omega⟩
 ·have hb:i≤9223372036854775806:=by omega
  have e:m=(Bs args).length:=by omega
  subst e;simp -implicitDefEqProofs[jJ,-natCast_add,-natCast_mul,-natCast_emod,-natCast_ediv,-natCast_pow,h,hb]
def FN(l:List (Int×Int)):List Int:=l.flatMap fun s=>[s.1,s.2]
theorem Sf(l:List (Int×Int)):(FN l).length=l.length*2:=by
 induction l with
 |nil=>rfl
 |cons a l ih=>simp only[FN,List.flatMap_cons,List.length_append,List.length_cons,List.length_nil]at ih ⊢;omega
theorem FA(a b:Int):CallsF Tryz.prog 69 [.agg [.int .i64 a,.int .i64 b]] (.u (.c (.d (.bool (decide (a=b)))))):=by
 refine Ak (T:=tb) Ah mixed Tryz.func69 rfl (by decide) (Af rfl) rfl ?_;unfold St.init
 simp -implicitDefEqProofs[jJ,-natCast_add,-natCast_mul,-natCast_emod,-natCast_ediv,-natCast_pow]
theorem RJ(a b p:Int):CallsF Tryz.prog 284 [.agg [.int .i64 a,.int .i64 b],.c (.int .i64 p)] (.u (.c (.d (.bool (decide (a=p)||decide (b=p)))))):=by
 refine Ak (T:=tb) Ah mixed Tryz.func284 rfl (by decide) (Af rfl) rfl ?_;unfold St.init
 by_cases h:a=p<;>simp -implicitDefEqProofs[jJ,-natCast_add,-natCast_mul,-natCast_emod,-natCast_ediv,-natCast_pow,h]
def C0(a b p:Int):Int:=a+b - p
theorem TR(a b p:Int)(ha:0≤a∧a<64)(hb:0≤b∧b<64)(hp:0≤p∧p<64):CallsF Tryz.prog 285 [.agg [.int .i64 a,.int .i64 b],.c (.int .i64 p)] (.u (.c (.d (.int .i64 (C0 a b p))))):=by
 refine Ak (T:=tb) Ah mixed Tryz.func285 rfl (by decide) (Af rfl) rfl ?_;unfold St.init
 simp -implicitDefEqProofs[jJ,-natCast_add,-natCast_mul,-natCast_emod,-natCast_ediv,-natCast_pow,C0];omega
def BY(p q:Int×Int):Int:=CG [cmpZ p.1 q.1,cmpZ p.2 q.2]
theorem Hn(a b c d:Int):CallsF Tryz.prog 286 [.agg [.int .i64 a,.int .i64 b],.agg [.int .i64 c,.int .i64 d]] (.u (.c (.d (.int .i64 (BY (a,b) (c,d)))))):=by
 refine Ak (T:=tb) Ah mixed Tryz.func286 rfl (by decide) (Af rfl) rfl ?_;unfold St.init
 have k:CallsF Tryz.prog 127 [.c (.slice 2 [.int .i64 (cmpZ a c),.int .i64 (cmpZ b d)])] _:=Kl [cmpZ a c,cmpZ b d] (by simp)
 simp -implicitDefEqProofs[jJ,-natCast_add,-natCast_mul,-natCast_emod,-natCast_ediv,-natCast_pow];refine At (Ad [0,1,0,4,15,0,32,0,128,511,1023,2047,4095]) [.any [] [] (Ap [[2],[5],[3],[7],[6,8],[2],[10],[3],[12]]),.one,.one,.one,.one] (by rfl) ?_
 simp -implicitDefEqProofs[jJ,-natCast_add,-natCast_mul,-natCast_emod,-natCast_ediv,-natCast_pow]
 (first|refine Ab (FG a c) ?_|refine Aa (FG a c) ?_)
 simp -implicitDefEqProofs[jJ,-natCast_add,-natCast_mul,-natCast_emod,-natCast_ediv,-natCast_pow]
 (first|refine Ab (FG b d) ?_|refine Aa (FG b d) ?_)
 simp -implicitDefEqProofs[jJ,-natCast_add,-natCast_mul,-natCast_emod,-natCast_ediv,-natCast_pow]
 (first|refine Ab k ?_|refine Aa k ?_)
 simp -implicitDefEqProofs[jJ,-natCast_add,-natCast_mul,-natCast_emod,-natCast_ediv,-natCast_pow,BY]
theorem TW(kind:Int)(neg:Bool)(abs den:List Nat)(l:List (Int×Int))(hl:l.length≤1099511627776):CallsF Tryz.prog 287 [.c (.int .i64 kind),.agg [.bool neg,Ac abs,Ac den],.c (Df l)]
  (.u (.agg [.d (.int .i64 kind),.d (intsD (FN l)),.d (.bool neg),.d (Ac abs),.d (Ac den)])):=by
 refine Ak (T:=tb) Ah mixed Tryz.func287 rfl (by decide) (Af rfl) rfl ?_;unfold St.init
 simp -implicitDefEqProofs[jJ,-natCast_add,-natCast_mul,-natCast_emod,-natCast_ediv,-natCast_pow];refine AF (fun i:Nat=>⟨[(15,vI .i64 i),(14,vI .i64 l.length),(13,vC (.d (Df l))),(7,vC (.ptr 7 0)),(6,vC (.ptr 6 0))],match i with
  |0=>[(7,.box [.d (.int .i64 kind),.nl,.d (.bool neg),.d (Ac abs),.d (Ac den)]),(6,.box [.d (.int .i64 0),.nl,.d (.bool false),.nl,.nl])]
  |n+1=>[(7,.box [.d (.int .i64 kind),.sl 26 0 ((n+1)*2),.d (.bool neg),.d (Ac abs),.d (Ac den)]),(6,.box [.d (.int .i64 0),.nl,.d (.bool false),.nl,.nl]),(26,.row 1 ((FN (l.take (n+1))).map i64) true)]⟩)
  (fun i=>i≤l.length) (fun i=>l.length - i) 0 (by simp) (by omega) ?_
 rintro i hi
 by_cases h:i<l.length
 ·have e:FN (l.take (i+1))=FN (l.take i)++[l[i].1,l[i].2]:=by
   rw[BX h];unfold FN;rw[List.flatMap_append];rfl
  have e2:=ZB h;have e3:=Sf (l.take i);rw[AP,A7 (by omega)]at e3
  cases i with
  |zero=>
   have e4:(FN (l.take 1)).map i64=[.int .i64 l[0].1,.int .i64 l[0].2]:=by rw[e];rfl
   rw[List.drop_zero]at e2
   simp -implicitDefEqProofs[jJ,-natCast_add,-natCast_mul,-natCast_emod,-natCast_ediv,-natCast_pow,h,e2,e4];exact⟨1,⟨rfl,by simp[Aw,lk,e4]⟩,by omega,by omega⟩
  |succ n=>
   simp -implicitDefEqProofs[jJ,-natCast_add,-natCast_mul,-natCast_emod,-natCast_ediv,-natCast_pow,h,e2,e,e3];refine⟨by omega,by omega,n+2,⟨rfl,?_⟩,by omega,by omega⟩
   have e5:(n+1)*2+2=(n+1+1)*2:=by omega
   simp[Aw,lk,e,e5]
   exact⟨rfl,rfl⟩
 ·have hi2:i=l.length:=by omega
  cases i with
  |zero=>
   have:l=[]:=jzv.1 hi2.symm
   subst this;simp -implicitDefEqProofs[jJ,-natCast_add,-natCast_mul,-natCast_emod,-natCast_ediv,-natCast_pow];rfl
  |succ n=>
   have e3:=Sf l;simp -implicitDefEqProofs[jJ,-natCast_add,-natCast_mul,-natCast_emod,-natCast_ediv,-natCast_pow,h];rw[hi2,B1,←e3,AH (by simp)]
   refine⟨Az _,rfl⟩
def bs(l:List UInt8):ByteArray:=⟨l.toArray⟩
structure Pat where
 kind:Int
 letters:List UInt8
 n:Int
def Pat.ds(p:Pat):List D:=[.int .i64 p.kind,.str (bs p.letters),.int .i64 p.n]
theorem Pat.ds_len(p:Pat):p.ds.length=3:=rfl
def BS(l:List Pat):D:= .slice l.length (l.flatMap Pat.ds)
structure Rul where
 name:List UInt8
 prem:List Pat
 concl:List Pat
 guards:List Pat
 count:Int
 derive:D
def Rul.ds(r:Rul):List D:=[.str (bs r.name),BS r.prem,BS r.concl,BS r.guards,.int .i64 r.count,r.derive]
def Rul.zero:Rul:=⟨[],[],[],[],0,.nilFn⟩
theorem NE(n:Nat)(cs:List D):CallsF Tryz.prog 238 [.c (.slice n cs)] (.u (.c (.d (.slice n cs)))):=by
 refine Ak (T:=tb) Ah mixed Tryz.func238 rfl (by decide) (Af rfl) rfl ?_;unfold St.init
 simp -implicitDefEqProofs[jJ,-natCast_add,-natCast_mul]
def CH(s:List UInt8):Pat:=⟨2,s,0⟩
def CK(s:List UInt8):Pat:=⟨3,s,0⟩
def Cj(s:List UInt8):Pat:=⟨4,s,0⟩
def G3(s:List UInt8):Pat:=⟨1,s,0⟩
def Cz(s:List UInt8):Pat:=⟨5,s,0⟩
def Ek(s:List UInt8):Pat:=⟨6,s,0⟩
def Cp(s:List UInt8):Pat:=⟨7,s,0⟩
def Kr(s:List UInt8):Pat:=⟨8,s,0⟩
def H1(s:List UInt8)(n:Int):Pat:=⟨9,s,n⟩
def CS(s:List UInt8):Pat:=⟨1,s,0⟩
def Gj(s:List UInt8):Pat:=⟨2,s,0⟩
theorem Nf(s:ByteArray):CallsF Tryz.prog 239 [.c (.str s)] (.u (.agg [.d (.int .i64 2),.d (.str s),.d (.int .i64 0)])):=by
 refine Ak (T:=tb) Ah mixed Tryz.func239 rfl (by decide) (Af rfl) rfl ?_;unfold St.init
 simp -implicitDefEqProofs[jJ,-natCast_add,-natCast_mul]
theorem NB(s:ByteArray):CallsF Tryz.prog 241 [.c (.str s)] (.u (.agg [.d (.int .i64 3),.d (.str s),.d (.int .i64 0)])):=by
 refine Ak (T:=tb) Ah mixed Tryz.func241 rfl (by decide) (Af rfl) rfl ?_;unfold St.init
 simp -implicitDefEqProofs[jJ,-natCast_add,-natCast_mul]
theorem Mj(s:ByteArray):CallsF Tryz.prog 245 [.c (.str s)] (.u (.agg [.d (.int .i64 4),.d (.str s),.d (.int .i64 0)])):=by
 refine Ak (T:=tb) Ah mixed Tryz.func245 rfl (by decide) (Af rfl) rfl ?_;unfold St.init
 simp -implicitDefEqProofs[jJ,-natCast_add,-natCast_mul]
theorem LR(s:ByteArray):CallsF Tryz.prog 244 [.c (.str s)] (.u (.agg [.d (.int .i64 1),.d (.str s),.d (.int .i64 0)])):=by
 refine Ak (T:=tb) Ah mixed Tryz.func244 rfl (by decide) (Af rfl) rfl ?_;unfold St.init
 simp -implicitDefEqProofs[jJ,-natCast_add,-natCast_mul]
theorem Mp(s:ByteArray):CallsF Tryz.prog 243 [.c (.str s)] (.u (.agg [.d (.int .i64 5),.d (.str s),.d (.int .i64 0)])):=by
 refine Ak (T:=tb) Ah mixed Tryz.func243 rfl (by decide) (Af rfl) rfl ?_;unfold St.init
 simp -implicitDefEqProofs[jJ,-natCast_add,-natCast_mul]
theorem LB(s:ByteArray):CallsF Tryz.prog 249 [.c (.str s)] (.u (.agg [.d (.int .i64 6),.d (.str s),.d (.int .i64 0)])):=by
 refine Ak (T:=tb) Ah mixed Tryz.func249 rfl (by decide) (Af rfl) rfl ?_;unfold St.init
 simp -implicitDefEqProofs[jJ,-natCast_add,-natCast_mul]
theorem L9(s:ByteArray):CallsF Tryz.prog 251 [.c (.str s)] (.u (.agg [.d (.int .i64 7),.d (.str s),.d (.int .i64 0)])):=by
 refine Ak (T:=tb) Ah mixed Tryz.func251 rfl (by decide) (Af rfl) rfl ?_;unfold St.init
 simp -implicitDefEqProofs[jJ,-natCast_add,-natCast_mul]
theorem NI(s:ByteArray):CallsF Tryz.prog 247 [.c (.str s)] (.u (.agg [.d (.int .i64 8),.d (.str s),.d (.int .i64 0)])):=by
 refine Ak (T:=tb) Ah mixed Tryz.func247 rfl (by decide) (Af rfl) rfl ?_;unfold St.init
 simp -implicitDefEqProofs[jJ,-natCast_add,-natCast_mul]
theorem LN(s:ByteArray)(n:Int):CallsF Tryz.prog 246 [.c (.str s),.c (.int .i64 n)] (.u (.agg [.d (.int .i64 9),.d (.str s),.d (.int .i64 n)])):=by
 refine Ak (T:=tb) Ah mixed Tryz.func246 rfl (by decide) (Af rfl) rfl ?_;unfold St.init
 simp -implicitDefEqProofs[jJ,-natCast_add,-natCast_mul]
theorem Ml(s:ByteArray):CallsF Tryz.prog 240 [.c (.str s)] (.u (.agg [.d (.int .i64 1),.d (.str s),.d (.int .i64 0)])):=by
 refine Ak (T:=tb) Ah mixed Tryz.func240 rfl (by decide) (Af rfl) rfl ?_;unfold St.init
 simp -implicitDefEqProofs[jJ,-natCast_add,-natCast_mul]
theorem Mk(s:ByteArray):CallsF Tryz.prog 250 [.c (.str s)] (.u (.agg [.d (.int .i64 2),.d (.str s),.d (.int .i64 0)])):=by
 refine Ak (T:=tb) Ah mixed Tryz.func250 rfl (by decide) (Af rfl) rfl ?_;unfold St.init
 simp -implicitDefEqProofs[jJ,-natCast_add,-natCast_mul]
end Go.Va
