/- a part of the proof -/
import Derived.Test.YtpklcnmcllbbjaaGreatDoorJac
import Derived.Laws.AppendOwn
import Derived.Laws.StructEq
import Derived.ChangeKeysEq
set_option linter.all false
namespace Go.Va
open Go.RowKit
variable [Gv]
section
variable {P:Program} {T:AH} {M Z:Addr→Prop} {w0 w:World} {ρ:AE} {st:St} {a:Act}
theorem RepL.append{α:Type}{r:α→Value→Prop}{xs ys:List α}{vs us:List Value}(h:RepL r xs vs)(k:RepL r ys us):RepL r (xs++ys) (vs++us):=by
 refine⟨by simp[h.1,k.1],fun j x v hx hv=> ?_⟩
 by_cases hj:j<xs.length
 ·rw[List.getElem?_append_left hj]at hx
  rw[List.getElem?_append_left (by rw[←h.1];exact hj)]at hv
  exact h.2 j x v hx hv
 ·rw[List.getElem?_append_right (by omega)]at hx
  rw[List.getElem?_append_right (by rw[←h.1];omega),←h.1]at hv
  exact k.2 _ x v hx hv
theorem RepL.keepD{Z':Addr→Prop}{w':World}{xs:List D}{vs:List Value}(h:RepL (RepD w Z) xs vs)(hk:Keep w w' Z Z'):RepL (RepD w' Z') xs vs:=
 ⟨h.1,fun j x v hx hv=>(h.2 j x v hx hv).keep hk⟩
theorem Rel.congr{s s':St}(h:Rel M Z w0 ρ s a w)(h1: ∀k,lk k s'.t=lk k s.t)(h2: ∀k,lk k s'.h=lk k s.h):Rel M Z w0 ρ s' a w where
 fr:=h.fr
 heap:=⟨h.heap.owns,fun i b hb=>h.heap.rep i b ((h2 i).symm.trans hb)⟩
 mine:=h.mine
 out:=h.out
 mz:=h.mz
 tmps:=fun t v hv=>h.tmps t v ((h1 t).symm.trans hv)
 defers:=h.defers
 mps:=h.mps
theorem Rel.move(h:Rel M Z w0 ρ st a w){i d:Nat}{o:Own}(hi:ρ i=some o){sz:Nat}{cs:List D}{app:Bool}(hb:lk i st.h=some (.row sz cs app)):
  Rel M Z w0 (BW (Cb ρ i) d o) ((st.drop i).new d (.row sz cs app)) a w:=by
 have hsub: ∀j o',BW (Cb ρ i) d o j=some o'→(j=d∧o'=o)∨(j≠d∧ ∃o1,ρ j=some o1∧((j=i∧o'=o1.dead)∨(j≠i∧o'=o1))):=fun j o' hj=>by
  by_cases e:j=d
  ·subst e;rw[Cd]at hj;cases hj;exact .inl ⟨rfl,rfl⟩
  ·rw[Gn _ _ e]at hj;exact .inr ⟨e,IH hj⟩
 have hsubH: ∀j o' ad,BW (Cb ρ i) d o j=some o'→o'.has ad→(j=d∧o'=o)∨(j≠d∧j≠i∧ρ j=some o'):=fun j o' ad hj hh=>by
  rcases hsub j o' hj with h1|⟨h1,o1,h2,⟨_,rfl⟩|⟨h3,rfl⟩⟩
  ·exact .inl h1
  ·exact absurd hh (o1.dead_has ad)
  ·exact .inr ⟨h1,h3,h2⟩
 have hout: ∀ad,Ar (BW (Cb ρ i) d o) Z ad→Ar ρ Z ad:=fun ad ho=>by
  rcases ho with ho|⟨j,o',hj,ho⟩
  ·exact .inl ho
  ·rcases hsubH j o' ad hj ho with⟨_,rfl⟩|⟨_,_,h3⟩
   ·exact .inr ⟨i,o',hi,ho⟩
   ·exact .inr ⟨j,o',h3,ho⟩
 have hk:Keep w w (Ar ρ Z) (Ar (BW (Cb ρ i) d o) Z):=Keep.mono hout;have look: ∀j o',j≠d→ρ j=some o'→BW (Cb ρ i) d o j=some (if j=i then o'.dead else o'):=fun j o' e hj=>by
  rw[Gn _ _ e]
  unfold Cb;by_cases e2:j=i
  ·subst e2;rw[BZ,hj];simp
  ·rw[BG _ _ e2,hj];simp[e2]
 have turn1:Cf ρ (BW (Cb ρ i) d o) w w Z (Bm d):=fun c v hc=>by
  cases c with
  |d x=>exact RepD.keep hk hc
  |nl=>exact hc
  |bad=>exact hc
  |sl j off n=>
   simp only[C.on,Bm];by_cases e:j=d
   ·simp only[e,if_true];exact RepC.one hc
   ·simp only[e,if_false];obtain⟨o',ho',r⟩:=hc;refine⟨_,look j o' e ho',?_⟩;split<;>exact r
  |ptr j off=>
   simp only[C.on,Bm];by_cases e:j=d
   ·simp only[e,if_true];exact RepC.one hc
   ·simp only[e,if_false];obtain⟨o',ho',r⟩:=hc;refine⟨_,look j o' e ho',?_⟩;split<;>exact r
  |mp q j=>
   simp only[C.on,Bm];by_cases e:j=d
   ·simp only[e,if_true];exact RepC.one hc
   ·simp only[e,if_false];obtain⟨o',ho',r⟩:=hc;refine⟨_,look j o' e ho',?_⟩;have eg:(if j=i then o'.dead else o').g=o'.g:=by split<;>rfl
    rw[eg]
    exact r
 exact {
  fr:=h.fr
  heap:=⟨⟨fun j o' hj hn=>by
    rcases hsub j o' hj with⟨_,rfl⟩|⟨_,o1,h3,⟨_,rfl⟩|⟨_,rfl⟩⟩
    ·exact h.heap.owns.cells i o' hi hn
    ·cases hn
    ·exact h.heap.owns.cells j o' h3 hn,
   fun j j' o1 o2 hj hj' hne ad a1 a2=>by
    rcases hsubH j o1 ad hj a1 with⟨rfl,rfl⟩|⟨n1,n2,h3⟩
    ·rcases hsubH j' o2 ad hj' a2 with⟨rfl,rfl⟩|⟨n1',n2',h3'⟩
     ·exact absurd rfl hne
     ·exact h.heap.owns.apart i j' o1 o2 hi h3' (fun e=>n2' e.symm) ad a1 a2
    ·rcases hsubH j' o2 ad hj' a2 with⟨rfl,rfl⟩|⟨n1',n2',h3'⟩
     ·exact h.heap.owns.apart j i o1 o2 h3 hi n2 ad a1 a2
     ·exact h.heap.owns.apart j j' o1 o2 h3 h3' hne ad a1 a2,
   fun j o' hj=>by
    rcases hsub j o' hj with⟨_,rfl⟩|⟨_,o1,h3,⟨_,rfl⟩|⟨_,rfl⟩⟩
    ·exact h.heap.owns.lim i o' hi
    ·exact h.heap.owns.lim j o1 h3
    ·exact h.heap.owns.lim j o' h3⟩,
   fun j b hj=>by
    by_cases e:j=d
    ·subst e;simp only[St.new,St.blk]at hj;rw[Bt]at hj;cases hj;obtain⟨o',ho',hr⟩:=h.heap.rep i _ hb;obtain rfl:o'=o:=Bi (ho'.symm.trans hi);obtain⟨q1,q2,q3,q4,q5⟩:=hr;exact⟨o',Cd _ _ _,q1,q2,q3,q4,fun k x hx=>by obtain⟨v,hv,hd⟩:=q5 k x hx;exact⟨v,hv,hd.keep hk⟩⟩
    ·simp only[St.new,St.blk]at hj;rw[BD e,BR e]at hj;rw[JG]at hj;obtain⟨_,hj⟩:=Hk hj;simp only[St.on,St.drop]at hj;rw[BN,jze]at hj;obtain⟨b0,hb0,rfl⟩:=hj;obtain⟨hne,hb0⟩:=Hk hb0;obtain⟨o',ho',hr⟩:=h.heap.rep j b0 hb0;refine⟨o',by rw[look j o' e ho',if_neg hne],?_⟩
     exact hr.turn turn1 hk (fun _ _ _=>rfl) (fun _ _ _ h=>h)⟩
  mine:=fun j o' ad hj hh=>by
   rcases hsubH j o' ad hj hh with⟨_,rfl⟩|⟨_,_,h3⟩
   ·exact h.mine i o' ad hi hh
   ·exact h.mine j o' ad h3 hh
  out:=h.out
  mz:=h.mz
  tmps:=fun t v hv=>by
   simp only[St.new,St.blk,JG,St.on,St.drop]at hv;rw[BN,jze]at hv;obtain⟨v0,hv0,rfl⟩:=hv;exact(h.tmps t v0 hv0).turn turn1
  defers:=h.defers
  mps:=h.mps.sub fun j o' hj hm=>by
   rcases hsub j o' hj with⟨_,rfl⟩|⟨_,o1,h3,⟨_,rfl⟩|⟨_,rfl⟩⟩
   ·obtain⟨o2,ho2,hr⟩:=h.heap.rep i _ hb
    obtain rfl:o2=o':=Bi (ho2.symm.trans hi);exact absurd hm (hr.nomp fun es e=>by cases e)
   ·cases hm.2
   ·exact h3 }
theorem NT(h:Rel M Z w0 ρ st a w){j:TI}{c:C}{v:Value}{m:Nat}{ds:List D}(hc:RepC ρ w Z c v)(hs:st.src j c=some (m,ds)):
  ∃A cap vs,v= .slice A m cap∧RepL (RepD w (Ar ρ Z)) ds vs∧vs.length=m*j.size∧ ∀k,k≤m→ ∀w':World,w'.heap=w.heap→(Builtin.firstCells j.size k v).run P w'= .ok (vs.take (k*j.size)).toArray w':=by
 have nilcase:v= .slice none 0 0→m=0→ds=[]→ ∃A cap vs,v= .slice A m cap∧RepL (RepD w (Ar ρ Z)) ds vs∧vs.length=m*j.size∧ ∀k,k≤m→ ∀w':World,w'.heap=w.heap→(Builtin.firstCells j.size k v).run P w'= .ok (vs.take (k*j.size)).toArray w':=by
  rintro rfl rfl rfl
  exact⟨none,0,[],rfl,⟨rfl,fun j x v hx=>by simp at hx⟩,by simp,fun k hk w' _=>by simp[Builtin.firstCells]⟩
 have some_case: ∀(ad:Addr) (cap:Nat),v= .slice (some ad) m cap→ds.length=m*j.size→(ds≠[]→ad.spot=none)→
   (∀(q:Nat) (x:D),ds[q]? =some x→ ∃u,w.cell? ⟨ad.block,ad.off+q,none⟩=some u∧RepD w (Ar ρ Z) x u)→
   ∃A cap vs,v= .slice A m cap∧RepL (RepD w (Ar ρ Z)) ds vs∧vs.length=m*j.size∧ ∀k,k≤m→ ∀w':World,w'.heap=w.heap→(Builtin.firstCells j.size k v).run P w'= .ok (vs.take (k*j.size)).toArray w':=by
  intro ad cap hv hl hsp hcell;obtain⟨vs,hvs,hget⟩:=Iz (r:=RepD w (Ar ρ Z)) ds (fun q=>w.cell? ⟨ad.block,ad.off+q,none⟩) hcell
  have hvl:vs.length=m*j.size:=by rw[←hvs.1,hl]
  refine⟨_,_,vs,hv,hvs,hvl,fun k hk w' hw=> ?_⟩
  rw[hv]
  refine run_firstCells_some (P:=P) w' j.size k ad m cap (vs.take (k*j.size)) (by rw[A8,hvl,Bs (BC _ hk)]) fun q u hq=> ?_
  rw[List.getElem?_take]at hq
  split at hq<;>try (cases hq;done)
  have hne:ds≠[]:=fun e=>by subst e;have:=hvs.1;simp at this;rw[List.eq_nil_of_length_eq_zero this.symm]at hq;simp at hq
  rw[Il ad q (hsp hne)]
  have:=hget q u hq
  simpa [World.cell?,hw]using this
 cases c with
 |nl=>cases hs;exact nilcase hc rfl rfl
 |bad=>simp[St.src]at hs
 |ptr=>simp[St.src]at hs
 |mp=>simp[St.src]at hs
 |d x=>
  cases x<;>simp only[St.src]at hs<;>try cases hs
  case slice n cs=>
   split at hs<;>cases hs
   rename_i hl
   cases hc with
   |snil=>exact nilcase rfl rfl rfl
   |slice _ _ ad cap vs hsp hn hm h1 h2 h3=>exact some_case ad cap rfl hl hsp fun q x hx=>⟨_,h1 q x hx,h3 q x hx⟩
 |sl i off n=>
  simp only[St.src,jzd]at hs;obtain⟨b,hb,hs⟩:=hs;cases b with
  |box=>cases hs
  |fbox=>cases hs
  |mp=>cases hs
  |gh=>cases hs
  |row sz cs app=>
   simp only at hs;split at hs<;>cases hs;rename_i hcond;obtain⟨rfl,hlen⟩:=hcond;obtain⟨o,ho,_,hcase⟩:=hc;obtain⟨o',ho',hr⟩:=h.heap.rep i _ hb;obtain rfl:o'=o:=Bi (ho'.symm.trans ho);obtain⟨q1,q2,q3,q4,q5⟩:=hr;rcases hcase with⟨hn,rfl,rfl,rfl⟩|⟨hn,ad,cap,rfl,hnc,hcm,had,_⟩
   ·exact nilcase rfl rfl (by simp[AP])
   ·have hl:(AP (off*j.size) (m*j.size) cs).length=m*j.size:=by
     rw[Nat.add_mul]at hlen
     simp[AP];omega
    rcases Nat.eq_zero_or_pos m with hm0|hm0
    ·subst hm0;exact some_case ad cap rfl hl (fun hne=>absurd (List.eq_nil_of_length_eq_zero (by simpa using hl)) hne) (fun q x hx=>by
      have:AP (off*j.size) (0*j.size) cs=[]:=List.eq_nil_of_length_eq_zero (by simpa using hl)
      rw[this]at hx;simp at hx)
    ·have hae:ad=o'.at (off*o'.sz):=by
      rcases had with h0|h1
      ·omega
      ·exact h1
     subst hae;refine some_case _ cap rfl hl (fun _=>rfl) fun q x hx=> ?_
     rw[getElem?_cut]at hx
     split at hx
     ·obtain⟨u,hu,hd⟩:=q5 _ x hx
      refine⟨u,?_,hd⟩
      rw[←hu,q1]
      congr 1
      simp[Own.at]
      omega
     ·cases hx
theorem VL(h:Rel M Z w0 ρ st a w){j:TI}{c:C}{v:Value}{m:Nat}{ds:List D}(hc:RepC ρ w Z c v)(hs:st.src j c=some (m,ds)):
  ∃A cap vs,v= .slice A m cap∧RepL (RepD w (Ar ρ Z)) ds vs∧vs.length=m*j.size∧ ∀w':World,w'.heap=w.heap→(Builtin.firstCells j.size m v).run P w'= .ok vs.toArray w':=by
 obtain⟨A,cap,vs,h1,h2,h3,h4⟩:=NT (P:=P) h hc hs
 refine⟨A,cap,vs,h1,h2,h3,fun w' hw=> ?_⟩
 have:=h4 m (AO _) w' hw
 rwa [Ba (by omega)]at this
theorem Ls{t t' ty e:TypeId}{i:TypeInfo}{d':TypeDesc}(ht:P.underlying t=some (.slice e))(ht':P.underlying t'=some d')(hd':d'= .slice e∨d'= .string)(hi:P.info? e=some i)(base:Option Addr)(n c m:Nat){vy:Value}(hly:Builtin.lenOf vy=pure m)(news:List Value){w':World}
  (hnews:(Builtin.firstCells i.size m vy).run P w= .ok news.toArray w) (hroom:n+m≤c)
  (hst: ∀ad,base=some ad→(storeCells (ad.add (n*i.size)) news).run P w= .ok () w') (hn:base=none→w'=w):
  (Builtin.append_ #[t,t'] ty #[.slice base n c,vy]).run P w= .ok (.slice base (n+m) c) w':=by
 cases base with
 |none=>
  obtain rfl:=hn rfl;rcases hd' with rfl|rfl<;>simp[Builtin.append_,run_underlying ht,run_underlying ht',sizeOf,typeInfo,hi,hly,hroom,hnews]
 |some ad=>
  have hst:=hst ad rfl;rcases hd' with rfl|rfl<;>simp[Builtin.append_,run_underlying ht,run_underlying ht',sizeOf,typeInfo,hi,hly,hroom,hnews,hst]
theorem je1{t t' ty e:TypeId}{i:TypeInfo}{d':TypeDesc}{z:Value}(ht:P.underlying t=some (.slice e))(ht':P.underlying t'=some d')(hd':d'= .slice e∨d'= .string)(hi:P.info? e=some i)(hz:i.zero=some z)(base:Option Addr)(n c m:Nat){vy:Value}(hly:Builtin.lenOf vy=pure m)(olds news:List Value)
  (holds:(Builtin.firstCells i.size n (.slice base n c)).run P w.drew= .ok olds.toArray w.drew)
  (hnews:(Builtin.firstCells i.size m vy).run P w.drew= .ok news.toArray w.drew) (hg:c<n+m) (hby:(n+m)*i.bytes≤140737488355328) (hbig:n+m≤140737488355328):
  (Builtin.append_ #[t,t'] ty #[.slice base n c,vy]).run P w=
   .ok (.slice (some ⟨w.heap.size,0,none⟩) (n+m) (grownCap w (n+m) c e)) (w.drew.alloc (.cells (olds++(news++(Builtin.zeroCells z.cells (grownCap w (n+m) c e - (n+m))).toList)).toArray e)):=by
 have hn: ¬(n+m≤c):=by omega
 have h63': ¬(9223372036854775807<((n:Int)+(m:Int))):=by omega
 have hfit:Builtin.nextslicecap (n+m) c*i.bytes≤281474976710656:=growslice_fits (by omega) hby
 have h48': ¬(281474976710656<Builtin.nextslicecap (n+m) c*i.bytes):=by omega
 rcases hd' with rfl|rfl
 all_goals
  simp[Builtin.append_,run_underlying ht,run_underlying ht',sizeOf,typeInfo,zeroValue,hi,hz,hly,hn,h63',h48',Question.forced,hnews,holds,newRow,grownCap]
  congr 2
  apply Array.ext'
  simp
theorem Zz{t:TypeId}{i:TI}{info:TypeInfo}{d:TypeDesc}(ht:TyOk P t i info d)(h:MF i=true): ∃k,P.underlying t=some (.int k):=by
 have hd:=ht.desc;unfold MF at h;split at h
 ·rename_i h1 h2
  cases d<;>simp[Ct,h1,h2]at hd
  exact⟨_,ht.und⟩
 ·cases h
theorem jef{t t' ty e:TypeId}{k:IntKind}{i:TypeInfo}{z:Value}(ht:P.underlying t=some (.slice e))(ht':P.underlying t'=some (.int k))(hi:P.info? e=some i)(hz:i.zero=some z)(n:Nat)(h0:0<n)
  (hby:n*i.bytes≤140737488355328) (hbig:n≤140737488355328):
  (Builtin.append_ #[t,t'] ty #[.slice none 0 0,.int .i64 n]).run P w=
   .ok (.slice (some ⟨w.heap.size,0,none⟩) n (grownCap w n 0 e)) (w.drew.alloc (.cells ((if n*i.size=0 then #[] else Builtin.zeroCells z.cells n).toList++(Builtin.zeroCells z.cells (grownCap w n 0 e - n)).toList).toArray e)):=by
 have hw:IntKind.i64.wrap (n:Int)=n:=by rw[IntKind.wrap_i64];omega
 have hn: ¬(n≤0):=by omega
 have hneg: ¬((n:Int)<0):=by omega
 have h63': ¬(9223372036854775807<(n:Int)):=by omega
 have hb1: ¬(281474976710656<(n:Int)*(i.bytes:Int)):=by
  rw[←Int.natCast_mul]
  omega
 have hfit:Builtin.nextslicecap n 0*i.bytes≤281474976710656:=growslice_fits h0 hby;have h48': ¬(281474976710656<Builtin.nextslicecap n 0*i.bytes):=by omega
 by_cases hz0:n*i.size=0
 ·have hn0: ¬n=0:=by omega
  simp[Builtin.append_,run_underlying ht,run_underlying ht',sizeOf,typeInfo,zeroValue,hi,hz,asInt,asIntOf,hw,hneg,hb1,Builtin.firstCells,hn,hn0,h63',h48',Question.forced,newRow,grownCap,hz0]
 ·have hn0: ¬n=0:=by omega
  simp[Builtin.append_,run_underlying ht,run_underlying ht',sizeOf,typeInfo,zeroValue,hi,hz,asInt,asIntOf,hw,hneg,hb1,Builtin.firstCells,hn,hn0,h63',h48',Question.forced,newRow,grownCap,hz0]
  try (congr 2;apply Array.ext';simp)
theorem OL(h:Rel M Z w0 ρ st a w)(hT:A5 P T){o:Oper}{d:Nat}(hdst:o.dst=some d)(hd: ∀d,o.dst=some d→d<a.tmps.size)(t t':TypeId)(x y:Operand)
  (ho:o.op= .call { callee:= .builtin .append,args:= #[x,y],argTypes:= #[t,t'] }) {st':St} {i:TI} {e:Nat} {j:TI} {c:C} {d':TypeDesc} (ht':P.underlying t'=some d') (hd':d'= .slice e∨d'= .string)
  (hi:T t=some i) (he:i.sl=some e) (hj:T e=some j) (hc:st.evC x=some c) {m:Nat} {ds:List D} {vy:Value} {news:List Value} (hvy:a.eval y=vy) (hly:Builtin.lenOf vy=pure m) (hds:RepL (RepD w (Ar ρ Z)) ds news) (hnl:news.length=m*j.size)
  (hnews: ∀w':World,w'.heap=w.heap→(Builtin.firstCells j.size m vy).run P w'= .ok news.toArray w') (hst:st.app j d c ds m=some st'):StepOk P M Z w0 o st' a w:=by
 obtain⟨info,dd,ht⟩:=Be (hT t i hi)
 obtain⟨infe,de,hte⟩:=Be (hT e j hj)
 obtain⟨z,hz,hzc⟩:=hte.zero
 have hzr:RepL (RepC ρ w Z) j.zero z.cells.toList:=Ep hzc;have hzs:z.cells.size=j.size:=by have:=hzr.1;simp at this;rw[←this,hte.zlen]
 have hrun: ∀{v:Value} {w':World},(Builtin.append_ #[t,t'] o.type #[a.eval x,vy]).run P w= .ok v w'→(execOp a.eval o).run P w= .ok (.value v) w':=fun {v w'} hr=>by
  simp only[execOp,ho,resolve,invoke,builtin,Sem.run_bind,Sem.run_pure,Result.andThen_ok,List.map_toArray,List.map_cons,List.map_nil,hvy,hr]
 have grow: ∀{ρ1:AE} {s1:St} (h1:Rel M Z w0 ρ1 s1 a w) (hsub: ∀ad,Ar ρ1 Z ad→Ar ρ Z ad) (base:Option Addr) (n c:Nat) (cs:List D) (olds:List Value),a.eval x= .slice base n c→
   RepL (RepD w (Ar ρ Z)) cs olds→olds.length=n*j.size→(∀w':World,w'.heap=w.heap→(Builtin.firstCells j.size n (.slice base n c)).run P w'= .ok olds.toArray w')→c<n+m→
   s1.appGo j d cs n ds m=some st'→StepOk P M Z w0 o st' a w:=by
  intro ρ1 s1 h1 hsub base n c cs olds hvx hcs hol hfo hg hst;unfold St.appGo at hst;split at hst
  case isFalse=>cases hst
  case isTrue hcond=>
   cases hst;obtain⟨hby,hbig⟩:=hcond
   unfold CP at hby hbig;have hr:=je1 (P:=P) (w:=w) (ty:=o.type) (ht.slice he) ht' hd' hte.inf hz base n c m hly olds news (by rw[hte.size];exact hfo w.drew rfl) (by rw[hte.size];exact hnews w.drew rfl) hg (by rw[hte.bytes];exact hby) hbig
   have hcap:=grownCap_ge w (n+m) c e;have hcapm:grownCap w (n+m) c e≤maxLen:=grownCap_le_maxLen w (n+m) c e (by unfold maxLen;omega)
   have hk:Keep w w (Ar ρ Z) (Ar ρ1 Z):=Keep.mono hsub;have hlen:(olds++news).length=(n+m)*j.size:=by rw[List.length_append,hol,hnl,Nat.add_mul]
   have hrow:=h1.newRow (Ext.drew w) rfl d (sz:=j.size) (room:=grownCap w (n+m) c e) (Builtin.zeroCells z.cells (grownCap w (n+m) c e - (n+m))).toList e true ((hcs.append hds).keepD hk) (by
    rw[List.length_append,hlen]
    simp only[Array.length_toList,size_zeroCells,hzs];rw[←Nat.add_mul]
    congr 1
    omega) hcapm
   rw[List.append_assoc]at hrow
   rw[←hvx]at hr
   exact .at hdst hd (hrun hr) hrow (KM _ w w Z d _ _ _ hcap hcapm)
 have hxr:=h.evC hc;cases c with
 |nl=>
  simp only[St.app]at hst;have hvx:a.eval x= .slice none 0 0:=hxr;rcases Nat.eq_zero_or_pos m with hm|hm
  ·subst hm;have hd0:ds=[]:=by have:=hds.1;rw[hnl]at this;exact List.eq_nil_of_length_eq_zero (by simpa using this)
   have hnew0:news=[]:=List.eq_nil_of_length_eq_zero (by simpa using hnl)
   subst hd0;subst hnew0;unfold St.appGo at hst;split at hst<;>cases hst;have hr:=Ls (P:=P) (w:=w) (ty:=o.type) (ht.slice he) ht' hd' hte.inf none 0 0 0 hly [] (w':=w) (by rw[hte.size];exact hnews w rfl) (AO _) (fun ad h=>by cases h) (fun _=>rfl)
   rw[←hvx]at hr
   have hn:=h.new (Ext.refl w) d (o:={ g:=0,o:=0,sz:=j.size,room:=0,app:=true,nil:=true }) (b:= .row j.size ([]++[]) true)
    (fun ad hh=>by cases hh.1) (fun hh=>by cases hh) (by simp[maxLen]) ⟨rfl,rfl,by simp,⟨fun _=>rfl,rfl⟩,fun q x hx=>by simp at hx⟩
   exact .at hdst hd (hrun hr) hn ⟨_,Cd _ _ _,by simp,.inl ⟨rfl,by simpa using hvx,rfl,rfl⟩⟩
  ·exact grow h (fun _ h=>h) none 0 0 [] [] hvx ⟨rfl,fun j x v hx=>by simp at hx⟩ (by simp) (fun w' _=>by simp[Builtin.firstCells]) (by omega) hst
 |bad=>simp[St.app]at hst
 |ptr=>simp[St.app]at hst
 |mp=>simp[St.app]at hst
 |d=>simp[St.app]at hst
 |sl b off n=>
  simp only[St.app,jzd]at hst;obtain⟨blk,hb,hst⟩:=hst;cases blk with
  |box=>cases hst
  |fbox=>cases hst
  |mp=>cases hst
  |gh=>cases hst
  |row sz cs app=>
   simp only at hst;have hwhich: ∃cs',(∀(q:Nat) (x:D),cs'[q]? =some x→cs[q]? =some x)∧cs'.length≤cs.length∧(app=true∧off=0∧sz=j.size∧cs'.length=n*sz)∧(st.drop b).appGo j d cs' n ds m=some st':=by
    split at hst
    ·rename_i hc;exact⟨cs,fun _ _ h=>h,AO _,hc,hst⟩
    ·split at hst
     ·rename_i hc
      refine⟨cs.take (n*sz),fun q x hx=> ?_,by simp;omega,⟨hc.2.1,hc.2.2.1,hc.2.2.2.1,by rw[A8];have:=hc.2.2.2.2;omega⟩,hst⟩
      rw[List.getElem?_take]at hx
      split at hx
      ·exact hx
      ·cases hx
     ·cases hst
   clear hst;obtain⟨cs0,hsub0,hlen0,hcond,hst⟩:=hwhich
   first
   |skip
    obtain⟨rfl,rfl,rfl,hcl⟩:=hcond
    obtain⟨ow,how,hroom,hcase⟩:=hxr
    obtain⟨o2,ho2,hr⟩:=h.heap.rep b _ hb
    obtain rfl:o2=ow:=Bi (ho2.symm.trans how);obtain⟨q1,q2,q3,q4,q5⟩:=hr
    replace q3:=Nat.le_trans hlen0 q3
    replace q5:=fun(q:Nat) (x:D) (hx:cs0[q]? =some x)=>q5 q x (hsub0 q x hx)
    clear hsub0 hlen0 hb;clear cs;obtain⟨cs,rfl⟩: ∃cs,cs=cs0:=⟨_,rfl⟩;have hp1:=h.drop b;rcases hcase with⟨hn,hvx,_,rfl⟩|⟨hn,ad,cap,hvx,hnc,hcm,had,happ⟩
    ·have hcs0:cs=[]:=List.eq_nil_of_length_eq_zero (by simpa using hcl)
     subst hcs0;rcases Nat.eq_zero_or_pos m with hm|hm
     ·subst hm;have hd0:ds=[]:=by have:=hds.1;rw[hnl]at this;exact List.eq_nil_of_length_eq_zero (by simpa using this)
      have hnew0:news=[]:=List.eq_nil_of_length_eq_zero (by simpa using hnl)
      subst hd0;subst hnew0;unfold St.appGo at hst;split at hst<;>cases hst;have hr:=Ls (P:=P) (w:=w) (ty:=o.type) (ht.slice he) ht' hd' hte.inf none 0 0 0 hly [] (w':=w) (by rw[hte.size];exact hnews w rfl) (AO _) (fun ad h=>by cases h) (fun _=>rfl)
      rw[←hvx]at hr
      have hn:=hp1.new (Ext.refl w) d (o:={ g:=0,o:=0,sz:=j.size,room:=0,app:=true,nil:=true }) (b:= .row j.size ([]++[]) true)
       (fun ad hh=>by cases hh.1) (fun hh=>by cases hh) (by simp[maxLen]) ⟨rfl,rfl,by simp,⟨fun _=>rfl,rfl⟩,fun q x hx=>by simp at hx⟩
      exact .at hdst hd (hrun hr) hn ⟨_,Cd _ _ _,by simp,.inl ⟨rfl,by simpa using hvx,rfl,rfl⟩⟩
     ·exact grow hp1 (fun _=>Jj) none 0 0 [] [] hvx ⟨rfl,fun j x v hx=>by simp at hx⟩ (by simp) (fun w' _=>by simp[Builtin.firstCells]) (by omega) hst
    ·have hn0:=hn
     replace hn:o2.gone=false:=q4.2.trans hn
     obtain⟨olds,hol,hget⟩:=Iz (r:=RepD w (Ar ρ Z)) cs (fun q=>w.cell? (o2.at q)) q5
     have holl:olds.length=n*j.size:=by rw[←hol.1,hcl]
     by_cases hfit:n+m≤cap
     ·
      unfold St.appGo at hst;split at hst
      case isFalse=>cases hst
      case isTrue hcond2=>
       cases hst;have hspace:n*o2.sz+news.length≤o2.room*o2.sz:=by
        rw[hnl,q1,←Nat.add_mul]
        exact BC _ (by have:=happ q2;omega)
       have hw:=h.write how hn (off:=n*o2.sz) (vs:=news) hspace (b:= .row j.size (cs++ds) true) fun hk=>⟨q1,q2,by
         have:=hspace
         rw[q1,hnl]at this
         rw[List.length_append,hcl,hds.1,hnl]
         exact this,q4,fun q x hx=>by
         rw[GI h how hn hspace]
         by_cases hq:q<cs.length
         ·rw[List.getElem?_append_left hq]at hx
          rw[if_neg (by rw[q1];omega)]
          obtain⟨v,hv,hdd⟩:=q5 q x hx
          exact⟨v,hv,hdd.keep hk⟩
         ·rw[List.getElem?_append_right (by omega)]at hx
          have hq2:q - cs.length<ds.length:=(jzg.1 hx).1;have hq3:q - cs.length<news.length:=by rw[←hds.1];exact hq2
          rw[if_pos (by rw[q1];omega)]
          rw[show q - n*o2.sz=q - cs.length by rw[q1,hcl]]
          exact⟨_,AD hq3,(hds.2 _ _ _ hx (AD hq3)).keep hk⟩⟩
       have hmv:=hw.move (d:=d) how (sz:=j.size) (cs:=cs++ds) (app:=true) (by simp[St.blk,Bt])
       have hst:(storeCells (ad.add (n*infe.size)) news).run P w= .ok () (w.setCells o2.g (o2.o+n*o2.sz) news):=by
        rw[hte.size]
        rcases had with hc0|hae
        ·have hm0:m=0:=by omega
         subst hm0;have:news=[]:=List.eq_nil_of_length_eq_zero (by simpa using hnl)
         subst this;rfl
        ·subst hae;have hs2:=run_storeCells_cells (P:=P) o2.g (o2.o+n*o2.sz) news 0 w (fun q hq=>by
           obtain⟨⟨u,hu⟩,_⟩:=h.heap.owns.cells b o2 how hn (n*o2.sz+q) (by omega)
           have he:(⟨o2.g,o2.o+n*o2.sz+0+q,none⟩:Addr)=o2.at (n*o2.sz+q):=by simp;omega
           rw[he,hu];rfl) (fun q hq=>by
           obtain⟨_,hf⟩:=h.heap.owns.cells b o2 how hn (n*o2.sz+q) (by omega)
           have he:(⟨o2.g,o2.o+n*o2.sz+0+q,none⟩:Addr)=o2.at (n*o2.sz+q):=by simp;omega
           rw[he,hf]) (fun v hv=>by
           obtain⟨q,hq,rfl⟩:=List.getElem_of_mem hv
           exact(hds.2 q _ _ (AD (by rw[hds.1];exact hq)) (AD hq)).one)
         have hea:(o2.at (0*o2.sz)).add (n*j.size)=⟨o2.g,o2.o+n*o2.sz,none⟩:=by
          simp only[Own.at,E2];rw[q1];simp
         rw[hea]
         simpa using hs2
       have hr:=Ls (P:=P) (w:=w) (ty:=o.type) (ht.slice he) ht' hd' hte.inf (some ad) n cap m hly news (by rw[hte.size];exact hnews w rfl) hfit (fun ad' h'=>by cases h';exact hst) (fun h'=>by cases h')
       rw[←hvx]at hr
       have hcg:Rel M Z w0 (BW (Cb ρ b) d o2) ((st.drop b).new d (.row j.size (cs++ds) true)) a (w.setCells o2.g (o2.o+n*o2.sz) news):=
        hmv.congr (fun k=>by simp[St.new,St.blk,St.purge,St.on,St.drop]) (fun k=>by
         by_cases ek:k=d
         ·subst ek;simp[St.new,St.blk,Bt]
         ·simp only[St.new,St.blk];rw[BD ek,BD ek,BR ek,BR ek];simp only[St.purge,St.on,St.drop];rw[BR ek,BR ek,BN,BN]
          congr 1
          by_cases eb:k=b
          ·subst eb;rw[Ha,Ha]
          ·rw[BR eb,BR eb,BD eb,BR eb])
       refine .at hdst hd (hrun hr) hcg ⟨o2,Cd _ _ _,?_,.inr ⟨hn0,ad,cap,rfl,hfit,hcm,?_,fun _=> ?_⟩⟩
       ·have:=happ q2;omega
       ·rcases had with h0|h1
        ·exact .inl h0
        ·exact .inr h1
       ·have:=happ q2;omega
     ·refine grow hp1 (fun _=>Jj) (some ad) n cap cs olds hvx hol holl (fun w' hw'=> ?_) (by omega) hst
      refine run_firstCells_some (P:=P) w' j.size n ad n cap olds holl fun q u hq=> ?_
      have hq':q<olds.length:=(jzg.1 hq).1;have hae:ad=o2.at (0*o2.sz):=by
       rcases had with h0|h1
       ·have:n=0:=by omega
        subst this;simp at holl;subst holl;simp at hq
       ·exact h1
      subst hae;have:=hget q u hq;simp only[Nat.zero_mul];rw[show(o2.at 0).add q=o2.at q by simp[Own.at,E2]]
      simpa [World.cell?,hw']using this
theorem WR(h:Rel M Z w0 ρ st a w)(hT:A5 P T){o:Oper}{d:Nat}(hdst:o.dst=some d)(hd: ∀d,o.dst=some d→d<a.tmps.size)(t:TypeId)(x y:Operand)
  (ho:o.op= .call { callee:= .builtin .append,args:= #[x,y],argTypes:= #[t,t] }) {st':St} {i:TI} {e:Nat} {j:TI} {c s:C} {p:Nat×List D}
  (hi:T t=some i) (he:i.sl=some e) (hj:T e=some j) (hc:st.evC x=some c) (hs:st.evC y=some s) (hp:st.src j s=some p) (hst:st.app j d c p.2 p.1=some st'):StepOk P M Z w0 o st' a w:=by
 obtain⟨m,ds⟩:=p
 obtain⟨A,cx,news,hvy,hds,hnl,hnews⟩:=VL (P:=P) (j:=j) h (h.evC hs) hp
 obtain⟨info,dd,ht⟩:=Be (hT t i hi)
 exact OL h hT hdst hd t t x y ho (ht.slice he) (.inl rfl) hi he hj hc hvy rfl hds hnl (fun w' hw=>by have:=hnews w' hw;rwa [hvy]at this) hst
theorem jdM{t:TypeId}{i:TI}{info:TypeInfo}{d:TypeDesc}(ht:TyOk P t i info d)(h:Ce i=true):P.underlying t=some .string:=by
 have hd:=ht.desc;unfold Ce at h;split at h
 ·rename_i h1 h2 h3 h4
  cases d<;>simp[Ct,h1,h2,h3,h4]at hd
  exact ht.und
 ·cases h
theorem jhS(h:Rel M Z w0 ρ st a w)(hT:A5 P T){o:Oper}{d:Nat}(hdst:o.dst=some d)(hd: ∀d,o.dst=some d→d<a.tmps.size)(t t':TypeId)(x y:Operand)
  (ho:o.op= .call { callee:= .builtin .append,args:= #[x,y],argTypes:= #[t,t'] }) {st':St} {i k:TI} {e:Nat} {j:TI} {c:C} {s:ByteArray}
  (hi:T t=some i) (he:i.sl=some e) (hj:T e=some j) (hk:T t'=some k) (hstr:Ce k=true) (h1:j.size=1) (hc:st.evC x=some c) (hs:st.evC y=some (.d (.str s))) (hst:st.app j d c (J1 s) s.size=some st'):StepOk P M Z w0 o st' a w:=by
 obtain⟨infk,dk,htk⟩:=Be (hT t' k hk)
 have hvy:a.eval y= .string s:=by
  have:=h.evC hs
  generalize a.eval y=v at this;cases this;rfl
 refine OL h hT hdst hd t t' x y ho (jdM htk hstr) (.inr rfl) hi he hj hc (news:=(s.data.map fun b=>Value.int .u8 b.toNat).toList) hvy rfl ?_ ?_ ?_ hst
 ·refine⟨by simp[J1],fun q z v hz hv=> ?_⟩
  unfold J1 at hz;rw[Bf,jze]at hz;obtain⟨b,hb,rfl⟩:=hz;rw[Array.getElem?_toList,Array.getElem?_map,jze]at hv;obtain⟨b',hb',rfl⟩:=hv;rw[←Array.getElem?_toList,hb]at hb';cases hb';exact .int _ _
 ·rw[h1,Nat.mul_one,Array.length_toList,Array.size_map];rfl
 ·intro w' hw;have e:(s.extract 0 s.size).data=s.data:=by
   rw[ByteArray.data_extract]
   exact Array.extract_size
  show(pure ((s.extract 0 s.size).data.map fun b=>Value.int .u8 b.toNat):Sem _).run P w'=_
  rw[e]
  rfl
theorem jjn(h:Rel M Z w0 ρ st a w)(hT:A5 P T){o:Oper}{d:Nat}(hdst:o.dst=some d)(hd: ∀d,o.dst=some d→d<a.tmps.size)(t t':TypeId)(x y:Operand)
  (ho:o.op= .call { callee:= .builtin .append,args:= #[x,y],argTypes:= #[t,t'] }) {st':St} {i k:TI} {e:Nat} {j:TI} {c s:C}
  (hi:T t=some i) (he:i.sl=some e) (hj:T e=some j) (hk:T t'=some k) (hc:st.evC x=some c) (hs:st.evC y=some s) (hst:J0 k j d st c s=some st'):StepOk P M Z w0 o st' a w:=by
 unfold J0 at hst;split at hst
 case h_3=>cases hst
 case h_2 s0=>
  split at hst
  ·rename_i hh
   exact jhS h hT hdst hd t t' x y ho hi he hj hk hh.1 hh.2 hc hs hst
  ·cases hst
 case h_1 n=>
  split at hst<;>cases hst
  rename_i hcond
  obtain⟨hint,h0,hby,hbig⟩:=hcond
  unfold CP at hby hbig;obtain⟨info,dd,ht⟩:=Be (hT t i hi);obtain⟨infe,de,hte⟩:=Be (hT e j hj);obtain⟨infk,dk,htk⟩:=Be (hT t' k hk);obtain⟨kk,hku⟩:=Zz htk hint;obtain⟨z,hz,hzc⟩:=hte.zero;have hzr:RepL (RepC ρ w Z) j.zero z.cells.toList:=Ep hzc;have hzs:z.cells.size=j.size:=by have:=hzr.1;simp at this;rw[←this,hte.zlen]
  obtain⟨m,rfl⟩: ∃m:Nat,n=m:=⟨n.toNat,by omega⟩
  have hvx:a.eval x= .slice none 0 0:=h.evC hc
  have hvy:a.eval y= .int .i64 (m:Int):=by
   have:=h.evC hs
   generalize a.eval y=v at this;cases this;rfl
  have hr:=jef (P:=P) (w:=w) (ty:=o.type) (ht.slice he) hku hte.inf hz m (by omega) (by rw[hte.bytes];rw[←Int.natCast_mul]at hby;omega) (by omega)
  have hcap:m≤grownCap w m 0 e:=by have:=grownCap_ge w m 0 e;omega
  have hcapm:grownCap w m 0 e≤maxLen:=grownCap_le_maxLen w m 0 e (by unfold maxLen;omega)
  have hrow:=h.newRow (Ext.drew w) rfl d (sz:=j.size) (room:=grownCap w m 0 e) (ds:=[]) (vs:=[]) ((if m*infe.size=0 then #[] else Builtin.zeroCells z.cells m).toList++(Builtin.zeroCells z.cells (grownCap w m 0 e - m)).toList) e true ⟨rfl,fun q x v hx=>by simp at hx⟩ (by
   rw[List.nil_append,List.length_append]
   have e1:(if m*infe.size=0 then #[] else Builtin.zeroCells z.cells m).toList.length=m*j.size:=by
    rw[hte.size]
    split
    ·simp_all
    ·simp only[Array.length_toList,size_zeroCells,hzs]
   rw[e1]
   simp only[Array.length_toList,size_zeroCells,hzs];rw[←Nat.add_mul]
   congr 1
   omega) hcapm
  have hrun:(execOp a.eval o).run P w= .ok (.value (.slice (some ⟨w.heap.size,0,none⟩) m (grownCap w m 0 e))) (w.drew.alloc (.cells ((if m*infe.size=0 then #[] else Builtin.zeroCells z.cells m).toList++(Builtin.zeroCells z.cells (grownCap w m 0 e - m)).toList).toArray e)):=by
   simp only[execOp,ho,resolve,invoke,builtin,Sem.run_bind,Sem.run_pure,Result.andThen_ok,List.map_toArray,List.map_cons,List.map_nil,hvx,hvy,hr]
  exact .at hdst hd hrun hrow (KM _ w w Z d _ _ _ hcap hcapm)
end
end Go.Va
namespace Go.Va
open Go.RowKit
variable [Gv]
section
variable {P:Program} {T:AH} {M Z:Addr→Prop} {w0 w:World} {ρ:AE} {st:St} {a:Act}
theorem Ih{t:TypeId}{i:TI}{info:TypeInfo}{d:TypeDesc}(ht:TyOk P t i info d)(h:Ce i=true):P.underlying t=some .string:=by
 unfold Ce at h;split at h
 ·rename_i s h1 h2 h3 h4
  exact ht.str h2 h3 h1 h4
 ·cases h
theorem WS{k:IntKind}{n:Int}(h:HW k n):k.wrap n=n:=by
 cases k<;>simp only[HW,IntKind.min,IntKind.max,IntKind.signed,IntKind.bits,if_true,Bool.false_eq_true,if_false]at h<;>simp[IntKind.wrap,IntKind.signed,IntKind.bits]at h ⊢ <;>(try split)<;>omega
theorem IF{k:IntKind}{n:Int}{v:V}(h:DJ k n=some v):v=vI k (k.wrap n):=by
 unfold DJ at h;split at h
 ·unfold Dz at h;split at h
  ·rename_i hin
   cases h;rw[WS hin]
  ·cases h
 ·rename_i hs
  cases h;cases k<;>simp_all [IntKind.wrap,IntKind.signed,IntKind.bits]
theorem B4(ρ:AE)(w:World)(Z:Addr→Prop)(k:IntKind)(n:Int):RepV ρ w Z (vI k n) (.int k n):=RepD.int k n
theorem DN(ρ:AE)(w:World)(Z:Addr→Prop)(b:Bool):RepV ρ w Z (vB b) (.bool b):=RepD.bool b
theorem jfN{op:BinOp}{k:IntKind}{x y:Int}{v:V}(hne:op≠ .shl∧op≠ .shr)(h:binI op k x y=some v): ∃u,∀t,(binOp op t (.int k x) (.int k y)).run P w= .ok u w∧RepV ρ w Z v u:=by
 cases op<;>simp only[binI,Om,Da,RX,To]at h
 case add=>refine⟨_,fun t=>⟨by simp[Go.binOp,Op.intArith]<;>rfl,?_⟩⟩;rw[IF h];exact B4 _ _ _ _ _
 case sub=>refine⟨_,fun t=>⟨by simp[Go.binOp,Op.intArith]<;>rfl,?_⟩⟩;rw[IF h];exact B4 _ _ _ _ _
 case mul=>refine⟨_,fun t=>⟨by simp[Go.binOp,Op.intArith]<;>rfl,?_⟩⟩;rw[IF h];exact B4 _ _ _ _ _
 case quo=>
  simp only[jzd,Dz]at h;obtain⟨_,hc,h⟩:=h;split at hc
  ·rename_i hy
   refine⟨_,fun t=>⟨by simp[Go.binOp,Op.intDiv,hy]<;>rfl,?_⟩⟩;rw[IF h];exact B4 _ _ _ _ _
  ·cases hc
 case rem=>
  simp only[jze,Dz]at h;obtain⟨_,hc,rfl⟩:=h;split at hc
  ·rename_i hy
   exact⟨_,fun t=>⟨by simp[Go.binOp,Op.intDiv,hy]<;>rfl,B4 _ _ _ _ _⟩⟩
  ·cases hc
 case eql=>cases h;exact⟨.bool (decide (x=y)),fun t=>⟨by simp[Go.binOp,Op.intCmp]<;>rfl,DN _ _ _ _⟩⟩
 case neq=>cases h;exact⟨.bool (!decide (x=y)),fun t=>⟨by simp[Go.binOp,Op.intCmp]<;>rfl,DN _ _ _ _⟩⟩
 case lss=>cases h;exact⟨_,fun t=>⟨by simp[Go.binOp,Op.intCmp]<;>rfl,DN _ _ _ _⟩⟩
 case leq=>cases h;exact⟨_,fun t=>⟨by simp[Go.binOp,Op.intCmp]<;>rfl,DN _ _ _ _⟩⟩
 case gtr=>cases h;exact⟨_,fun t=>⟨by simp[Go.binOp,Op.intCmp]<;>rfl,DN _ _ _ _⟩⟩
 case geq=>cases h;exact⟨_,fun t=>⟨by simp[Go.binOp,Op.intCmp]<;>rfl,DN _ _ _ _⟩⟩
 case and=>cases h;exact⟨_,fun t=>⟨by simp[Go.binOp,Op.intBits]<;>rfl,B4 _ _ _ _ _⟩⟩
 case or=>cases h;exact⟨_,fun t=>⟨by simp[Go.binOp,Op.intBits]<;>rfl,B4 _ _ _ _ _⟩⟩
 case xor=>cases h;exact⟨_,fun t=>⟨by simp[Go.binOp,Op.intBits]<;>rfl,B4 _ _ _ _ _⟩⟩
 case andNot=>cases h;exact⟨_,fun t=>⟨by simp[Go.binOp,Op.intBits]<;>rfl,B4 _ _ _ _ _⟩⟩
 case shl=>exact absurd rfl hne.1
 case shr=>exact absurd rfl hne.2
theorem PN{op:BinOp}{k k':IntKind}{x y:Int}{v:V}(hop:op= .shl∨op= .shr)(h:shiftI op k x y=some v): ∃u,∀t,(binOp op t (.int k x) (.int k' y)).run P w= .ok u w∧RepV ρ w Z v u:=by
 rcases hop with rfl|rfl<;>simp only[shiftI,CW,Ge,jze,Dz]at h<;>obtain⟨_,hc,rfl⟩:=h<;>split at hc<;>try cases hc
 ·rename_i hy
  exact⟨_,fun t=>⟨by simp[Go.binOp,Op.shift,show ¬y<0 by omega]<;>rfl,B4 _ _ _ _ _⟩⟩
 ·rename_i hy
  exact⟨_,fun t=>⟨by simp[Go.binOp,Op.shift,show ¬y<0 by omega]<;>rfl,B4 _ _ _ _ _⟩⟩
theorem jcY{op:BinOp}{x y:ByteArray}{v:V}(h:G6 op x y=some v): ∃u,∀t,(binOp op t (.string x) (.string y)).run P w= .ok u w∧RepV ρ w Z v u:=by
 cases op<;>simp only[G6]at h<;>try cases h
 case add=>
  simp only[jze,Dz]at h;obtain⟨_,hc,rfl⟩:=h;split at hc
  ·rename_i hs
   refine⟨.string (x++y),fun t=>⟨?_,RepD.str _⟩⟩
   have: ¬(((x.size+y.size:Nat):Int)>IntKind.i64.max):=by simp[IntKind.max,IntKind.signed,IntKind.bits];omega
   simp only[Go.binOp,Op.stringOp,this,if_false,Sem.run_pure]
  ·cases hc
 case eql=>exact⟨_,fun t=>⟨by simp[Go.binOp,Op.stringOp]<;>rfl,DN _ _ _ _⟩⟩
 case neq=>exact⟨_,fun t=>⟨by simp[Go.binOp,Op.stringOp]<;>rfl,DN _ _ _ _⟩⟩
theorem F7{op:BinOp}{t:TypeId}{x y:Operand}{u v:Value}(h: ∀cs,u≠ .agg cs)(h':u≠ .nilIface):(eqGuard op t x y u v).run P w= .ok () w:=by
 unfold eqGuard;cases op<;>try (simp;done)
 all_goals
  simp only[Bool.not_true,Bool.false_eq_true,if_false];cases u<;>first|(exact absurd rfl h')|(exact absurd rfl (h _))|(cases v<;>rfl)
theorem Ti{t:TypeId}{z:C}{x y:C}{vx vy:Value}{b:Bool}(d:Nat)(hk:Ej P t (some z)=true)(hx:RepC ρ w Z x vx)(hy:RepC ρ w Z y vy)(he:JM z x y=some b):
  (Op.equalIn (d+1) t vx vy).run P w= .ok b w:=by
 unfold JM at he;split at he
 ·cases hx;cases hy
  split at he<;>cases he
  rename_i hkk
  subst hkk;unfold Ej at hk;cases hu:P.underlying t with
  |none=>simp[hu]at hk
  |some dd=>
   cases dd<;>simp[hu]at hk
   simp[Op.equalIn,run_underlying hu]
   rfl
 ·cases hx;cases hy;cases he
  unfold Ej at hk;cases hu:P.underlying t with
  |none=>simp[hu]at hk
  |some dd=>
   cases dd<;>simp[hu]at hk
   simp[Op.equalIn,run_underlying hu]
   rfl
 ·cases he
theorem KG{t:TypeId}{z:C}(hk:Ej P t (some z)=true){vs:Array Value}{j:Nat}{v:Value}(hv:vs[j]? =some v):(Go.part t vs j).run P w= .ok v w:=by
 unfold Ej at hk;cases hu:P.underlying t with
 |none=>simp[hu]at hk
 |some dd=>cases dd<;>simp[hu]at hk<;>simp[Go.part,Go.isAgg,run_underlying hu,hv]
theorem TJ(d:Nat){e:TypeId}(vs us:Array Value): ∀(zs xs ys:List C) (k:Nat) (b:Bool),(∀z∈zs,Ej P e (some z)=true)→(∀(j:Nat) (x:C),xs[j]? =some x→ ∃v,vs[k+j]? =some v∧RepC ρ w Z x v)→
  (∀(j:Nat) (x:C),ys[j]? =some x→ ∃v,us[k+j]? =some v∧RepC ρ w Z x v)→Ey zs xs ys=some b→
  (Op.eqItems (d+1) e 1 vs us (List.range' k zs.length)).run P w= .ok b w
 |[],[],[],_,_,_,_,_,h=>by cases h;simp[Op.eqItems]
 |[],[],_::_,_,_,_,_,_,h=>by cases h
 |[],_::_,_,_,_,_,_,_,h=>by cases h
 |_::_,[],_,_,_,_,_,_,h=>by cases h
 |_::_,_::_,[],_,_,_,_,_,h=>by cases h
 |z::zs,x::xs,y::ys,k,b,hz,hx,hy,h=>by
  simp only[Ey,jzd,jze]at h;obtain⟨b1,h1,b2,h2,rfl⟩:=h;have hz0:=hz z (by simp)
  obtain⟨v,hv,hvr⟩:=hx 0 x rfl
  obtain⟨u,hu,hur⟩:=hy 0 y rfl
  have ih:=TJ d vs us zs xs ys (k+1) b2 (fun q hq=>hz q (by simp[hq])) (fun j q hq=>by have:=hx (j+1) q (by simpa using hq);rwa [show k+(j+1)=k+1+j by omega]at this)
   (fun j q hq=>by have:=hy (j+1) q (by simpa using hq);rwa [show k+(j+1)=k+1+j by omega]at this) h2
  simp only[Nat.add_zero]at hv hu;have p1:=KG (P:=P) (w:=w) hz0 hv;have p2:=KG (P:=P) (w:=w) hz0 hu;have p3:=Ti d hz0 hvr hur h1;simp only[List.length_cons,List.range'_succ,Op.eqItems,Nat.mul_one,Sem.run_bind,p1,p2,p3,Result.andThen_ok];cases b1
  ·simp
  ·simpa using ih
theorem Tg (d : Nat) (vs us : Array Value) : ∀ (zs xs ys : List C) (fs : List Field) (k : Nat) (b : Bool), fs.length = zs.length → (∀ (j : Nat) (f : Field), fs[j]? = some f → f.name ≠ "_" ∧ f.offset = k + j ∧ Ej P f.type zs[j]? = true) →
  (∀(j:Nat) (x:C),xs[j]? =some x→ ∃v,vs[k+j]? =some v∧RepC ρ w Z x v)→(∀(j:Nat) (x:C),ys[j]? =some x→ ∃v,us[k+j]? =some v∧RepC ρ w Z x v)→Ey zs xs ys=some b→
  (Op.eqFields (d+1) vs us fs).run P w= .ok b w
 |[],[],[],fs,_,_,hl,_,_,_,h=>by cases h;rw[List.eq_nil_of_length_eq_zero hl];simp[Op.eqFields]
 |[],[],_::_,_,_,_,_,_,_,_,h=>by cases h
 |[],_::_,_,_,_,_,_,_,_,_,h=>by cases h
 |_::_,[],_,_,_,_,_,_,_,_,h=>by cases h
 |_::_,_::_,[],_,_,_,_,_,_,_,h=>by cases h
 |z::zs,x::xs,y::ys,[],k,b,hl,hf,hx,hy,h=>by simp at hl
 |z::zs,x::xs,y::ys,f::fs,k,b,hl,hf,hx,hy,h=>by
  simp only[Ey,jzd,jze]at h;obtain⟨b1,h1,b2,h2,rfl⟩:=h;obtain⟨f1,f2,f3⟩:=hf 0 f rfl;have hz0:Ej P f.type (some z)=true:=by simpa using f3
  obtain⟨v,hv,hvr⟩:=hx 0 x rfl
  obtain⟨u,hu,hur⟩:=hy 0 y rfl
  have ih:=Tg d vs us zs xs ys fs (k+1) b2 (by simpa using hl) (fun j q hq=>by have:=hf (j+1) q (by simpa using hq);rw[show k+(j+1)=k+1+j by omega]at this;simpa using this)
   (fun j q hq=>by have:=hx (j+1) q (by simpa using hq);rwa [show k+(j+1)=k+1+j by omega]at this)
   (fun j q hq=>by have:=hy (j+1) q (by simpa using hq);rwa [show k+(j+1)=k+1+j by omega]at this) h2
  simp only[Nat.add_zero]at hv hu f2;have p1:=KG (P:=P) (w:=w) hz0 hv;have p2:=KG (P:=P) (w:=w) hz0 hu;have p3:=Ti d hz0 hvr hur h1;simp only[Op.eqFields,f1,ne_eq,not_false_eq_true,if_true,f2,Sem.run_bind,p1,p2,p3,Result.andThen_ok];cases b1
  ·simp
  ·simpa using ih
theorem Jk{xs:List C}{vs:List Value}(h:RepL (RepC ρ w Z) xs vs)(j:Nat)(x:C)(hx:xs[j]? =some x): ∃v,vs.toArray[0+j]? =some v∧RepC ρ w Z x v:=by
 have hj:j<vs.length:=by rw[←h.1];exact(jzg.1 hx).1
 exact⟨vs[j],by simp[hj],h.2 j x _ hx (AD hj)⟩
theorem jdf{t:TypeId}{i:TI}{info:TypeInfo}{d:TypeDesc}(ht:TyOk P t i info d)(hf:i.flat=true){xs ys:List C}{vs us:List Value}(hx:RepL (RepC ρ w Z) xs vs)(hy:RepL (RepC ρ w Z) ys us){b:Bool}(he:Ey i.zero xs ys=some b):
  (Op.equalIn 10000 t (.agg vs.toArray) (.agg us.toArray)).run P w= .ok b w∧P.eqGuardType P.depth t=false:=by
 have hfl:=ht.flat hf;unfold Mv at hfl;simp only[AR,Bool.not_eq_true']at hfl;obtain⟨hg,hfl⟩:=hfl;refine⟨?_,hg⟩;cases d<;>simp only[Bool.false_eq_true]at hfl
 case array n e=>
  simp only[AR,decide_eq_true_eq,jzy]at hfl;obtain⟨⟨rfl,hc⟩,hz⟩:=hfl;by_cases h0:i.zero=[]
  ·rw[h0]at he ht
   have hxs:xs=[]:=by cases xs<;>cases ys<;>simp[Ey]at he ⊢
   have hb:true=b:=by cases xs<;>cases ys<;>simp[Ey]at he;first|exact he|exact he.symm
   have hu:=ht.und;subst hb;cases hi:P.info? e with
   |none=>simp[Program.cellsOf,hi]at hc
   |some ie=>
    rw[show(10000:Nat)=9999+1 from rfl,run_equalIn_array w 9999 _ _ hu hi]
    simp[Op.eqItems]
  ·cases hi:P.info? e with
   |none=>simp[Program.cellsOf,hi]at hc
   |some ie=>
    rw[show(10000:Nat)=9999+1 from rfl,run_equalIn_array w 9999 _ _ ht.und hi,hc,List.range_eq_range']
    exact TJ 9998 _ _ i.zero xs ys 0 b hz (Jk hx) (Jk hy) he
 case struct fs=>
  simp only[AR,Bool.not_eq_true',decide_eq_true_eq,jzy]at hfl;obtain⟨⟨hs,hl⟩,hall⟩:=hfl;have hfo:P.fieldsOf t=fs:=by simp[Program.fieldsOf,ht.und]
  rw[show(10000:Nat)=9999+1 from rfl,run_equalIn_struct w 9999 t _ _ (by rw[hfo];exact ht.und) hs,hfo]
  refine Tg 9998 _ _ i.zero xs ys fs.toList 0 b (by simpa using hl) (fun j f hf=> ?_) (Jk hx) (Jk hy) he
  have hm:(f,j)∈fs.toList.zipIdx:=by
   rw[List.mem_iff_getElem?]
   exact⟨j,by simp[List.getElem?_zipIdx,hf]⟩
  have:=hall _ hm
  simp only[AR,decide_eq_true_eq]at this;obtain⟨⟨h1,h2⟩,h3⟩:=this;exact⟨h1,by omega,h3⟩
end
end Go.Va
