/- a part of the proof -/
import Derived.Test.YtlgoebgnbkhmmaaGreatDoorZap
import Derived.Test.YtlgoebgnbkhmmaaGreatDoorZar
import Derived.Test.YtlgoebgnbkhmmaaGreatDoorZzL
import Derived.Test.YtlgoebgnbkhmmaaGreatDoorZao
set_option linter.all false
set_option maxHeartbeats 4000000
set_option maxRecDepth 10000
namespace Go.Va
open Int renaming natCast_add → qA, natCast_mul → qB, natCast_emod → qC, natCast_ediv → qD, natCast_pow → qE
open List renaming reduceReplicate → qF
open Go.Proofs
def Q2:List (List Nat):=(Ah [0,0,0,0,12,28,63,0,0,256,1023])
@[simp]def Sh:List Seg:=[.any [] [] (Aq [[2],[7],[7],[5],[80,81],[82],[78,79,83],[3],[9],[86]]),.one]
def OU:List (List Nat):=(Ah [0,0,0,0,12,28,63,0,255])
@[simp]def Q7:List Seg:=[.any [] [] (Aq [[2],[7],[7],[5],[93,94],[95],[91,92,96],[3]]),.one]
theorem jkB{w v:List Nat}(hw:Ok w)(hv:Ok v)(hl:w.length=v.length+1)(hn:2≤v.length)(h1:32768≤v.getD (v.length - 1) 0)(hQ:val w<65536*val v):(w.getD v.length 0*65536+w.getD (v.length - 1) 0)/v.getD (v.length - 1) 0≤65537:=by
 obtain⟨eV,lV⟩:=Hm rfl hn hv
 obtain⟨eW,lW⟩:=MD hl hn hw
 have hp:0<65536^(v.length - 2):=Nat.pow_pos (by omega)
 have hv2:v.getD (v.length - 2) 0<65536:=by
  rw[AL,AD (by omega)];exact hv _ (AZ _)
 exact Ni eW eV lV hv2 hQ h1 hp
theorem jf2{w v:List Nat}(hw:Ok w)(hv:Ok v)(hl:w.length=v.length+1)(hn:2≤v.length)(h1:32768≤v.getD (v.length - 1) 0)(hQ:val w<65536*val v):
  (D7 (v.getD (v.length - 1) 0) (w.getD (v.length - 2) 0) (v.getD (v.length - 2) 0) 65538 ((w.getD v.length 0*65536+w.getD (v.length - 1) 0)/v.getD (v.length - 1) 0) ((w.getD v.length 0*65536+w.getD (v.length - 1) 0)%v.getD (v.length - 1) 0)).1≤65536:=by
 obtain⟨eV,lV⟩:=Hm rfl hn hv
 obtain⟨eW,lW⟩:=MD hl hn hw
 have hp:0<65536^(v.length - 2):=Nat.pow_pos (by omega)
 have hV0:0<val v:=by
  have:1*(65536*65536^(v.length - 2))≤v.getD (v.length - 1) 0*(65536*65536^(v.length - 2)):=BC _ (by omega)
  omega
 have hd: ∀(l:List Nat) i,Ok l→l.getD i 0<65536:=fun l i hl=>by
  rcases Nat.lt_or_ge i l.length with hi|hi
  ·rw[AL,AD hi];exact hl _ (AZ hi)
  ·rw[AL,B9 hi];simp
 have g1:=QI eW eV lW (hd w _ hw) (by omega)
 have g2:=Ni eW eV lV (hd v _ hv) hQ h1 hp;have hqr:(w.getD v.length 0*65536+w.getD (v.length - 1) 0)/v.getD (v.length - 1) 0*v.getD (v.length - 1) 0+(w.getD v.length 0*65536+w.getD (v.length - 1) 0)%v.getD (v.length - 1) 0=w.getD v.length 0*65536+w.getD (v.length - 1) 0:=by
  rw[Nat.mul_comm]
  exact Nat.div_add_mod _ _
 have a:=K8 eW eV lW lV (hd v _ hv) hQ hV0 (by omega) 65538 _ _ hqr g2 g1 (by omega)
 have:val w/val v<65536:=by rw[Nat.div_lt_iff_lt_mul hV0];exact hQ
 omega
theorem KJ{α β:Type}(f:α→β)(k:Nat)(s l:List α):splice k (s.map f) (l.map f)=(splice k s l).map f:=by
 unfold splice;simp
theorem Sx(w v:List Nat)(q:Nat):EA w v q=if 0<(subL q w v 0 0).2.1 then (q - 1,(addL (subL q w v 0 0).1 v 0).1) else (q,(subL q w v 0 0).1):=rfl
theorem PK{q:Nat}{w v:List Nat}(hq:q≤65536)(hw:Ok w)(hv:Ok v)(hl:v.length≤w.length)(h:0<(subL q w v 0 0).2.1):0<q:=by
 rcases Nat.eq_zero_or_pos q with h0|h0
 ·subst h0
  exfalso
  obtain⟨s1,s2,s3,s4⟩:=GO hq w v 0 0 hw hv hl (by omega) (by omega)
  have hlt:=Bz _ s1;rw[EE]at hlt;rw[Nat.zero_mul]at s4;generalize subL 0 w v 0 0=S at*;obtain⟨a,b,c⟩:=S;simp only at*;generalize 65536^w.length=P at*;have:P*1≤P*(b+c):=Nat.mul_le_mul_left _ (by omega)
  have e:(P:Int)*((b:Int)+c)=((P*(b+c):Nat):Int):=by
   rw[Int.natCast_mul,Int.natCast_add]
  rw[e]at s4
  omega
 ·exact h0
theorem RL{α:Type}(k:Nat)(s l:List α)(h:k+s.length≤l.length):AP k s.length (splice k s l)=s:=by
 unfold AP splice;have hk:(l.take k).length=k:=by rw[A8];omega
 rw[List.append_assoc,List.drop_append,hk,DU (by omega:(l.take k).length≤k),Nat.sub_self,List.nil_append,List.drop_zero,List.take_append,Ba (AO _),Nat.sub_self,List.take_zero,List.append_nil]
theorem UX{α:Type}(k:Nat)(a s l:List α)(ha:a.length=s.length)(h:k+s.length≤l.length):splice k a (splice k s l)=splice k a l:=by
 apply List.ext_getElem?
 intro j;have hl:(splice k s l).length=l.length:=by
  unfold splice;simp only[List.length_append,A8,List.length_drop];omega
 rw[Df _ _ _ (by omega),Df _ _ _ (by omega),Df _ _ _ (by omega),ha]
 split<;>rfl
theorem Nl{α:Type}(k:Nat)(s l:List α)(h:k+s.length≤l.length):(splice k s l).length=l.length:=by
 unfold splice;simp only[List.length_append,A8,List.length_drop];omega
theorem VI{u v:List Nat}(hu:Ok u)(hv:Ok v)(hn:2≤v.length)(h1:32768≤v.getD (v.length - 1) 0)(hl:v.length<u.length)(ht:val (u.drop (u.length - v.length))<val v)(M:Nat)(hM:M=u.length - v.length):
  ∃(UU OO:Nat→List Nat) (J:Nat→Int),UU 0=u∧OO 0=List.replicate M 0∧UU M=(Cs u v M).1∧
  (∀k (_:k<M) (j:Nat),J k=j→UU (k+1)=splice j (CT (AP j (v.length+1) (UU k)) v).2 (UU k))∧
  (∀k (_:k<M) (j:Nat),J k=j→OO (k+1)=(OO k).set j (CT (AP j (v.length+1) (UU k)) v).1)∧
  J 0=(M:Int) - 1∧(∀k,k<M→ ∃j:Nat,J k=j∧j+1+k=M)∧J M= -1∧(∀k,k<M→J (k+1)=J k - 1)∧((OO M).length=M∧Ok (OO M)∧val (OO M)=val u/val v)∧
  ∀k,k<M→(UU k).length=u.length∧(OO k).length=M∧Ok (UU k)∧ ∀j:Nat,J k=j→val (AP j (v.length+1) (UU k))<65536*val v∧(AP j (v.length+1) (UU k)).length=v.length+1∧Ok (AP j (v.length+1) (UU k))∧(CT (AP j (v.length+1) (UU k)) v).1<65536:=by
 subst hM;have key: ∀k (_:k<u.length - v.length) (j:Nat),((u.length - v.length:Nat):Int) - 1 - k=j→j=u.length - v.length - 1 - k:=fun k hk j hj=>by omega
 refine⟨fun k=>(Cs u v k).1,fun k=>(Cs u v k).2,fun k=>((u.length - v.length:Nat):Int) - 1 - k,rfl,rfl,rfl,fun k hk j hj=> ?_,fun k hk j hj=> ?_,by simp,fun k hk=>⟨u.length - v.length - 1 - k,by simp only;omega,by omega⟩,by simp only;omega,fun k hk=>by simp only;omega,⟨(Gj hu hv hn h1 hl ht _ (AO _)).lo,(Gj hu hv hn h1 hl ht _ (AO _)).oo,(K9 hu hv hn h1 hl ht).1⟩,fun k hk=> ?_⟩
 ·rw[key k hk j hj];rfl
 ·rw[key k hk j hj];rfl
 ·have hs:=Gj hu hv hn h1 hl ht k (by omega)
  refine⟨hs.lu,hs.lo,hs.ou,fun j hj=> ?_⟩
  rw[key k hk j hj]
  have:=Pj hv hn h1 hk hs
  exact⟨this.2.1,this.2.2.1,this.2.2.2.1,this.2.2.2.2⟩
theorem jet(i:Nat)(cs:List Nat)(app:Bool)(u v:List Nat)(R0:List (Nat×Blk))(hR: ∀j b,lk j R0=some b→j≠i∧ ∃sz cs app,b= .row sz cs app)
  (hu:Ok u) (hv:Ok v) (hn:2≤v.length) (h1:32768≤v.getD (v.length - 1) 0) (hl:v.length<u.length) (ht:val (u.drop (u.length - v.length))<val v) (hul:u.length≤1000) (hcut:AP 0 u.length cs=u) (hoff:u.length≤cs.length):
  Fw Tryz.prog 386 (.c (.sl i 0 u.length)::[Ad v].map fun d=> .c (.d d)) ((i,.row 1 (cs.map u16) app)::R0)
   ((i,.row 1 (splice (0*1) ((Cs u v (u.length - v.length)).1.map u16) (cs.map u16)) app)::R0) (.u (.c (.d (Ad (limbs (val u/val v)))))):=by
 have hst:=Gj hu hv hn h1 hl ht;have hend:=hst _ (AO _);have hval:=K9 hu hv hn h1 hl ht;refine YK (T:=tb) Ak mixed Tryz.func386 rfl (by decide) (Al rfl) rfl rfl ?_ ?_ ?_ ?_ ?_ ?_
 ·omega
 ·simp;omega
 ·simp[hend.lu]
 ·intro x hx;obtain⟨y,_,rfl⟩:=jzk.1 hx;rfl
 ·exact hR
 ·have ec:AP (0*1) (u.length*1) (cs.map u16)=u.map u16:=by
   rw[Nat.mul_one,Nat.mul_one]
   unfold AP at hcut ⊢;rw[←List.map_drop,←List.map_take,hcut]
  rw[ec]
  unfold St.initS;have e0:(u.length:Int) - v.length=((u.length - v.length:Nat):Int):=by omega
  simp -implicitDefEqProofs[jJ,-qA,-qB,-qC,-qD,-qE,-List.map_set,BK,e0];refine⟨by omega,by omega,by omega,by omega,?_⟩
  obtain⟨M,hM⟩: ∃M,M=u.length - v.length:=⟨_,rfl⟩
  obtain⟨UU,OO,J,hU0,hO0,hUn,hUs,hOs,hJ0,hJ,hJn,hJs,⟨hOl,hOo,hOv⟩,hok⟩:=VI hu hv hn h1 hl ht M hM
  rw[←hM,←hUn]
  refine AV (fun k:Nat=>⟨[(7,vC (.ptr 7 0)),(6,vC (.sl 18 0 M)),(5,vC (.ptr 5 0)),(3,vC (.ptr 3 0)),(2,vC (.ptr 2 0)),(0,vC (.sl 2000000 0 u.length))],
   [(7,.box [.d (.int .i64 (J k))]),(18,.row 1 ((OO k).map u16) true),(5,.box [.d (.int .i64 v.length)]),(3,.box [.d (Ad v)]),(2,.box [.sl 2000000 0 u.length]),(2000000,.row 1 ((UU k).map u16) false)]⟩) (fun k=>k≤M) (fun k=>M - k) 0 (by simp[AW,lk,St.le,vI,vC,hU0,hO0,hJ0,u16,hM]) (by omega) ?_
  rintro k hk
  by_cases h:k<M
  ·obtain⟨j,hj,hj2⟩:=hJ k h
   have hjs:=hJs k h;obtain⟨hul2,hol,hou,hok⟩:=hok k h;obtain⟨hQ,wl,ow,hq16⟩:=hok j hj;have hU1:=hUs k h j hj;have hO1:=hOs k h j hj;rw[hj]at hjs ⊢;generalize UU k=U at*;generalize OO k=O at*;generalize hw:AP j (v.length+1) U=w at*;have gw: ∀t,t<v.length+1→U[j+t]? =some (w.getD t 0):=fun t ht=>by
    rw[←hw]
    unfold AP;rw[AL,List.getElem?_take,if_pos ht,List.getElem?_drop,AD (by omega)]
    rfl
   have gl: ∀t,w.getD t 0<65536:=fun t=>by
    rcases Nat.lt_or_ge t w.length with hi|hi
    ·rw[AL,AD hi];exact ow _ (AZ hi)
    ·rw[AL,B9 hi];simp
   have gv:v[v.length - 1]? =some (v.getD (v.length - 1) 0):=by
    rw[AL,AD (by omega)];rfl
   have lv:v.getD (v.length - 1) 0<65536:=by
    rw[AL,AD (by omega)];exact hv _ (AZ _)
   have g1:=gw v.length (by omega)
   have g2:=gw (v.length - 1) (by omega)
   rw[show j+(v.length - 1)=j+v.length - 1 by omega]at g2
   have n1:((j+v.length:Nat):Int) - 1=((j+v.length - 1:Nat):Int):=by omega
   have n2:(v.length:Int) - 1=((v.length - 1:Nat):Int):=by omega
   have eo:CT w v=EA w v (D7 (v.getD (v.length - 1) 0) (w.getD (v.length - 2) 0) (v.getD (v.length - 2) 0) 65538 ((w.getD v.length 0*65536+w.getD (v.length - 1) 0)/v.getD (v.length - 1) 0) ((w.getD v.length 0*65536+w.getD (v.length - 1) 0)%v.getD (v.length - 1) 0)).1:=rfl
   have gb:=jkB ow hv wl hn h1 hQ;have gf:=jf2 ow hv wl hn h1 hQ;have e2:U.getD (j+v.length - 2) 0=w.getD (v.length - 2) 0:=by
    have:=gw (v.length - 2) (by omega)
    rw[show j+(v.length - 2)=j+v.length - 2 by omega]at this
    rw[AL,this]
    rfl
   have l1:=gl v.length;have l2:=gl (v.length - 1);generalize w.getD v.length 0=wn at*;generalize w.getD (v.length - 1) 0=w1 at*;generalize v.getD (v.length - 1) 0=v1 at*;have oh:=QM wn w1 (by omega) l2
   have m1:wn%18446744073709551616=wn:=AX (by omega)
   have m2:w1%18446744073709551616=w1:=AX (by omega)
   have m3:v1%18446744073709551616=v1:=AX (by omega)
   simp -implicitDefEqProofs[jJ,-qA,-qB,-qC,-qD,-qE,-List.map_set];refine AA (Ah [0,0,0,6,15,31,63,127,0,0,0,1536,3584,7936,16128,32512,65535,131071]) [.any [] [] (Aq [[2],[7],[5],[29,30],[28,31],[32],[33],[34],[2],[7],[5],[37,38],[39],[36,40],[41],[42]]),.one,.one] (by rfl) ?_
   simp -implicitDefEqProofs[jJ,-qA,-qB,-qC,-qD,-qE,-List.map_set,g1,g2,n1,oh,m1,m2,u16];refine⟨by omega,by omega,by omega,by omega,by omega,?_⟩
   refine AA (Ah [0,0,0,4,14,30,62,127,0,0,0,1024,3584,7680,15872,32512,0,0,196863,524287]) [.any [] [9,10] [⟨0,[8],[9,10],[9,10],[]⟩,⟨0,[3],[9,10],[9,10],[]⟩,⟨0,[5],[9,10],[9,10],[]⟩,⟨0,[47],[9,10],[9,10],[]⟩,⟨0,[46,48],[9,10],[9,10],[]⟩,⟨0,[49],[9,10],[9,10],[]⟩,⟨0,[50],[9,10],[9,10],[]⟩,⟨0,[45,51],[9,10],[9,10],[]⟩,⟨0,[8],[9,10],[9,10],[]⟩,⟨0,[3],[9,10],[9,10],[]⟩,⟨0,[5],[9,10],[9,10],[]⟩,⟨0,[55],[9,10],[9,10],[]⟩,⟨0,[54,56],[9,10],[9,10],[]⟩,⟨0,[57],[9,10],[9,10],[]⟩,⟨0,[58],[9,10],[9,10],[]⟩,⟨0,[53,59],[9,10],[9,10],[]⟩,⟨1,[],[10],[10],[]⟩,⟨1,[],[9],[9],[]⟩,⟨2,[9,52],[],[],[9]⟩],.one] (by rfl) ?_
   have nz: ¬v1=0:=by omega
   have q32:(wn*65536+w1)/v1%18446744073709551616=(wn*65536+w1)/v1:=AX (by omega)
   have r16:(wn*65536+w1)%v1<v1:=Nat.mod_lt _ (by omega)
   simp -implicitDefEqProofs[jJ,-qA,-qB,-qC,-qD,-qE,-List.map_set,gv,n2,m3,nz,u16,q32];refine⟨by omega,by omega,by omega,by omega,?_⟩
   clear q32;generalize (wn*65536+w1)/v1=q0 at*;generalize (wn*65536+w1)%v1=r0 at*;generalize w.getD (v.length - 2) 0=w2 at*;obtain⟨Q,R,hQt,hRt⟩: ∃Q R:Nat→Nat,(∀t,Q t=q0 - t)∧ ∀t,R t=r0+t*v1:=⟨fun t=>q0 - t,fun t=>r0+t*v1,fun _=>rfl,fun _=>rfl⟩
   have hQ0:=hQt 0;have hR0:=hRt 0;obtain⟨v2,hv2e⟩: ∃v2,v2=v.getD (v.length - 2) 0:=⟨_,rfl⟩;rw[←hv2e]at eo gf;generalize hA:D7 v1 w2 v2 65538 q0 r0=A at*;refine AV (fun t:Nat=>⟨[(9,vC (.ptr 9 0)),(10,vC (.ptr 10 0)),(11,.u (.clo 410 [.ptr 9 0,.ptr 3 0,.ptr 5 0,.ptr 10 0,.ptr 2 0,.ptr 7 0])),(7,vC (.ptr 7 0)),(6,vC (.sl 18 0 M)),(5,vC (.ptr 5 0)),(3,vC (.ptr 3 0)),(2,vC (.ptr 2 0)),(0,vC (.sl 2000000 0 u.length))],
    [(9,.box [.d (.int .u64 (Q t))]),(10,.box [.d (.int .u64 (R t))]),(7,.box [.d (.int .i64 j)]),(18,.row 1 (O.map u16) true),(5,.box [.d (.int .i64 v.length)]),(3,.box [.d (Ad v)]),(2,.box [.sl 2000000 0 u.length]),(2000000,.row 1 (U.map u16) false)]⟩)
    (fun t=>t≤q0∧D7 v1 w2 v2 (65538 - t) (Q t) (R t)=A∧R t≤131070) (fun t=>q0 - t) 0 (by simp[AW,lk,St.le,vI,vC,hQ0,hR0]) ⟨by omega,by rw[hQ0,hR0];simpa using hA,by omega⟩ ?_
   rintro t ⟨ht1,ht2,ht3⟩
   have hQ1:=hQt t;have hQ2:=hQt (t+1);have hR1:=hRt t;have hR2:=hRt (t+1);rw[Nat.add_mul,Nat.one_mul]at hR2;have ef:65538 - t=(65537 - t)+1:=by omega
   rw[ef,D7]at ht2
   by_cases c1:R t<65536
   ·have kg:=jkn (Q t) (R t) v.length j U v hn rfl (by omega) (by omega) hou hv (by omega) c1
    rw[e2,←hv2e]at kg
    have eg:(decide (65536≤Q t)||decide (R t*65536+w2<Q t*v2))=Fu (Q t) (R t) w2 v2:=rfl
    rw[eg]at kg
    have et:List.take u.length (List.map u16 U)=List.map u16 U:=Ba (by simp[hul2])
    have en:D.slice u.length (List.map u16 U)=Ad U:=by
     show _=D.slice U.length _
     rw[hul2]
    simp -implicitDefEqProofs[jJ,-qA,-qB,-qC,-qD,-qE,-List.map_set,c1,et,en];refine .inl ⟨by omega,_,kg,?_⟩
    cases hg:Fu (Q t) (R t) w2 v2 with
    |false=>
     rw[if_neg (by simp[hg])]at ht2
     simp -implicitDefEqProofs[jJ,-qA,-qB,-qC,-qD,-qE,-List.map_set];have hr:CT w v=EA w v (Q t):=by rw[eo,←ht2]
     have hq6:Q t≤65536:=by rw[←ht2]at gf;exact gf
     have hw0:w≠[]:=by intro e;rw[e]at wl;simp at wl
     have hcw:AP j w.length U=w:=by rw[wl];exact hw
     have q1:=OB 2000000 j U false w v (Q t) [] (fun j b h=>by cases h) (.d (Ad v)) (.inl rfl) ow hv hw0 (by omega) (by omega) hq6 hcw (by omega)
     have sj:j+v.length+1 - j=w.length:=by omega
     have mq:Q t%4294967296=Q t:=AX (by omega)
     have hd:=Sx w v (Q t);rw[←hr]at hd;have sp: ∀s:List Nat,s.length=w.length→splice (j*1) (s.map u16) (U.map u16)=(splice j s U).map u16:=fun s _=>by rw[Nat.mul_one];exact KJ u16 j s U
     rw[sp _ (EE _ _ _ _ _)]at q1
     have hsp:=PK hq6 ow hv (by omega:v.length≤w.length)
     have hsl:=EE (Q t) w v 0 0;have hso:=(GO hq6 w v 0 0 ow hv (by omega) (by omega) (by omega)).1
     generalize subL (Q t) w v 0 0=S at*;obtain⟨s,b,c⟩:=S;simp only at hd q1 hsp hsl hso;have r1:=Rk 2000000 j (splice j s U) false s v [] (fun j b h=>by cases h) (.d (Ad v)) (.inl rfl) hso hv (by intro e;rw[e]at hsl;simp at hsl;omega) (by omega) (by omega) (RL j s U (by omega)) (by rw[Nl _ _ _ (by omega)];omega)
     rw[Nat.mul_one,KJ,UX j _ s U (G5 _ _ _) (by omega),hsl]at r1
     refine AA Q2 Sh (by rfl) ?_
     simp -implicitDefEqProofs[jJ,-qA,-qB,-qC,-qD,-qE,-List.map_set,sj,mq];refine⟨by omega,by omega,by omega,.inr (.inl (Hn q1 (by simp[DB,Go.Va.U.all,C.id?]) (by simp[lk]) ?_))⟩
     simp -implicitDefEqProofs[jJ,-qA,-qB,-qC,-qD,-qE,-List.map_set,St.backW];refine⟨fun hb=> ?_,fun hb=> ?_⟩
     ·have hb':0<b:=by omega
      have hqp:=hsp hb';rw[if_pos hb']at hd;rw[hd]at hU1 hO1 hq16;simp only at hU1 hO1 hq16;have sq:((Q t:Int) - 1)%18446744073709551616=((Q t - 1:Nat):Int):=by omega
      have mo:(Q t - 1)%65536=Q t - 1:=AX hq16
      simp -implicitDefEqProofs[jJ,-qA,-qB,-qC,-qD,-qE,-List.map_set,sq];refine AA OU Q7 (by rfl) ?_
      simp -implicitDefEqProofs[jJ,-qA,-qB,-qC,-qD,-qE,-List.map_set,sj];refine⟨by omega,by omega,by omega,.inr (.inl (Hn r1 (by simp[DB,Go.Va.U.all,C.id?]) (by simp[lk]) ?_))⟩
      simp -implicitDefEqProofs[jJ,-qA,-qB,-qC,-qD,-qE,-List.map_set,St.backW,mo];refine⟨by omega,by omega,by omega,k+1,⟨by rw[hjs],?_,by rw[hU1]⟩,by omega,by omega⟩
      rw[Ck _ _ _ (by omega),hO1]
     ·have hb': ¬0<b:=by omega
      rw[if_neg hb']at hd
      rw[hd]at hU1 hO1 hq16
      simp only at hU1 hO1 hq16;have mo:Q t%65536=Q t:=AX hq16;simp -implicitDefEqProofs[jJ,-qA,-qB,-qC,-qD,-qE,-List.map_set,mo];refine⟨by omega,by omega,by omega,k+1,⟨by rw[hjs],?_,by rw[hU1]⟩,by omega,by omega⟩
      rw[Ck _ _ _ (by omega),hO1]
    |true=>
     rw[if_pos ⟨c1,hg⟩]at ht2
     have hpos:0<Q t:=by
      rcases Nat.eq_zero_or_pos (Q t)with h0|h0
      ·rw[h0]at hg;simp[Fu]at hg
      ·exact h0
     have sq:((Q t:Int) - 1)%18446744073709551616=(Q (t+1):Nat):=by omega
     have rr:(R t+v1)%18446744073709551616=R (t+1):=by omega
     simp -implicitDefEqProofs[jJ,-qA,-qB,-qC,-qD,-qE,-List.map_set,sq];refine AA (Ah [0,0,0,4,14,30,62,127,255]) [.any [] [] (Aq [[10],[3],[5],[72],[71,73],[74],[75]]),.one,.one] (by rfl) ?_
     simp -implicitDefEqProofs[jJ,-qA,-qB,-qC,-qD,-qE,-List.map_set,gv,n2,m3,u16,rr];refine⟨by omega,by omega,t+1,⟨rfl,rfl⟩,⟨by omega,?_,by omega⟩,by omega⟩
     rw[show 65538 - (t+1)=65537 - t by omega,show Q (t+1)=Q t - 1 by omega,show R (t+1)=R t+v1 by omega]
     exact ht2
   ·rw[if_neg (by simp[c1])]at ht2
    simp -implicitDefEqProofs[jJ,-qA,-qB,-qC,-qD,-qE,-List.map_set,c1];have hr:CT w v=EA w v (Q t):=by rw[eo,←ht2]
    have hq6:Q t≤65536:=by rw[←ht2]at gf;exact gf
    have hw0:w≠[]:=by intro e;rw[e]at wl;simp at wl
    have hcw:AP j w.length U=w:=by rw[wl];exact hw
    have q1:=OB 2000000 j U false w v (Q t) [] (fun j b h=>by cases h) (.d (Ad v)) (.inl rfl) ow hv hw0 (by omega) (by omega) hq6 hcw (by omega)
    have sj:j+v.length+1 - j=w.length:=by omega
    have mq:Q t%4294967296=Q t:=AX (by omega)
    have hd:=Sx w v (Q t);rw[←hr]at hd;have sp: ∀s:List Nat,s.length=w.length→splice (j*1) (s.map u16) (U.map u16)=(splice j s U).map u16:=fun s _=>by rw[Nat.mul_one];exact KJ u16 j s U
    rw[sp _ (EE _ _ _ _ _)]at q1
    have hsp:=PK hq6 ow hv (by omega:v.length≤w.length)
    have hsl:=EE (Q t) w v 0 0;have hso:=(GO hq6 w v 0 0 ow hv (by omega) (by omega) (by omega)).1
    generalize subL (Q t) w v 0 0=S at*;obtain⟨s,b,c⟩:=S;simp only at hd q1 hsp hsl hso;have r1:=Rk 2000000 j (splice j s U) false s v [] (fun j b h=>by cases h) (.d (Ad v)) (.inl rfl) hso hv (by intro e;rw[e]at hsl;simp at hsl;omega) (by omega) (by omega) (RL j s U (by omega)) (by rw[Nl _ _ _ (by omega)];omega)
    rw[Nat.mul_one,KJ,UX j _ s U (G5 _ _ _) (by omega),hsl]at r1
    refine AA Q2 Sh (by rfl) ?_
    simp -implicitDefEqProofs[jJ,-qA,-qB,-qC,-qD,-qE,-List.map_set,sj,mq];refine⟨by omega,by omega,by omega,.inr (.inl (Hn q1 (by simp[DB,Go.Va.U.all,C.id?]) (by simp[lk]) ?_))⟩
    simp -implicitDefEqProofs[jJ,-qA,-qB,-qC,-qD,-qE,-List.map_set,St.backW];refine⟨fun hb=> ?_,fun hb=> ?_⟩
    ·have hb':0<b:=by omega
     have hqp:=hsp hb';rw[if_pos hb']at hd;rw[hd]at hU1 hO1 hq16;simp only at hU1 hO1 hq16;have sq:((Q t:Int) - 1)%18446744073709551616=((Q t - 1:Nat):Int):=by omega
     have mo:(Q t - 1)%65536=Q t - 1:=AX hq16
     simp -implicitDefEqProofs[jJ,-qA,-qB,-qC,-qD,-qE,-List.map_set,sq];refine AA OU Q7 (by rfl) ?_
     simp -implicitDefEqProofs[jJ,-qA,-qB,-qC,-qD,-qE,-List.map_set,sj];refine⟨by omega,by omega,by omega,.inr (.inl (Hn r1 (by simp[DB,Go.Va.U.all,C.id?]) (by simp[lk]) ?_))⟩
     simp -implicitDefEqProofs[jJ,-qA,-qB,-qC,-qD,-qE,-List.map_set,St.backW,mo];refine⟨by omega,by omega,by omega,k+1,⟨by rw[hjs],?_,by rw[hU1]⟩,by omega,by omega⟩
     rw[Ck _ _ _ (by omega),hO1]
    ·have hb': ¬0<b:=by omega
     rw[if_neg hb']at hd
     rw[hd]at hU1 hO1 hq16
     simp only at hU1 hO1 hq16;have mo:Q t%65536=Q t:=AX hq16;simp -implicitDefEqProofs[jJ,-qA,-qB,-qC,-qD,-qE,-List.map_set,mo];refine⟨by omega,by omega,by omega,k+1,⟨by rw[hjs],?_,by rw[hU1]⟩,by omega,by omega⟩
     rw[Ck _ _ _ (by omega),hO1]
  ·have hk2:M=k:=by omega
   subst hk2;rw[hJn];have kt:=B2 (OO M) hOo (by omega)
   rw[hOv]at kt
   have et:List.take M (List.map u16 (OO M))=List.map u16 (OO M):=Ba (by simp[hOl])
   have en:D.slice M (List.map u16 (OO M))=Ad (OO M):=by
    show _=D.slice (OO M).length _
    rw[hOl]
   simp -implicitDefEqProofs[jJ,-qA,-qB,-qC,-qD,-qE,-List.map_set,et,en];refine .inl ⟨by omega,_,kt,?_⟩
   simp -implicitDefEqProofs[jJ,-qA,-qB,-qC,-qD,-qE,-List.map_set];exact⟨.inl rfl,by simp[lk,BK,vC],by simp[lk,BK],vC (.d _),rfl,.inr ⟨_,rfl,rfl⟩⟩
end Go.Va
namespace Go.Va
open Go.Proofs
def RC.dat:RC→RC
 | .d x=> .d x
 | .own sz n cs=> .d (.slice n (cs.take (n*sz)))
def RU.dat:RU→RU
 | .c x=> .c x.dat
 | .agg cs=> .agg (cs.map RC.dat)
def R.dat:R→R
 | .u x=> .u x.dat
 | .tup xs=> .tup (xs.map RU.dat)
theorem RC.dat_rows(x:RC):x.dat.rows=[]:=by cases x<;>rfl
theorem RU.dat_rows(x:RU):x.dat.rows=[]:=by
 cases x with
 |c x=>exact RC.dat_rows x
 |agg cs=>exact List.flatMap_eq_nil_iff.2 fun y hy=>by obtain⟨z,_,rfl⟩:=jzk.1 hy;exact RC.dat_rows z
theorem R.dat_rows(x:R):x.dat.rows=[]:=by
 cases x with
 |u x=>exact RU.dat_rows x
 |tup cs=>exact List.flatMap_eq_nil_iff.2 fun y hy=>by obtain⟨z,_,rfl⟩:=jzk.1 hy;exact RU.dat_rows z
section
variable [Gv] {w w':World} {Z:Addr→Prop} {k:Nat} {o:Own} {bs:List Blk}
theorem RC.dat_rep(hZ: ∀ad,Z ad→ad.block<w.heap.size)(ho: ∀ad,o.has ad→w.heap.size≤ad.block)
  (hh:Heap (B3 k bs o) w' Z (match bs with|[]=>[]|b::_=>[(k,b)])) (hb:bs.length≤1) {x:RC} {v:Value} (hx: ∀b∈x.rows,b∈bs)
  (h:RepC (B3 k bs o) w' Z (x.imp k) v) (ρ:AE) (hρ: ∀i,ρ i=none):RepC ρ w' Z (x.dat.imp k) v:=by
 have hk:Keep w' w' (Ar (B3 k bs o) Z) (Ar ρ Z):=Keep.mono fun a ha=>by
  rcases ha with ha|⟨i,o',hi,_⟩
  ·exact .inl ha
  ·rw[hρ]at hi;cases hi
 cases x with
 |d x=>exact RepD.keep hk h
 |own sz n cs=>
  have hm:(Blk.row sz cs true)∈bs:=hx _ (by simp[RC.rows])
  obtain⟨b,rfl⟩: ∃b,bs=[b]:=by
   match bs,hb,hm with
   |[b],_,_=>exact⟨b,rfl⟩
  have hbe:Blk.row sz cs true=b:=by simpa using hm
  subst hbe;obtain⟨o1,h1,h2⟩:=hh.rep k _ (Bt k _ _);have e1:o1=o:=by
   unfold B3 at h1;simp only[if_true]at h1;exact(Bi h1).symm
  subst e1;obtain⟨hs,happ,hl,⟨hn1,hn2⟩,hc⟩:=h2;obtain⟨o2,h3,h4,h5⟩:=h;have e2:o2=o1:=by
   unfold B3 at h3;simp only[if_true]at h3;exact(Bi h3).symm
  subst e2
  show RepD w' (Ar ρ Z) (.slice n (cs.take (n*sz))) v
  rcases h5 with⟨h6,rfl,_,rfl⟩|⟨h6,a,c,rfl,h7,h8,h9,h10⟩
  ·have:(cs.take (0*sz))=[]:=by simp
   rw[this]
   exact .snil
  ·have key: ∀(j:Nat) (x:D),(cs.take (n*sz))[j]? =some x→cs[j]? =some x∧a=o2.at 0:=by
    intro j x hj;rw[List.getElem?_take]at hj;split at hj
    ·rename_i hlt
     refine⟨hj,?_⟩
     rcases h9 with h9|h9
     ·have:n=0:=by omega
      subst this;simp at hlt
     ·simpa using h9
    ·cases hj
   refine .slice n _ a c (fun j=>(w'.cell? ⟨a.block,a.off+j,none⟩).getD undef) ?_ h7 h8 ?_ ?_ ?_
   ·intro hne;obtain⟨x,hx⟩:=List.exists_mem_of_ne_nil _ hne;obtain⟨j,hj⟩:=List.getElem?_of_mem hx;rw[(key j x hj).2]
   all_goals
    intro j x hj;obtain⟨k1,k2⟩:=key j x hj;obtain⟨u,hu,hr⟩:=hc j x k1;subst k2;have he:(⟨(o2.at 0).block,(o2.at 0).off+j,none⟩:Addr)=o2.at j:=by simp[Own.at]
   ·rw[he,hu];rfl
   ·rw[he]
    have hin:o2.has (o2.at j):=by
     refine⟨by rw[hn2];exact h6,rfl,by simp[Own.at],?_⟩
     have:=(jzg.1 k1).1
     simp only[Own.at];rw[hs];omega
    rintro (hz|⟨i,o',hi,_⟩)
    ·have:=hZ _ hz;have:=ho _ hin;omega
    ·rw[hρ]at hi;cases hi
   ·rw[he,hu];exact RepD.keep hk hr
theorem RU.dat_rep(hZ: ∀ad,Z ad→ad.block<w.heap.size)(ho: ∀ad,o.has ad→w.heap.size≤ad.block)
  (hh:Heap (B3 k bs o) w' Z (match bs with|[]=>[]|b::_=>[(k,b)])) (hb:bs.length≤1) {x:RU} {v:Value} (hx: ∀b∈x.rows,b∈bs)
  (h:RepU (B3 k bs o) w' Z (x.imp k) v) (ρ:AE) (hρ: ∀i,ρ i=none):RepU ρ w' Z (x.dat.imp k) v:=by
 cases x with
 |c x=>exact RC.dat_rep hZ ho hh hb hx h ρ hρ
 |agg cs=>
  obtain⟨vs,h1,h2,h3⟩:=h
  refine⟨vs,h1,by simpa using h2,fun j y u hy hu=> ?_⟩
  simp only[Bf,jze]at hy;obtain⟨z,⟨z',hz',rfl⟩,rfl⟩:=hy;exact RC.dat_rep hZ ho hh hb (fun b hbm=>hx b (List.mem_flatMap.2 ⟨z',BY hz',hbm⟩)) (h3 j _ u (by simp[hz']) hu) ρ hρ
theorem R.dat_rep(hZ: ∀ad,Z ad→ad.block<w.heap.size){r:R}{v:Value}(h:Hb w w' Z r v):Hb w w' Z r.dat v:=by
 obtain⟨hb,o,ho,hr⟩:=h
 refine⟨by rw[R.dat_rows];simp,o,ho,fun k=> ?_⟩
 obtain⟨h1,hh⟩:=hr k
 rw[R.dat_rows]
 have hρ: ∀i,B3 k [] o i=none:=fun i=>rfl
 refine⟨?_,⟨⟨fun j o hj=>by(rw[hρ]at hj;cases hj),fun j j' o o' hj=>by(rw[hρ]at hj;cases hj),fun j o hj=>by(rw[hρ]at hj;cases hj)⟩,fun i b hb=>by cases hb⟩⟩
 cases r with
 |u x=>exact RU.dat_rep hZ ho hh hb (fun b h=>h) h1 _ hρ
 |tup cs=>
  obtain⟨vs,e1,h2,h3⟩:=h1
  refine⟨vs,e1,by simpa [R.dat,R.imp]using h2,fun j y u hy hu=> ?_⟩
  simp only[Bf,jze]at hy;obtain⟨z,⟨z',hz',rfl⟩,rfl⟩:=hy;exact RU.dat_rep hZ ho hh hb (fun b hbm=>List.mem_flatMap.2 ⟨z',BY hz',hbm⟩) (h3 j _ u (by simp[hz']) hu) _ hρ
theorem CallsF.dat{P:Program}{f:FuncId}{xs:List A}{r:R}(h:CallsF P f xs r):CallsF P f xs r.dat:=
 ⟨h.1,fun w Z vals hZ hv=>(h.2 w Z vals hZ hv).mono fun e w' ⟨v,h1,h2,h3⟩=>⟨v,h1,h2,R.dat_rep hZ h3⟩⟩
end
end Go.Va
