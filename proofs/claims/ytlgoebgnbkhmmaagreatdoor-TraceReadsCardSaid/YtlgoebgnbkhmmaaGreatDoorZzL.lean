/- a part of the proof -/
import Derived.Test.YtlgoebgnbkhmmaaGreatDoorZah
set_option linter.all false
namespace Go.Va
open Go.RowKit
variable [Gv]
section
variable {P:Program} {T:AH}
end
end Go.Va
namespace Go.Va
open Go.RowKit
variable [Gv]
def NO(h:List (Nat×Blk))(c:C)(d:D):Prop:=
 c= .d d∨ ∃v m sz cs app,c= .sl v 0 m∧lk v h=some (.row sz cs app)∧cs.length=m*sz∧d= .slice m cs
def St.initS(n sz:Nat)(cs:List D)(ds:List D):St:={ t:=(0,vC (.sl BK 0 n))::CJ 1 (ds.map .c),h:=[(BK,.row sz cs false)] }
def ja6(st:St)(v:V)(r:R):Prop:=
 (v= .tup []∧r= .tup [])∨(∃x:D,x.flat=true∧v=vC (.d x)∧r= .u (.c (.d x)))∨
 (∃j m sz cs app,v=vC (.sl j 0 m)∧j≠BK∧lk j st.h=some (.row sz cs app)∧cs.length=m*sz∧(∀x∈cs,D.flat x=true)∧r= .u (.c (.d (.slice m cs))))
def NZ(T:AH)(rs:List ResultVar)(n sz:Nat)(cs2:List D)(r:R)(e:Exit)(st:St):Prop:=
 (e= .ret∨e= .normal)∧lk 0 st.t=some (vC (.sl BK 0 n))∧lk BK st.h=some (.row sz cs2 false)∧ ∃v,st.res T rs=some v∧ja6 st v r
section
variable {P:Program} {T:AH}
theorem RY(hT:A5 P T)(hm:P.follows .mixedOrders=true){f:FuncId}{fn:Func}{c:Code}{i off n sz:Nat}{cs cs2:List D}{app:Bool}{R0:List (Nat×Blk)}{ws:List (C×D)}{r:R}
  (hf : P.funcs[f]? = some fn) (hb : fn.body = some c) (hname : (fn.name == "runtime.NumGoroutine") = false) (hn : ws.length + 1 ≤ fn.ntmps) (hok : B6 fn.ntmps [0] c = true) (hrr : r.rows = [])
  (h0:0<n) (hcs:off*sz+n*sz≤cs.length) (hc2:cs2.length=n*sz) (hfl: ∀x∈cs2,D.flat x=true)
  (hR: ∀j b,lk j R0=some b→j≠i∧ ∃sz cs app,b= .row sz cs app) (hv: ∀w∈ws,NO R0 w.1 w.2)
  (hw:Bl P T c (St.initS n sz (AP (off*sz) (n*sz) cs) (ws.map (·.2))) (NZ T fn.results.toList n sz cs2 r)):
  Fw P f (.c (.sl i off n)::ws.map fun w=> .c w.1) ((i,.row sz cs app)::R0) ((i,.row sz (splice (off*sz) cs2 cs) app)::R0) r:=by
 refine⟨⟨fn,hf,by rw[hb];rfl,hname⟩,hrr,fun w Z ρ vals hZ hh hcz hl0 hvals=> ?_⟩
 obtain⟨v0,vs,rfl⟩: ∃v0 vs,vals=v0::vs:=by
  have:=hvals.1
  match vals,this with
  |v0::vs,_=>exact⟨v0,vs,rfl⟩
 have hlen:vs.length=ws.length:=by have:=hvals.1;simp at this;omega
 obtain⟨o,ho,hroom,hcase⟩:RepC ρ w Z (.sl i off n) v0:=hvals.2 0 _ _ rfl rfl
 obtain⟨hnil,a,cap,rfl,hcap,hmax,hadr,happc⟩:o.nil=false∧ ∃a c,v0= .slice (some a) n c∧n≤c∧c≤maxLen∧(c=0∨a=o.at (off*o.sz))∧(o.app=true→off+c≤o.room):=by
  rcases hcase with⟨_,_,_,h⟩|h
  ·omega
  ·exact h
 obtain⟨o',ho',hbsz,hbapp,hblen,⟨hb1,hb2⟩,hbc⟩:=hh.rep i (.row sz cs app) (Bt _ _ _)
 rw[ho]at ho'
 cases ho'
 subst hbsz;have ha:a=o.at (off*o.sz):=by grind
 have hgone:o.gone=false:=by grind
 have hrange: ∀j,j<n*o.sz→off*o.sz+j<o.room*o.sz:=(by omega)
 let oS:Own:=⟨o.g,o.o+off*o.sz,o.sz,n,false,false,false⟩
 let ρS:AE:=fun j=>if j=BK then some oS else none
 have eS: ∀j x,ρS j=some x→j=BK∧x=oS:=(by grind)
 have sS:ρS BK=some oS:=by simp[ρS]
 have hsub: ∀ad,oS.has ad→o.has ad:=fun ad ⟨_,h2,h3,h4⟩=>by
  have h3:o.o+off*o.sz≤ad.off:=(by grind)
  have h4:ad.off<o.o+off*o.sz+n*o.sz:=(by grind)
  refine⟨hgone,h2,.inr ?_,.inr ?_⟩
  ·omega
  omega
 have hcell: ∀ad,Cells ρS ad→oS.has ad:=fun ad ⟨j,x,hj,hx⟩=>by grind
 have hcell2: ∀ad,Cells ρS ad→Cells ρ ad:=fun ad h=>⟨i,o,ho,(by grind)⟩
 have hout: ∀ad,Ar ρS Z ad→Ar ρ Z ad:=fun ad h=>h.imp id (by grind)
 have hatS: ∀j,oS.at j=o.at (off*o.sz+j):=(by grind)
 refine calls_of_wp hf hb ?_;generalize htm:((Value.slice (some a) n cap::vs).toArray++Array.replicate (fn.ntmps - (Value.slice (some a) n cap::vs).toArray.size) undef)=tm;have hsz:tm.size=fn.ntmps:=by grind
 have hg: ∀t,t<vs.length+1→tm.getD t undef=(Value.slice (some a) n cap::vs).getD t undef:=fun t ht=>by
  rw[←htm,Cn,Array.getElem?_append_left (by simp;omega)]
  simp
 have hvals2:RepL (A.rep w (Ar ρS Z)) ((ws.map (·.2)).map .c) vs:=by
  refine⟨by simp[hlen],fun j x v hx hvj=> ?_⟩
  simp only[Bf,jze]at hx;obtain⟨d,⟨wj,hwj,rfl⟩,rfl⟩:=hx;have hrep:RepC ρ w Z wj.1 v:=hvals.2 (j+1) (.c wj.1) v (by simp[hwj]) (by simpa using hvj)
  show RepD w (Ar ρS Z) wj.2 v
  rcases hv wj (by grind)with e|⟨k,m,sz',cs',app',e,hlk,hl2,e2⟩
  ·rw[e]at hrep
   exact RepD.keep (Keep.mono hout) hrep
  ·rw[e]at hrep
   rw[e2]
   obtain⟨hki,_⟩:=hR k _ hlk
   obtain⟨ok,hok2,hroom2,hcase2⟩:=hrep
   obtain⟨ok',hok',q1,q2,q3,⟨q4,q4'⟩,q5⟩:=hh.rep k (.row sz' cs' app') (by grind[BD])
   rw[hok2]at hok'
   cases hok'
   rcases hcase2 with⟨_,rfl,_,rfl⟩|⟨hkn,a2,c2,rfl,h7,h8,h9,_⟩
   ·have:cs'=[]:=(by grind)
    subst this;exact .snil
   ·have key: ∀(j:Nat) (x:D),cs'[j]? =some x→a2=ok.at 0∧j<ok.room*ok.sz:=(by grind)
    refine .slice m _ a2 c2 (fun j=>(w.cell? ⟨a2.block,a2.off+j,none⟩).getD undef) (fun hne=> ?_) h7 h8 (fun j x hj=> ?_) (fun j x hj=> ?_) (fun j x hj=> ?_)
    ·obtain⟨x,hx⟩:=List.exists_mem_of_ne_nil _ hne
     grind
    all_goals
     obtain⟨k1,k2⟩:=key j x hj
     obtain⟨u,hu,hd⟩:=q5 j x hj
     subst k1;have he:(⟨(ok.at 0).block,(ok.at 0).off+j,none⟩:Addr)=ok.at j:=by simp[Own.at]
    ·rw[he,hu];rfl
    ·rw[he]
     have hin:ok.has (ok.at j):=⟨by rw[q4'];exact hkn,rfl,(by simp),(by grind)⟩
     rintro (hz|⟨i',o',hi',ho'⟩)
     ·exact hcz _ ⟨k,ok,hok2,hin⟩ hz
     ·exact hh.owns.apart k i ok o hok2 ho hki _ hin (by grind)
    ·rw[he,hu];exact RepD.keep (Keep.mono hout) hd
 have hrel:Rel (Cells ρS) Z w ρS (St.initS n o.sz (AP (off*o.sz) (n*o.sz) cs) (ws.map (·.2))) { tmps:=tm,defers:=[] } w:=
  {fr:=⟨rfl,DR.refl _,rfl,rfl,AO _,fun a v _ h=>h,fun _ _ _=>rfl,fun _ _ _=>rfl⟩
   heap:=⟨⟨fun j x hj hgx k hk=>by
     obtain⟨_,rfl⟩:=eS j x hj
     rw[hatS]
     exact hh.owns.cells i o ho hgone _ (hrange k hk),(by grind),(by grind)⟩,fun j b hjb=>by
    by_cases e:j=BK
    ·subst e;simp only[St.initS]at hjb;rw[Bt]at hjb;cases hjb;refine⟨oS,sS,rfl,rfl,?_,(by grind),fun k x hk=> ?_⟩
     ·grind[AP,List.length_take,Nat.min_le_left]
     ·unfold AP at hk;rw[List.getElem?_take]at hk;split at hk
      ·rename_i hlt
       rw[List.getElem?_drop]at hk
       obtain⟨u,hu,hd⟩:=hbc _ x hk
       exact⟨u,by rw[hatS];exact hu,hd.keep (Keep.mono hout)⟩
      ·cases hk
    ·simp only[St.initS]at hjb;rw[BD e]at hjb;cases hjb⟩
   mine:=fun j x ad hj hx=> .inl ⟨j,x,hj,hx⟩
   out:=hZ.mono hout
   mz:=(by grind)
   tmps:=fun t v hv=>by
    simp only[St.initS,lk]at hv;split at hv
    ·rename_i e
     subst e;cases hv;rw[hg 0 (by omega)]
     exact⟨oS,sS,by simp[oS],(by grind)⟩
    ·obtain⟨hle,y,hy,hr⟩:=Eg _ vs 1 hvals2 t v hv
     have hlt:=(jzg.1 hy).1;rw[hg t (by omega)]
     have:(Value.slice (some a) n cap::vs).getD t undef=y:=by
      grind
     rw[this]
     have toV: ∀(ds:List D) (k:Nat),lk t (CJ k (ds.map .c))=some v→ ∃d:D,v=vC (.d d):=by
      intro ds
      induction ds with
      |nil=>intro k h;cases h
      |cons d ds ih=>
       intro k h;simp only[List.map_cons,CJ,lk]at h;split at h
       ·cases h;exact⟨d,rfl⟩
       grind
     obtain⟨d,rfl⟩:=toV _ 1 hv
     exact RepD.keep (Keep.mono fun ad h=> .inl h) hr
   defers:=rfl
   mps:=fun j x hj hm=>by
    obtain⟨_,rfl⟩:=eS j x hj
    cases hm.1 }
 have hc:=Dr (X:=⟨Cells ρS,Z,w,fn.ntmps,[0],fun k=>tm.getD k undef,none,fun _=>False,fun _=>False⟩) hT (by simp) hm c (NZ T fn.results.toList n o.sz cs2 r) _ w hok
  ⟨_,_,_,_,_,⟨fun k hk=>rfl,(by simp),hrel.fr.mono fun _ h=> .inl h,fun _ h=>h,fun _ h=> .inl h,(by grind[St.initS,lk,absurd,GU,YS])⟩,hrel,hsz,hw⟩
 refine hc.mono' fun e a' w' hgd=> ?_
 obtain⟨M1,Z1,w1,ρ1,st,hL,h1,h2,hend,hsl,hlk,v,hv1,hrs⟩:=hgd
 obtain⟨rfl,rfl,rfl⟩:=hL.plain rfl
 obtain⟨x,hx,hrx⟩:=GT (P:=P) hT h1 hv1
 have hpin:a'.tmps.getD 0 undef=Value.slice (some a) n cap:=by
  have hp:=hL.pins 0 (by simp)
  grind
 have hs0:RepC ρ1 w' Z1 (.sl BK 0 n) (Value.slice (some a) n cap):=by
  have:=h1.tmps 0 _ hsl
  rw[hpin]at this
  exact this
 obtain⟨o1,ho1,hroom1,hcase1⟩:=hs0
 obtain⟨hnil1,a1,cap1,e1,_,_,hadr1,_⟩:o1.nil=false∧ ∃a' c,Value.slice (some a) n cap= .slice (some a') n c∧n≤c∧c≤maxLen∧(c=0∨a'=o1.at (0*o1.sz))∧(o1.app=true→0+c≤o1.room):=by
  grind
 cases e1;have ha1:o.at (off*o.sz)=o1.at 0:=by
  grind
 obtain⟨o1',ho1',p1,p2,p3,⟨p4,p4'⟩,p5⟩:=h1.heap.rep BK _ hlk
 rw[ho1]at ho1'
 cases ho1'
 have hgone1:o1.gone=false:=by grind
 have hat1: ∀j,o1.at j=o.at (off*o.sz+j):=(by grind)
 have hcells1: ∀j,j<n*o.sz→(∃u,w'.cell? (o.at (off*o.sz+j))=some u)∧w'.frozen? (o.at (off*o.sz+j))=false:=fun j hj=>by
  have h5:n*o.sz≤o1.room*o1.sz:=by grind
  obtain⟨⟨u,hu⟩,hz⟩:=h1.heap.owns.cells BK o1 ho1 hgone1 j (by omega)
  grind
 have hinS: ∀ad,oS.has ad→ ∃j,j<n*o.sz∧(ad.block=o.g∧ad.off=o.o+(off*o.sz+j)):=fun ad ⟨_,q2,q3,q4⟩=>by
  have q3:o.o+off*o.sz≤ad.off:=(by grind)
  have q4:ad.off<o.o+off*o.sz+n*o.sz:=(by grind)
  exact⟨ad.off - (o.o+off*o.sz),by omega,q2,by omega⟩
 have hstay: ∀i' o' j,ρ i'=some o'→o'.gone=false→j<o'.room*o'.sz→(∃u,w'.cell? (o'.at j)=some u)∧w'.frozen? (o'.at j)=false:=fun i' o' j hi' hg' hj=>by
  obtain⟨⟨u,hu⟩,hfz⟩:=hh.owns.cells i' o' hi' hg' j hj
  by_cases hin:oS.has (o'.at j)
  ·grind
  ·exact⟨⟨u,h1.fr.cell _ u (by grind) hu⟩,by rw[h1.fr.frz _ (fun hm=>hin (hcell _ hm)) (World.block_lt_of_cell? _ _ hu)];exact hfz⟩
 have hFr:Fr (Cells ρ) w1 w':=h1.fr.mono hcell2;have hHeap:Heap ρ w' Z1 ((i,.row o.sz (splice (off*o.sz) cs2 cs) app)::R0):=by
  refine⟨⟨fun i' o' hi' hg' j hj=>hstay i' o' j hi' hg' hj,hh.owns.apart,hh.owns.lim⟩,fun j b hjb=> ?_⟩
  by_cases e:j=i
  ·subst e;rw[Bt]at hjb;cases hjb;have hsl2:(splice (off*o.sz) cs2 cs).length=cs.length:=by
    grind[splice,List.length_append,List.length_take,List.length_drop]
   refine⟨o,ho,rfl,hbapp,by omega,⟨hb1,hb2⟩,fun k y hk=> ?_⟩
   rw[Df _ _ _ (by omega)]at hk
   split at hk
   ·rename_i hlt
    obtain⟨u,hu,hd⟩:=p5 _ y hk
    refine⟨u,?_,GP (hfl y (BY hk)) hd⟩
    have:=hat1 (k - off*o.sz)
    rw[show off*o.sz+(k - off*o.sz)=k by omega]at this
    rw[←this]
    exact hu
   ·rename_i hlt
    obtain⟨u,hu,hd⟩:=hbc k y hk
    have hno: ¬Cells ρS (o.at k):=fun hm=>by
     obtain⟨q,hq,_,q2⟩:=hinS _ (hcell _ hm)
     simp only[Own.at]at q2;omega
    refine⟨u,h1.fr.cell _ u hno hu,hd.keep fun ad y hna hy=>⟨h1.fr.cell ad y (fun hm=>hna (.inr (hcell2 ad hm))) hy,hna⟩⟩
  ·rw[BD e]at hjb
   obtain⟨_,szj,csj,appj,rfl⟩:=hR j b hjb
   obtain⟨oj,hoj,q1,q2,q3,q4,q5⟩:=hh.rep j _ (by rw[BD e];exact hjb)
   refine⟨oj,hoj,q1,q2,q3,q4,fun k y hk=> ?_⟩
   obtain⟨u,hu,hd⟩:=q5 k y hk
   have hklt:=(jzg.1 hk).1;have hno: ¬Cells ρS (oj.at k):=fun hm=>by
    have hgj:oj.gone=false:=by
     rcases Bool.eq_false_or_eq_true oj.nil with hn1|hn1
     ·have:=q4.1 hn1
      rw[this]at q3
      omega
     ·rw[q4.2];exact hn1
    exact hh.owns.apart j i oj o hoj ho e _ ⟨hgj,rfl,by simp[Own.at],by simp only[Own.at];rw[q1];omega⟩ (hsub _ (hcell _ hm))
   exact⟨u,h1.fr.cell _ u hno hu,hd.keep fun ad y hna hy=>⟨h1.fr.cell ad y (fun hm=>hna (.inr (hcell2 ad hm))) hy,hna⟩⟩
 have hRes:RepV (fun _=>none) w' (Ar ρ Z1) (r.imp 0) x:=by
  rcases hrs with⟨rfl,rfl⟩|⟨d,hdf,rfl,rfl⟩|⟨j,m,szj,csj,appj,rfl,hjB,hlkj,hlj,hfj,rfl⟩
  ·obtain⟨vs',rfl,hl',_⟩:=hrx
   refine⟨vs',rfl,by grind,(by simp)⟩
  ·exact GP (w':=w') (Z':=Ar (fun _=>none) (Ar ρ Z1)) hdf hrx
  ·obtain⟨oj,hoj,hroomj,hcj⟩:RepC ρ1 w' Z1 (.sl j 0 m) x:=hrx
   obtain⟨oj',hoj',q1,q2,q3,⟨q4,q4'⟩,q5⟩:=h1.heap.rep j _ hlkj
   rw[hoj]at hoj'
   cases hoj'
   show RepD w' (Ar (fun _=>none) (Ar ρ Z1)) (.slice m csj) x
   rcases hcj with⟨_,rfl,_,rfl⟩|⟨hjn,a2,c2,rfl,h7,h8,h9,_⟩
   ·have:csj=[]:=(by grind)
    subst this;exact .snil
   ·have key: ∀(k:Nat) (y:D),csj[k]? =some y→a2=oj.at 0∧k<oj.room*oj.sz:=(by grind)
    refine .slice m _ a2 c2 (fun k=>(w'.cell? ⟨a2.block,a2.off+k,none⟩).getD undef) (fun hne=> ?_) h7 h8 (fun k y hk=> ?_) (fun k y hk=> ?_) (fun k y hk=> ?_)
    ·obtain⟨y,hy⟩:=List.exists_mem_of_ne_nil _ hne
     grind
    all_goals
     obtain⟨k1,k2⟩:=key k y hk
     obtain⟨u,hu,hd⟩:=q5 k y hk
     subst k1;have he:(⟨(oj.at 0).block,(oj.at 0).off+k,none⟩:Addr)=oj.at k:=by simp[Own.at]
    ·rw[he,hu];rfl
    ·rw[he]
     have hin:oj.has (oj.at k):=⟨by rw[q4'];exact hjn,rfl,(by simp),(by grind)⟩
     have hfresh:w1.heap.size≤(oj.at k).block:=by
      rcases h1.mine j oj _ hoj hin with hm|hm
      ·exfalso
       obtain⟨q,hq,e1,e2⟩:=hinS _ (hcell _ hm)
       refine h1.heap.owns.apart j BK oj o1 hoj ho1 hjB _ hin ⟨hgone1,?_,.inr ?_,.inr ?_⟩
       ·grind
       ·grind
       grind
      ·exact hm
     rintro (hz|⟨i',o',hi',_⟩)
     ·rcases hz with hz|⟨i',o',hi',ho'⟩
      ·have:=hZ _ hz;omega
      ·have:=Lw hh.owns (hh.mps hl0) ⟨i',o',hi',ho'⟩
       omega
     ·cases hi'
    grind[GP,List.mem_of_getElem?]
 rcases hend with rfl|rfl
 ·exact⟨h1.defers,_,hx,_,rfl,hFr,hHeap,hRes⟩
 ·exact⟨h1.defers,_,hx,_,rfl,hFr,hHeap,hRes⟩
end
end Go.Va
namespace Go.Va
open Go.RowKit
variable [Gv]
def Ue(T:AH)(rs:List ResultVar)(n sz:Nat)(cs2:List D)(r:R)(e:Exit)(st:St):Prop:=
 (e= .ret∨e= .normal)∧lk 0 st.t=some (vC (.sl BK 0 n))∧lk BK st.h=some (.row sz cs2 false)∧ ∃v,st.res T rs=some v∧((v= .tup []∧r= .tup [])∨ ∃d,v=vC (.d d)∧r= .u (.c (.d d)))
section
variable {P:Program} {T:AH}
theorem YK(hT:A5 P T)(hm:P.follows .mixedOrders=true){f:FuncId}{fn:Func}{c:Code}{i off n sz:Nat}{cs cs2:List D}{app:Bool}{R0:List (Nat×Blk)}{ws:List D}{r:R}
  (hf : P.funcs[f]? = some fn) (hb : fn.body = some c) (hname : (fn.name == "runtime.NumGoroutine") = false) (hn : ws.length + 1 ≤ fn.ntmps) (hok : B6 fn.ntmps [0] c = true) (hrr : r.rows = [])
  (h0:0<n) (hcs:off*sz+n*sz≤cs.length) (hc2:cs2.length=n*sz) (hfl: ∀x∈cs2,D.flat x=true)
  (hR: ∀j b,lk j R0=some b→j≠i∧ ∃sz cs app,b= .row sz cs app)
  (hw:Bl P T c (St.initS n sz (AP (off*sz) (n*sz) cs) ws) (Ue T fn.results.toList n sz cs2 r)):
  Fw P f (.c (.sl i off n)::ws.map fun d=> .c (.d d)) ((i,.row sz cs app)::R0) ((i,.row sz (splice (off*sz) cs2 cs) app)::R0) r:=by
 refine⟨⟨fn,hf,by rw[hb];rfl,hname⟩,hrr,fun w Z ρ vals hZ hh hcz hl0 hvals=> ?_⟩
 obtain⟨v0,vs,rfl⟩: ∃v0 vs,vals=v0::vs:=by
  have:=hvals.1
  match vals,this with
  |v0::vs,_=>exact⟨v0,vs,rfl⟩
 have hlen:vs.length=ws.length:=by have:=hvals.1;simp at this;omega
 obtain⟨o,ho,hroom,hcase⟩:RepC ρ w Z (.sl i off n) v0:=hvals.2 0 _ _ rfl rfl
 obtain⟨hnil,a,cap,rfl,hcap,hmax,hadr,happc⟩:o.nil=false∧ ∃a c,v0= .slice (some a) n c∧n≤c∧c≤maxLen∧(c=0∨a=o.at (off*o.sz))∧(o.app=true→off+c≤o.room):=by
  grind
 obtain⟨o',ho',hbsz,hbapp,hblen,⟨hb1,hb2⟩,hbc⟩:=hh.rep i (.row sz cs app) (Bt _ _ _)
 rw[ho]at ho'
 cases ho'
 subst hbsz;have ha:a=o.at (off*o.sz):=by grind
 have hgone:o.gone=false:=by grind
 have hrange: ∀j,j<n*o.sz→off*o.sz+j<o.room*o.sz:=(by omega)
 let oS:Own:=⟨o.g,o.o+off*o.sz,o.sz,n,false,false,false⟩
 let ρS:AE:=fun j=>if j=BK then some oS else none
 have eS: ∀j x,ρS j=some x→j=BK∧x=oS:=(by grind)
 have sS:ρS BK=some oS:=by simp[ρS]
 have hsub: ∀ad,oS.has ad→o.has ad:=fun ad ⟨_,h2,h3,h4⟩=>by
  have h3:o.o+off*o.sz≤ad.off:=(by grind)
  have h4:ad.off<o.o+off*o.sz+n*o.sz:=(by grind)
  refine⟨hgone,h2,.inr ?_,.inr ?_⟩
  ·omega
  omega
 have hcell: ∀ad,Cells ρS ad→oS.has ad:=fun ad ⟨j,x,hj,hx⟩=>by grind
 have hcell2: ∀ad,Cells ρS ad→Cells ρ ad:=fun ad h=>⟨i,o,ho,(by grind)⟩
 have hout: ∀ad,Ar ρS Z ad→Ar ρ Z ad:=fun ad h=>h.imp id (by grind)
 have hatS: ∀j,oS.at j=o.at (off*o.sz+j):=(by grind)
 refine calls_of_wp hf hb ?_;generalize htm:((Value.slice (some a) n cap::vs).toArray++Array.replicate (fn.ntmps - (Value.slice (some a) n cap::vs).toArray.size) undef)=tm;have hsz:tm.size=fn.ntmps:=by grind
 have hg: ∀t,t<vs.length+1→tm.getD t undef=(Value.slice (some a) n cap::vs).getD t undef:=fun t ht=>by
  rw[←htm,Cn,Array.getElem?_append_left (by simp;omega)]
  simp
 let Z2:Addr→Prop:=fun ad=>Z ad∨(Cells ρ ad∧ ¬oS.has ad)
 have hout2: ∀ad,Ar ρS Z2 ad→Ar ρ Z ad:=fun ad h=>by
  rcases h with (h|h)|h
  ·exact .inl h
  ·exact .inr h.1
  ·exact hout ad (.inr h)
 have hcellW: ∀ad,Cells ρ ad→ad.block<w.heap.size:=fun ad h=>Lw hh.owns (hh.mps hl0) h
 have hZ2:ZOk w Z2 fun ad=>Z2 ad∨Cells ρS ad:=hZ.sub (fun ad h=>h.elim (hZ ad) (by grind)) hout2
 have hvals2:RepL (A.rep w (Ar ρS Z2)) (ws.map .c) vs:=by
  refine⟨by simp[hlen],fun j x v hx hvj=> ?_⟩
  simp only[Bf,jze]at hx;obtain⟨d,hwj,rfl⟩:=hx;have hrep:RepC ρ w Z (.d d) v:=hvals.2 (j+1) (.c (.d d)) v (by simp[hwj]) (by simpa using hvj)
  exact RepD.keep (Keep.mono hout2) hrep
 have hrel:Rel (Cells ρS) Z2 w ρS (St.initS n o.sz (AP (off*o.sz) (n*o.sz) cs) ws) { tmps:=tm,defers:=[] } w:=
  {fr:=⟨rfl,DR.refl _,rfl,rfl,AO _,fun a v _ h=>h,fun _ _ _=>rfl,fun _ _ _=>rfl⟩
   heap:=⟨⟨fun j x hj hgx k hk=>by
     obtain⟨_,rfl⟩:=eS j x hj
     rw[hatS]
     exact hh.owns.cells i o ho hgone _ (hrange k hk),(by grind),(by grind)⟩,fun j b hjb=>by
    by_cases e:j=BK
    ·subst e;simp only[St.initS]at hjb;rw[Bt]at hjb;cases hjb;refine⟨oS,sS,rfl,rfl,?_,(by grind),fun k x hk=> ?_⟩
     ·grind[AP,List.length_take,Nat.min_le_left]
     ·unfold AP at hk;rw[List.getElem?_take]at hk;split at hk
      ·rename_i hlt
       rw[List.getElem?_drop]at hk
       obtain⟨u,hu,hd⟩:=hbc _ x hk
       exact⟨u,by rw[hatS];exact hu,hd.keep (Keep.mono hout2)⟩
      ·cases hk
    ·simp only[St.initS]at hjb;rw[BD e]at hjb;cases hjb⟩
   mine:=fun j x ad hj hx=> .inl ⟨j,x,hj,hx⟩
   out:=hZ2
   mz:=(by grind)
   tmps:=fun t v hv=>by
    simp only[St.initS,lk]at hv;split at hv
    ·rename_i e
     subst e;cases hv;rw[hg 0 (by omega)]
     exact⟨oS,sS,by simp[oS],(by grind)⟩
    ·obtain⟨hle,y,hy,hr⟩:=Eg _ vs 1 hvals2 t v hv
     have hlt:=(jzg.1 hy).1;rw[hg t (by omega)]
     have:(Value.slice (some a) n cap::vs).getD t undef=y:=by
      grind
     rw[this]
     have toV: ∀(ds:List D) (k:Nat),lk t (CJ k (ds.map .c))=some v→ ∃d:D,v=vC (.d d):=by
      intro ds
      induction ds with
      |nil=>intro k h;cases h
      |cons d ds ih=>
       intro k h;simp only[List.map_cons,CJ,lk]at h;split at h
       ·cases h;exact⟨d,rfl⟩
       grind
     obtain⟨d,rfl⟩:=toV _ 1 hv
     exact RepD.keep (Keep.mono fun ad h=> .inl h) hr
   defers:=rfl
   mps:=fun j x hj hm=>by
    obtain⟨_,rfl⟩:=eS j x hj
    cases hm.1 }
 have hc:=Dr (X:=⟨Cells ρS,Z2,w,fn.ntmps,[0],fun k=>tm.getD k undef,none,fun _=>False,fun _=>False⟩) hT (by simp) hm c (Ue T fn.results.toList n o.sz cs2 r) _ w hok
  ⟨_,_,_,_,_,⟨fun k hk=>rfl,(by simp),hrel.fr.mono fun _ h=> .inl h,fun _ h=>h,fun _ h=> .inl h,(by grind[St.initS,lk,absurd,GU,YS])⟩,hrel,hsz,hw⟩
 refine hc.mono' fun e a' w' hgd=> ?_
 obtain⟨M1,Z1,w1,ρ1,st,hL,h1,h2,hend,hsl,hlk,v,hv1,hrs⟩:=hgd
 obtain⟨rfl,rfl,rfl⟩:=hL.plain rfl
 obtain⟨x,hx,hrx⟩:=GT (P:=P) hT h1 hv1
 have hpin:a'.tmps.getD 0 undef=Value.slice (some a) n cap:=by
  have hp:=hL.pins 0 (by simp)
  grind
 have hs0:RepC ρ1 w' Z2 (.sl BK 0 n) (Value.slice (some a) n cap):=by
  have:=h1.tmps 0 _ hsl
  rw[hpin]at this
  exact this
 obtain⟨o1,ho1,hroom1,hcase1⟩:=hs0
 obtain⟨hnil1,a1,cap1,e1,_,_,hadr1,_⟩:o1.nil=false∧ ∃a' c,Value.slice (some a) n cap= .slice (some a') n c∧n≤c∧c≤maxLen∧(c=0∨a'=o1.at (0*o1.sz))∧(o1.app=true→0+c≤o1.room):=by
  grind
 cases e1;have ha1:o.at (off*o.sz)=o1.at 0:=by
  grind
 obtain⟨o1',ho1',p1,p2,p3,⟨p4,p4'⟩,p5⟩:=h1.heap.rep BK _ hlk
 rw[ho1]at ho1'
 cases ho1'
 have hgone1:o1.gone=false:=by grind
 have hat1: ∀j,o1.at j=o.at (off*o.sz+j):=(by grind)
 have hcells1: ∀j,j<n*o.sz→(∃u,w'.cell? (o.at (off*o.sz+j))=some u)∧w'.frozen? (o.at (off*o.sz+j))=false:=fun j hj=>by
  have h5:n*o.sz≤o1.room*o1.sz:=by grind
  obtain⟨⟨u,hu⟩,hz⟩:=h1.heap.owns.cells BK o1 ho1 hgone1 j (by omega)
  grind
 have hinS: ∀ad,oS.has ad→ ∃j,j<n*o.sz∧(ad.block=o.g∧ad.off=o.o+(off*o.sz+j)):=fun ad ⟨_,q2,q3,q4⟩=>by
  have q3:o.o+off*o.sz≤ad.off:=(by grind)
  have q4:ad.off<o.o+off*o.sz+n*o.sz:=(by grind)
  exact⟨ad.off - (o.o+off*o.sz),by omega,q2,by omega⟩
 have hstay: ∀i' o' j,ρ i'=some o'→o'.gone=false→j<o'.room*o'.sz→(∃u,w'.cell? (o'.at j)=some u)∧w'.frozen? (o'.at j)=false:=fun i' o' j hi' hg' hj=>by
  obtain⟨⟨u,hu⟩,hfz⟩:=hh.owns.cells i' o' hi' hg' j hj
  by_cases hin:oS.has (o'.at j)
  ·grind
  ·exact⟨⟨u,h1.fr.cell _ u (by grind) hu⟩,by rw[h1.fr.frz _ (by grind) (World.block_lt_of_cell? _ _ hu)];exact hfz⟩
 have hFr:Fr (Cells ρ) w1 w':=h1.fr.mono hcell2;have hHeap:Heap ρ w' Z ((i,.row o.sz (splice (off*o.sz) cs2 cs) app)::R0):=by
  refine⟨⟨(by grind),hh.owns.apart,hh.owns.lim⟩,fun j b hjb=> ?_⟩
  by_cases e:j=i
  ·subst e;rw[Bt]at hjb;cases hjb;have hsl2:(splice (off*o.sz) cs2 cs).length=cs.length:=by
    grind[splice,List.length_append,List.length_take,List.length_drop]
   refine⟨o,ho,rfl,hbapp,by omega,⟨hb1,hb2⟩,fun k y hk=> ?_⟩
   rw[Df _ _ _ (by omega)]at hk
   split at hk
   ·grind[GP,List.mem_of_getElem?]
   ·rename_i hlt
    obtain⟨u,hu,hd⟩:=hbc k y hk
    have hno: ¬Cells ρS (o.at k):=(by grind)
    refine⟨u,h1.fr.cell _ u hno hu,hd.keep fun ad y hna hy=>⟨h1.fr.cell ad y (fun hm=>hna (.inr (hcell2 ad hm))) hy,hna⟩⟩
  ·rw[BD e]at hjb
   obtain⟨_,szj,csj,appj,rfl⟩:=hR j b hjb
   obtain⟨oj,hoj,q1,q2,q3,q4,q5⟩:=hh.rep j _ (by rw[BD e];exact hjb)
   refine⟨oj,hoj,q1,q2,q3,q4,fun k y hk=> ?_⟩
   obtain⟨u,hu,hd⟩:=q5 k y hk
   have hklt:=(jzg.1 hk).1;have hno: ¬Cells ρS (oj.at k):=fun hm=>by
    have hgj:oj.gone=false:=by
     rcases Bool.eq_false_or_eq_true oj.nil with hn1|hn1
     ·have:=q4.1 hn1
      rw[this]at q3
      omega
     ·rw[q4.2];exact hn1
    exact hh.owns.apart j i oj o hoj ho e _ ⟨hgj,rfl,by simp[Own.at],by simp only[Own.at];rw[q1];omega⟩ (hsub _ (hcell _ hm))
   exact⟨u,h1.fr.cell _ u hno hu,hd.keep fun ad y hna hy=>⟨h1.fr.cell ad y (fun hm=>hna (.inr (hcell2 ad hm))) hy,hna⟩⟩
 have hback: ∀ad,Ar ρ Z ad→Ar ρ1 Z2 ad:=fun ad h=>by
  by_cases hs:oS.has ad
  ·refine .inr ⟨BK,o1,ho1,?_⟩;obtain⟨q,hq,e1,e2⟩:=hinS _ hs;have:=hat1 q;have h5:n*o.sz≤o1.room*o1.sz:=by grind
   simp only[Own.at,Addr.mk.injEq]at this;exact⟨hgone1,by rw[e1,this.1],by omega,by omega⟩
  ·rcases h with h|h
   ·exact .inl (.inl h)
   ·exact .inl (.inr ⟨h,hs⟩)
 have hRes:RepV (fun _=>none) w' (Ar ρ Z) (r.imp 0) x:=by
  rcases hrs with⟨rfl,rfl⟩|⟨d,rfl,rfl⟩
  ·obtain⟨vs',rfl,hl',_⟩:=hrx
   refine⟨vs',rfl,by grind,(by simp)⟩
  ·have hrx:RepD w' (Ar ρ1 Z2) d x:=hrx;exact hrx.keep (Keep.mono fun ad h=>by
    rcases h with h|⟨i',o',hi',_⟩
    ·exact hback ad h
    ·cases hi')
 rcases hend with rfl|rfl
 ·exact⟨h1.defers,_,hx,_,rfl,hFr,hHeap,hRes⟩
 ·exact⟨h1.defers,_,hx,_,rfl,hFr,hHeap,hRes⟩
end
end Go.Va
