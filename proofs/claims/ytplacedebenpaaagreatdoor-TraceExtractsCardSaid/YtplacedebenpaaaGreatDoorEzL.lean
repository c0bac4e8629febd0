/- a part of the proof -/
import Derived.Test.YtplacedebenpaaaGreatDoorEah
set_option linter.all false
namespace Go.Va
open Go.RowKit
variable [DrC]
variable [Gv]
section
variable {P:Program} {T:AH}
theorem jqY(rs0:List (Nat×Nat))(hT:Dk P T)(hm:P.follows .mixedOrders=true){f:FuncId}{fn:Func}{c:Code}{y:List A}{cs:List C}{h h':List (Nat×Blk)}(hf:P.funcs[f]? =some fn)(hb:fn.body=some c)
  (hname : (fn.name == "runtime.NumGoroutine") = false) (hn : y.length + cs.length ≤ fn.ntmps) (hys : fn.ntmps ≤ YS) (hres : fn.results = #[]) (hok : B6 fn.ntmps (jlS y.length cs.length) c = true)
  (hw:Bl P T c (rns rs0 (St.initX y cs h)) (jkT y.length cs h')):Ld P f y cs h h':=by
 refine⟨⟨fn,hf,by rw[hb];rfl,hname⟩,λw Z ρ0 vals cvals hZ hh hcz hl0 hvals hcv=> ?_⟩;have hlen:vals.length=y.length:=hvals.1.symm;have hclen:cvals.length=cs.length:=hcv.1.symm;refine calls_of_wp hf hb ?_;generalize htm:((vals++cvals).toArray++Array.replicate (fn.ntmps - (vals++cvals).toArray.size) undef)=tm;have hsz:tm.size=fn.ntmps:=O3;have hgv: ∀t,t<vals.length->tm.getD t undef=vals.getD t undef:=λt ht=>by
  rw[<-htm,Cn,Array.getElem?_append_left (by simp;omega)];grind
 have hgc: ∀j,j<cvals.length->tm.getD (y.length+j) undef=cvals.getD j undef:=λj hj=>by
  rw[<-htm,Cn,Array.getElem?_append_left (by simp;omega)];grind
 have hrel:Rel (Cells ρ0) Z w ρ0 (St.initX y cs h) { tmps:=tm,defers:=[] } w:=
  {fr:=⟨rfl,DR.refl _,rfl,rfl,AO _,λa v _ h=>h,λ_ _ _=>rfl,λ_ _ _=>rfl⟩
   heap:=hh
   mine:=λi o ad hi ho=> .inl ⟨i,o,hi,ho⟩
   out:=hZ
   mz:=hcz
   tmps:=λt v hv=>by
    simp only[St.initX,HQ]at hv;cases h1:lk t (CJ 0 y)with
    |some v1=>
     rw[h1]at hv;have hv:v1=v:=Bi hv;subst hv;obtain⟨A0,v2,hA,hv2,rfl⟩: ∃A0 v2,y[t]? =some A0/\vals[t]? =some v2/\v1=A0.toV:=by
      have key: ∀(as:List A) (k:Nat),lk t (CJ k as)=some v1->k<=t/\ ∃A0,as[t - k]? =some A0/\v1=A0.toV:=by
       intro as
       induction as with
       |nil=>intro k h;cases h
       |cons A0 as ih=>
        intro k h;simp only[CJ,lk]at h;grind
      grind
     have ht:t<vals.length:=O3;rw[hgv t ht];have hd:vals.getD t undef=v2:=by simp[hv2]
     rw[hd];have hr:=hvals.2 t A0 v2 hA hv2;cases A0 with
     |c d=>exact hr
     |agg ds=>
      obtain⟨vs,rfl,hvs⟩:=hr;exact⟨vs,rfl,hvs.imp C.d λy u _ hu=>hu⟩
    |none=>
     rw[h1]at hv;simp only[Option.none_or]at hv;obtain⟨hle,c0,hc0,rfl⟩:=jiV cs y.length t v hv;have hj:t - y.length<cvals.length:=O3;have:=hgc (t - y.length) hj;rw[show y.length+(t - y.length)=t by omega]at this;rw[this];exact hcv.2 (t - y.length) c0 _ hc0 (by simp[hj])
   defers:=rfl
   mps:=hh.mps hl0 }
 obtain⟨ρi,hrel1⟩:=Rel.rns rs0 hrel;have hc:=Dr (X:=⟨Cells ρ0,Z,w,fn.ntmps,jlS y.length cs.length,λk=>tm.getD k undef,none,λ_=>False,λ_=>False⟩) hT O1 hm c (jkT y.length cs h') _ w hok
  ⟨_,_,_,_,_,⟨λk hk=>rfl,O1,hrel.fr.mono λ_ h=> .inl h,λ_ h=>h,λ_ h=> .inl h,λx r hx=>by
   have hx:=TrLe.rns rs0 (s:=St.initX y cs h) _ _ hx;simp only[St.initX,HQ]at hx;cases h1:lk YS (CJ 0 y)with
   |some v1=>grind[Option.some.inj,absurd,GU,YS]
   |none=>
    rw[h1]at hx;simp only[Option.none_or]at hx;obtain⟨_,_,_,he⟩:=jiV cs y.length YS _ hx;cases he⟩,hrel1,hsz,hw⟩
 refine hc.mono' λe a' w' hg=> ?_;obtain⟨M1,Z1,w1,ρ1,st,hL,h1,h2,hend,rs,ht,hhp,hin,hbx⟩:=hg;obtain⟨rfl,rfl,rfl⟩:=hL.plain rfl;obtain⟨ρ,h3⟩:=Rel.rns rs h1;have hrep: ∀(c:C) (v:Value),(∀i,c.id? =some i->i∈h'.map (·.1))->RepC ρ w' Z1 c v->RepC (Bj (h'.map (·.1)) ρ) w' Z1 c v:=λc v hi hr=>RepC.keep (Keep.mono λad ho=>ho.imp id λ⟨i,o,hi,ho⟩=>⟨i,o,(A9 hi).2,ho⟩) (by grind[D5]) hr;have hout: ∀ad,Ar (Bj (h'.map (·.1)) ρ) Z1 ad->Ar ρ Z1 ad:=λad ho=>ho.imp id λ⟨i,o,hi,ho⟩=>⟨i,o,(A9 hi).2,ho⟩
 have hpost:(Ending.returned (.tuple #[])= .returned (.tuple #[]))/\ ∃ρ',Fr (Cells ρ0) w1 w'/\Heap ρ' w' Z1 h'/\(∀i o,ρ' i=some o->(lk i h').isSome=true)/\(∀ad,Cells ρ' ad->Cells ρ0 ad\/w1.heap.size<=ad.block)/\RepL (RepC ρ' w' Z1) cs cvals:=by
  refine⟨rfl,Bj (h'.map (·.1)) ρ,h3.fr,⟨⟨λi o hi=>h3.heap.owns.cells i o (A9 hi).2,λi i' o o' hi hi'=>h3.heap.owns.apart i i' o o' (A9 hi).2 (A9 hi').2,λi o hi=>h3.heap.owns.lim i o (A9 hi).2⟩,λi b hb=> ?_⟩,(by grind[UN,A9]),λad ⟨i,o,hi,ho⟩=>h3.mine i o ad (A9 hi).2 ho,hcv.1,λj c0 v hc0 hv=> ?_⟩
  ·obtain⟨o,ho,hr⟩:=h3.heap.rep i b (IN hhp i b hb);refine⟨o,(D5 (RP hb)).trans ho,?_⟩;have hi:=hbx i b hb;cases b with
   |row sz cs app=>obtain⟨q1,q2,q3,q4,q5⟩:=hr;exact⟨q1,q2,q3,q4,λj x hx=>by obtain⟨v,hv,hd⟩:=q5 j x hx;exact⟨v,hv,hd.keep (Keep.mono hout)⟩⟩
   |box cs=>obtain⟨q1,q2,q3,q4⟩:=hr;exact⟨q1,q2,q3,λj x hx=>by obtain⟨v,hv,h1,hd⟩:=q4 j x hx;exact⟨v,hv,h1,hrep x v (hi x O3) hd⟩⟩
   |fbox f cs=>obtain⟨q1,q2,q3,v,hv,vs,hvs,hl,hd⟩:=hr;exact⟨q1,q2,q3,v,hv,vs,hvs,hl,λj x u hx hu=>hrep x u (hi x O3) (hd j x u hx hu)⟩
   |mp x=>exact hr
   |gh cs=>exact hi.elim
  ·have hjc:j<cs.length:=O3;have hjv:j<cvals.length:=O;have:=h3.tmps (y.length+j) (.u (.c c0)) (IN ht _ _ (by simp_all[jr8]));have hp:=hL.pins (y.length+j) (by grind[jlS]);simp only at hp;rw[hp,hgc j hjv]at this;have hd:cvals.getD j undef=v:=by simp[hv]
   rw[hd]at this;exact hrep c0 v (hin c0 O3) this
 rcases hend with rfl|rfl
 ·exact⟨h1.defers,_,jgI hres _ _,hpost⟩
 ·exact⟨h1.defers,_,jgI hres _ _,hpost⟩
end
end Go.Va
namespace Go.Va
open Value renaming slice → aD
open Go.RowKit
variable [DrC]
variable [Gv]
def NO(h:List (Nat×Blk))(c:C)(d:D):Prop:=
 c= .d d\/ ∃v m b a app,c= .sl v 0 m/\lk v h=some (.row b a app)/\a.length=m*b/\d= .slice m a
def St.initS(n sz:Nat)(cs:List D)(ds:List D):St:={ t:=(0,vC (.sl BK 0 n))::CJ 1 (ds.map .c),h:=[(BK,.row sz cs false)] }
def ja6(e:St)(v:V)(r:R):Prop:=
 (v= .tup []/\r= .tup [])\/(∃x:D,x.flat=true/\v=vC (.d x)/\r= .u (.c (.d x)))\/
 (∃j m b a app,v=vC (.sl j 0 m)/\j≠BK/\lk j e.h=some (.row b a app)/\a.length=m*b/\(∀x∈a,D.flat x=true)/\r= .u (.c (.d (.slice m a))))
def NZ(T:AH)(f:List ResultVar)(n sz:Nat)(b:List D)(r:R)(e:Exit)(a:St):Prop:=
 (e= .ret\/e= .normal)/\lk 0 a.t=some (vC (.sl BK 0 n))/\lk BK a.h=some (.row sz b false)/\ ∃v,a.res T f=some v/\ja6 a v r
section
variable {P:Program} {T:AH}
theorem RY(hT:Dk P T)(hm:P.follows .mixedOrders=true){f:FuncId}{fn:Func}{c:Code}{i off n sz:Nat}{cs cs2:List D}{app:Bool}{R0:List (Nat×Blk)}{ws:List (C×D)}{r:R}
  (hf : P.funcs[f]? = some fn) (hb : fn.body = some c) (hname : (fn.name == "runtime.NumGoroutine") = false) (hn : ws.length + 1 ≤ fn.ntmps) (hok : B6 fn.ntmps [0] c = true) (hrr : r.rows = [])
  (h0:0<n) (hcs:off*sz+n*sz<=cs.length) (hc2:cs2.length=n*sz) (hfl: ∀x∈cs2,D.flat x=true)
  (hR: ∀j b,lk j R0=some b->j≠i/\ ∃sz cs app,b= .row sz cs app) (hv: ∀w∈ws,NO R0 w.1 w.2)
  (hw:Bl P T c (St.initS n sz (cut (off*sz) (n*sz) cs) (ws.map (·.2))) (NZ T fn.results.toList n sz cs2 r)):
  Fw P f (.c (.sl i off n)::ws.map λw=> .c w.1) ((i,.row sz cs app)::R0) ((i,.row sz (splice (off*sz) cs2 cs) app)::R0) r:=by
 refine⟨⟨fn,hf,by rw[hb];rfl,hname⟩,hrr,λw Z ρ vals hZ hh hcz hl0 hvals=> ?_⟩;obtain⟨v0,vs,rfl⟩: ∃v0 vs,vals=v0::vs:=by
  have:=hvals.1
  match vals,this with
  |v0::vs,_=>exact⟨v0,vs,rfl⟩
 have hlen:vs.length=ws.length:=by have:=hvals.1;simp at this;omega
 obtain⟨o,ho,hroom,hcase⟩:RepC ρ w Z (.sl i off n) v0:=hvals.2 0 _ _ rfl rfl;obtain⟨hnil,a,cap,rfl,hcap,hmax,hadr,happc⟩:o.nil=false/\ ∃a c,v0= .slice (some a) n c/\n<=c/\c<=maxLen/\(c=0\/a=o.at (off*o.sz))/\(o.app=true->off+c<=o.room):=by
  rcases hcase with⟨_,_,_,h⟩|h
  ·omega
  ·exact h
 obtain⟨o',ho',hbsz,hbapp,hblen,⟨hb1,hb2⟩,hbc⟩:=hh.rep i (.row sz cs app) (Bt _ _ _);rw[ho]at ho';cases ho';subst hbsz;have ha:a=o.at (off*o.sz):=O3;have hgone:o.gone=false:=O3;have hrange: ∀j,j<n*o.sz->off*o.sz+j<o.room*o.sz:=O;let oS:Own:=⟨o.g,o.o+off*o.sz,o.sz,n,false,false,false⟩
 let ρS:AE:=λj=>if j=BK then some oS else none
 have eS: ∀j x,ρS j=some x->j=BK/\x=oS:=O3;have sS:ρS BK=some oS:=by simp[ρS]
 have hsub: ∀ad,oS.has ad->o.has ad:=λad ⟨_,h2,h3,h4⟩=>by
  have h3:o.o+off*o.sz<=ad.off:=O3;have h4:ad.off<o.o+off*o.sz+n*o.sz:=O3;refine⟨hgone,h2,.inr ?_,.inr ?_⟩
  ·omega
  omega
 have hcell: ∀ad,Cells ρS ad->oS.has ad:=λad ⟨j,x,hj,hx⟩=>O3;have hcell2: ∀ad,Cells ρS ad->Cells ρ ad:=λad h=>⟨i,o,ho,O3⟩
 have hout: ∀ad,Ar ρS Z ad->Ar ρ Z ad:=λad h=>h.imp id O3;have hatS: ∀j,oS.at j=o.at (off*o.sz+j):=O3;refine calls_of_wp hf hb ?_;generalize htm:((aD (some a) n cap::vs).toArray++Array.replicate (fn.ntmps - (aD (some a) n cap::vs).toArray.size) undef)=tm;have hsz:tm.size=fn.ntmps:=O3;have hg: ∀t,t<vs.length+1->tm.getD t undef=(aD (some a) n cap::vs).getD t undef:=λt ht=>by
  rw[<-htm,Cn,Array.getElem?_append_left (by simp;omega)];simp
 have hvals2:RepL (A.rep w (Ar ρS Z)) ((ws.map (·.2)).map .c) vs:=by
  refine⟨by simp[hlen],λj x v hx hvj=> ?_⟩;simp only[Bf,jze]at hx;obtain⟨d,⟨wj,hwj,rfl⟩,rfl⟩:=hx;have hrep:RepC ρ w Z wj.1 v:=hvals.2 (j+1) (.c wj.1) v (by simp[hwj]) (by simpa using hvj);show RepD w (Ar ρS Z) wj.2 v;rcases hv wj O3 with e|⟨k,m,sz',cs',app',e,hlk,hl2,e2⟩
  ·rw[e]at hrep;exact RepD.keep (Keep.mono hout) hrep
  ·rw[e]at hrep;rw[e2];obtain⟨hki,_⟩:=hR k _ hlk;obtain⟨ok,hok2,hroom2,hcase2⟩:=hrep;obtain⟨ok',hok',q1,q2,q3,⟨q4,q4'⟩,q5⟩:=hh.rep k (.row sz' cs' app') (by grind[BD]);rw[hok2]at hok';cases hok';rcases hcase2 with⟨_,rfl,_,rfl⟩|⟨hkn,a2,c2,rfl,h7,h8,h9,_⟩
   ·have:cs'=[]:=O3;subst this;exact .snil
   ·have key: ∀(j:Nat) (x:D),cs'[j]? =some x->a2=ok.at 0/\j<ok.room*ok.sz:=O3;refine .slice m _ a2 c2 (λj=>(w.cell? ⟨a2.block,a2.off+j,none⟩).getD undef) (λhne=> ?_) h7 h8 (λj x hj=> ?_) (λj x hj=> ?_) (λj x hj=> ?_)
    ·obtain⟨x,hx⟩:=List.exists_mem_of_ne_nil _ hne;grind
    all_goals
     obtain⟨k1,k2⟩:=key j x hj;obtain⟨u,hu,hd⟩:=q5 j x hj;subst k1;have he:(⟨(ok.at 0).block,(ok.at 0).off+j,none⟩:Addr)=ok.at j:=by simp[Own.at]
    ·rw[he,hu];rfl
    ·rw[he];have hin:ok.has (ok.at j):=⟨by rw[q4'];exact hkn,rfl,O1,O3⟩
     rintro (hz|⟨i',o',hi',ho'⟩)
     ·exact hcz _ ⟨k,ok,hok2,hin⟩ hz
     ·exact hh.owns.apart k i ok o hok2 ho hki _ hin O3
    ·rw[he,hu];exact RepD.keep (Keep.mono hout) hd
 have hrel:Rel (Cells ρS) Z w ρS (St.initS n o.sz (cut (off*o.sz) (n*o.sz) cs) (ws.map (·.2))) { tmps:=tm,defers:=[] } w:=
  {fr:=⟨rfl,DR.refl _,rfl,rfl,AO _,λa v _ h=>h,λ_ _ _=>rfl,λ_ _ _=>rfl⟩
   heap:=⟨⟨λj x hj hgx k hk=>by
     obtain⟨_,rfl⟩:=eS j x hj;rw[hatS];exact hh.owns.cells i o ho hgone _ (hrange k hk),O3,O3⟩,λj b hjb=>by
    by_cases e:j=BK
    ·subst e;simp only[St.initS]at hjb;rw[Bt]at hjb;cases hjb;refine⟨oS,sS,rfl,rfl,?_,O3,λk x hk=> ?_⟩
     ·grind[cut,List.length_take,Nat.min_le_left]
     ·unfold cut at hk;rw[List.getElem?_take]at hk;split at hk
      ·rename_i hlt;rw[List.getElem?_drop]at hk;obtain⟨u,hu,hd⟩:=hbc _ x hk;exact⟨u,by rw[hatS];exact hu,hd.keep (Keep.mono hout)⟩
      ·cases hk
    ·simp only[St.initS]at hjb;rw[BD e]at hjb;cases hjb⟩
   mine:=λj x ad hj hx=> .inl ⟨j,x,hj,hx⟩
   out:=hZ.mono hout
   mz:=O3
   tmps:=λt v hv=>by
    simp only[St.initS,lk]at hv;split at hv
    ·rename_i e;subst e;cases hv;rw[hg 0 O];exact⟨oS,sS,by simp[oS],O3⟩
    ·obtain⟨hle,y,hy,hr⟩:=Eg _ vs 1 hvals2 t v hv;have hlt:=(jzg.1 hy).1;rw[hg t O];have:(aD (some a) n cap::vs).getD t undef=y:=by
      grind
     rw[this];have toV: ∀(ds:List D) (k:Nat),lk t (CJ k (ds.map .c))=some v-> ∃d:D,v=vC (.d d):=by
      intro ds
      induction ds with
      |nil=>intro k h;cases h
      |cons d ds ih=>
       intro k h;simp only[List.map_cons,CJ,lk]at h;split at h
       ·cases h;exact⟨d,rfl⟩
       grind
     obtain⟨d,rfl⟩:=toV _ 1 hv;exact RepD.keep (Keep.mono λad h=> .inl h) hr
   defers:=rfl
   mps:=λj x hj hm=>by
    obtain⟨_,rfl⟩:=eS j x hj;cases hm.1 }
 have hc:=Dr (X:=⟨Cells ρS,Z,w,fn.ntmps,[0],λk=>tm.getD k undef,none,λ_=>False,λ_=>False⟩) hT O1 hm c (NZ T fn.results.toList n o.sz cs2 r) _ w hok
  ⟨_,_,_,_,_,⟨λk hk=>rfl,O1,hrel.fr.mono λ_ h=> .inl h,λ_ h=>h,λ_ h=> .inl h,(by grind[St.initS,lk,absurd,GU,YS])⟩,hrel,hsz,hw⟩
 refine hc.mono' λe a' w' hgd=> ?_;obtain⟨M1,Z1,w1,ρ1,st,hL,h1,h2,hend,hsl,hlk,v,hv1,hrs⟩:=hgd;obtain⟨rfl,rfl,rfl⟩:=hL.plain rfl;obtain⟨x,hx,hrx⟩:=GT (P:=P) hT h1 hv1;have hpin:a'.tmps.getD 0 undef=aD (some a) n cap:=by
  have hp:=hL.pins 0 O1;grind
 have hs0:RepC ρ1 w' Z1 (.sl BK 0 n) (aD (some a) n cap):=by
  have:=h1.tmps 0 _ hsl;rw[hpin]at this;exact this
 obtain⟨o1,ho1,hroom1,hcase1⟩:=hs0;obtain⟨hnil1,a1,cap1,e1,_,_,hadr1,_⟩:o1.nil=false/\ ∃a' c,aD (some a) n cap= .slice (some a') n c/\n<=c/\c<=maxLen/\(c=0\/a'=o1.at (0*o1.sz))/\(o1.app=true->0+c<=o1.room):=by
  grind
 cases e1;have ha1:o.at (off*o.sz)=o1.at 0:=by
  grind
 obtain⟨o1',ho1',p1,p2,p3,⟨p4,p4'⟩,p5⟩:=h1.heap.rep BK _ hlk;rw[ho1]at ho1';cases ho1';have hgone1:o1.gone=false:=O3;have hat1: ∀j,o1.at j=o.at (off*o.sz+j):=O3;have hcells1: ∀j,j<n*o.sz->(∃u,w'.cell? (o.at (off*o.sz+j))=some u)/\w'.frozen? (o.at (off*o.sz+j))=false:=λj hj=>by
  have h5:n*o.sz<=o1.room*o1.sz:=O3;obtain⟨⟨u,hu⟩,hz⟩:=h1.heap.owns.cells BK o1 ho1 hgone1 j O;grind
 have hinS: ∀ad,oS.has ad-> ∃j,j<n*o.sz/\(ad.block=o.g/\ad.off=o.o+(off*o.sz+j)):=λad ⟨_,q2,q3,q4⟩=>by
  have q3:o.o+off*o.sz<=ad.off:=O3;have q4:ad.off<o.o+off*o.sz+n*o.sz:=O3;exact⟨ad.off - (o.o+off*o.sz),O,q2,O⟩
 have hstay: ∀i' o' j,ρ i'=some o'->o'.gone=false->j<o'.room*o'.sz->(∃u,w'.cell? (o'.at j)=some u)/\w'.frozen? (o'.at j)=false:=λi' o' j hi' hg' hj=>by
  obtain⟨⟨u,hu⟩,hfz⟩:=hh.owns.cells i' o' hi' hg' j hj;by_cases hin:oS.has (o'.at j)
  ·grind
  ·exact⟨⟨u,h1.fr.cell _ u O3 hu⟩,by rw[h1.fr.frz _ (λhm=>hin (hcell _ hm)) (World.block_lt_of_cell? _ _ hu)];exact hfz⟩
 have hFr:Fr (Cells ρ) w1 w':=h1.fr.mono hcell2;have hHeap:Heap ρ w' Z1 ((i,.row o.sz (splice (off*o.sz) cs2 cs) app)::R0):=by
  refine⟨⟨λi' o' hi' hg' j hj=>hstay i' o' j hi' hg' hj,hh.owns.apart,hh.owns.lim⟩,λj b hjb=> ?_⟩;by_cases e:j=i
  ·subst e;rw[Bt]at hjb;cases hjb;have hsl2:(splice (off*o.sz) cs2 cs).length=cs.length:=by
    grind[splice,List.length_append,List.length_take,List.length_drop]
   refine⟨o,ho,rfl,hbapp,O,⟨hb1,hb2⟩,λk y hk=> ?_⟩;rw[Df _ _ _ O]at hk;split at hk
   ·rename_i hlt;obtain⟨u,hu,hd⟩:=p5 _ y hk;refine⟨u,?_,GP (hfl y (BY hk)) hd⟩;have:=hat1 (k - off*o.sz);rw[show off*o.sz+(k - off*o.sz)=k by omega]at this;rw[<-this];exact hu
   ·rename_i hlt;obtain⟨u,hu,hd⟩:=hbc k y hk;have hno: ¬Cells ρS (o.at k):=λhm=>by
     obtain⟨q,hq,_,q2⟩:=hinS _ (hcell _ hm);simp only[Own.at]at q2;omega
    refine⟨u,h1.fr.cell _ u hno hu,hd.keep λad y hna hy=>⟨h1.fr.cell ad y (λhm=>hna (.inr (hcell2 ad hm))) hy,hna⟩⟩
  ·rw[BD e]at hjb;obtain⟨_,szj,csj,appj,rfl⟩:=hR j b hjb;obtain⟨oj,hoj,q1,q2,q3,q4,q5⟩:=hh.rep j _ (by rw[BD e];exact hjb);refine⟨oj,hoj,q1,q2,q3,q4,λk y hk=> ?_⟩;obtain⟨u,hu,hd⟩:=q5 k y hk;have hklt:=(jzg.1 hk).1;have hno: ¬Cells ρS (oj.at k):=λhm=>by
    have hgj:oj.gone=false:=by
     rcases Bool.eq_false_or_eq_true oj.nil with hn1|hn1
     ·have:=q4.1 hn1;rw[this]at q3;omega
     ·rw[q4.2];exact hn1
    exact hh.owns.apart j i oj o hoj ho e _ ⟨hgj,rfl,by simp[Own.at],by simp only[Own.at];rw[q1];omega⟩ (hsub _ (hcell _ hm))
   exact⟨u,h1.fr.cell _ u hno hu,hd.keep λad y hna hy=>⟨h1.fr.cell ad y (λhm=>hna (.inr (hcell2 ad hm))) hy,hna⟩⟩
 have hRes:RepV (λ_=>none) w' (Ar ρ Z1) (r.imp 0) x:=by
  rcases hrs with⟨rfl,rfl⟩|⟨d,hdf,rfl,rfl⟩|⟨j,m,szj,csj,appj,rfl,hjB,hlkj,hlj,hfj,rfl⟩
  ·obtain⟨vs',rfl,hl',_⟩:=hrx;refine⟨vs',rfl,O3,O1⟩
  ·exact GP (w':=w') (Z':=Ar (λ_=>none) (Ar ρ Z1)) hdf hrx
  ·obtain⟨oj,hoj,hroomj,hcj⟩:RepC ρ1 w' Z1 (.sl j 0 m) x:=hrx;obtain⟨oj',hoj',q1,q2,q3,⟨q4,q4'⟩,q5⟩:=h1.heap.rep j _ hlkj;rw[hoj]at hoj';cases hoj';show RepD w' (Ar (λ_=>none) (Ar ρ Z1)) (.slice m csj) x;rcases hcj with⟨_,rfl,_,rfl⟩|⟨hjn,a2,c2,rfl,h7,h8,h9,_⟩
   ·have:csj=[]:=O3;subst this;exact .snil
   ·have key: ∀(k:Nat) (y:D),csj[k]? =some y->a2=oj.at 0/\k<oj.room*oj.sz:=O3;refine .slice m _ a2 c2 (λk=>(w'.cell? ⟨a2.block,a2.off+k,none⟩).getD undef) (λhne=> ?_) h7 h8 (λk y hk=> ?_) (λk y hk=> ?_) (λk y hk=> ?_)
    ·obtain⟨y,hy⟩:=List.exists_mem_of_ne_nil _ hne;grind
    all_goals
     obtain⟨k1,k2⟩:=key k y hk;obtain⟨u,hu,hd⟩:=q5 k y hk;subst k1;have he:(⟨(oj.at 0).block,(oj.at 0).off+k,none⟩:Addr)=oj.at k:=by simp[Own.at]
    ·rw[he,hu];rfl
    ·rw[he];have hin:oj.has (oj.at k):=⟨by rw[q4'];exact hjn,rfl,O1,O3⟩
     have hfresh:w1.heap.size<=(oj.at k).block:=by
      rcases h1.mine j oj _ hoj hin with hm|hm
      ·exfalso;obtain⟨q,hq,e1,e2⟩:=hinS _ (hcell _ hm);refine h1.heap.owns.apart j BK oj o1 hoj ho1 hjB _ hin ⟨hgone1,?_,.inr ?_,.inr ?_⟩
       ·grind
       ·grind
       grind
      ·exact hm
     rintro (hz|⟨i',o',hi',_⟩)
     ·rcases hz with hz|⟨i',o',hi',ho'⟩
      ·have:=hZ _ hz;omega
      ·have:=Lw hh.owns (hh.mps hl0) ⟨i',o',hi',ho'⟩;omega
     ·cases hi'
    grind[GP,List.mem_of_getElem?]
 rcases hend with rfl|rfl
 ·exact⟨h1.defers,_,hx,_,rfl,hFr,hHeap,hRes⟩
 ·exact⟨h1.defers,_,hx,_,rfl,hFr,hHeap,hRes⟩
end
end Go.Va
namespace Go.Va
open Value renaming slice → aD
open Go.RowKit
variable [DrC]
variable [Gv]
def Ue(T:AH)(f:List ResultVar)(n sz:Nat)(a:List D)(r:R)(e:Exit)(b:St):Prop:=
 (e= .ret\/e= .normal)/\lk 0 b.t=some (vC (.sl BK 0 n))/\lk BK b.h=some (.row sz a false)/\ ∃v,b.res T f=some v/\((v= .tup []/\r= .tup [])\/ ∃d,v=vC (.d d)/\r= .u (.c (.d d)))
section
variable {P:Program} {T:AH}
theorem YK(hT:Dk P T)(hm:P.follows .mixedOrders=true){f:FuncId}{fn:Func}{c:Code}{i off n sz:Nat}{cs cs2:List D}{app:Bool}{R0:List (Nat×Blk)}{ws:List D}{r:R}
  (hf : P.funcs[f]? = some fn) (hb : fn.body = some c) (hname : (fn.name == "runtime.NumGoroutine") = false) (hn : ws.length + 1 ≤ fn.ntmps) (hok : B6 fn.ntmps [0] c = true) (hrr : r.rows = [])
  (h0:0<n) (hcs:off*sz+n*sz<=cs.length) (hc2:cs2.length=n*sz) (hfl: ∀x∈cs2,D.flat x=true)
  (hR: ∀j b,lk j R0=some b->j≠i/\ ∃sz cs app,b= .row sz cs app)
  (hw:Bl P T c (St.initS n sz (cut (off*sz) (n*sz) cs) ws) (Ue T fn.results.toList n sz cs2 r)):
  Fw P f (.c (.sl i off n)::ws.map λd=> .c (.d d)) ((i,.row sz cs app)::R0) ((i,.row sz (splice (off*sz) cs2 cs) app)::R0) r:=by
 refine⟨⟨fn,hf,by rw[hb];rfl,hname⟩,hrr,λw Z ρ vals hZ hh hcz hl0 hvals=> ?_⟩;obtain⟨v0,vs,rfl⟩: ∃v0 vs,vals=v0::vs:=by
  have:=hvals.1
  match vals,this with
  |v0::vs,_=>exact⟨v0,vs,rfl⟩
 have hlen:vs.length=ws.length:=by have:=hvals.1;simp at this;omega
 obtain⟨o,ho,hroom,hcase⟩:RepC ρ w Z (.sl i off n) v0:=hvals.2 0 _ _ rfl rfl;obtain⟨hnil,a,cap,rfl,hcap,hmax,hadr,happc⟩:o.nil=false/\ ∃a c,v0= .slice (some a) n c/\n<=c/\c<=maxLen/\(c=0\/a=o.at (off*o.sz))/\(o.app=true->off+c<=o.room):=by
  grind
 obtain⟨o',ho',hbsz,hbapp,hblen,⟨hb1,hb2⟩,hbc⟩:=hh.rep i (.row sz cs app) (Bt _ _ _);rw[ho]at ho';cases ho';subst hbsz;have ha:a=o.at (off*o.sz):=O3;have hgone:o.gone=false:=O3;have hrange: ∀j,j<n*o.sz->off*o.sz+j<o.room*o.sz:=O;let oS:Own:=⟨o.g,o.o+off*o.sz,o.sz,n,false,false,false⟩
 let ρS:AE:=λj=>if j=BK then some oS else none
 have eS: ∀j x,ρS j=some x->j=BK/\x=oS:=O3;have sS:ρS BK=some oS:=by simp[ρS]
 have hsub: ∀ad,oS.has ad->o.has ad:=λad ⟨_,h2,h3,h4⟩=>by
  have h3:o.o+off*o.sz<=ad.off:=O3;have h4:ad.off<o.o+off*o.sz+n*o.sz:=O3;refine⟨hgone,h2,.inr ?_,.inr ?_⟩
  ·omega
  omega
 have hcell: ∀ad,Cells ρS ad->oS.has ad:=λad ⟨j,x,hj,hx⟩=>O3;have hcell2: ∀ad,Cells ρS ad->Cells ρ ad:=λad h=>⟨i,o,ho,O3⟩
 have hout: ∀ad,Ar ρS Z ad->Ar ρ Z ad:=λad h=>h.imp id O3;have hatS: ∀j,oS.at j=o.at (off*o.sz+j):=O3;refine calls_of_wp hf hb ?_;generalize htm:((aD (some a) n cap::vs).toArray++Array.replicate (fn.ntmps - (aD (some a) n cap::vs).toArray.size) undef)=tm;have hsz:tm.size=fn.ntmps:=O3;have hg: ∀t,t<vs.length+1->tm.getD t undef=(aD (some a) n cap::vs).getD t undef:=λt ht=>by
  rw[<-htm,Cn,Array.getElem?_append_left (by simp;omega)];simp
 let Z2:Addr->Prop:=λad=>Z ad\/(Cells ρ ad/\ ¬oS.has ad);have hout2: ∀ad,Ar ρS Z2 ad->Ar ρ Z ad:=λad h=>by
  rcases h with (h|h)|h
  ·exact .inl h
  ·exact .inr h.1
  ·exact hout ad (.inr h)
 have hcellW: ∀ad,Cells ρ ad->ad.block<w.heap.size:=λad h=>Lw hh.owns (hh.mps hl0) h;have hZ2:ZOk w Z2 λad=>Z2 ad\/Cells ρS ad:=hZ.sub (λad h=>h.elim (hZ ad) O3) hout2;have hvals2:RepL (A.rep w (Ar ρS Z2)) (ws.map .c) vs:=by
  refine⟨by simp[hlen],λj x v hx hvj=> ?_⟩;simp only[Bf,jze]at hx;obtain⟨d,hwj,rfl⟩:=hx;have hrep:RepC ρ w Z (.d d) v:=hvals.2 (j+1) (.c (.d d)) v (by simp[hwj]) (by simpa using hvj);exact RepD.keep (Keep.mono hout2) hrep
 have hrel:Rel (Cells ρS) Z2 w ρS (St.initS n o.sz (cut (off*o.sz) (n*o.sz) cs) ws) { tmps:=tm,defers:=[] } w:=
  {fr:=⟨rfl,DR.refl _,rfl,rfl,AO _,λa v _ h=>h,λ_ _ _=>rfl,λ_ _ _=>rfl⟩
   heap:=⟨⟨λj x hj hgx k hk=>by
     obtain⟨_,rfl⟩:=eS j x hj;rw[hatS];exact hh.owns.cells i o ho hgone _ (hrange k hk),O3,O3⟩,λj b hjb=>by
    by_cases e:j=BK
    ·subst e;simp only[St.initS]at hjb;rw[Bt]at hjb;cases hjb;refine⟨oS,sS,rfl,rfl,?_,O3,λk x hk=> ?_⟩
     ·grind[cut,List.length_take,Nat.min_le_left]
     ·unfold cut at hk;rw[List.getElem?_take]at hk;split at hk
      ·rename_i hlt;rw[List.getElem?_drop]at hk;obtain⟨u,hu,hd⟩:=hbc _ x hk;exact⟨u,by rw[hatS];exact hu,hd.keep (Keep.mono hout2)⟩
      ·cases hk
    ·simp only[St.initS]at hjb;rw[BD e]at hjb;cases hjb⟩
   mine:=λj x ad hj hx=> .inl ⟨j,x,hj,hx⟩
   out:=hZ2
   mz:=O3
   tmps:=λt v hv=>by
    simp only[St.initS,lk]at hv;split at hv
    ·rename_i e;subst e;cases hv;rw[hg 0 O];exact⟨oS,sS,by simp[oS],O3⟩
    ·obtain⟨hle,y,hy,hr⟩:=Eg _ vs 1 hvals2 t v hv;have hlt:=(jzg.1 hy).1;rw[hg t O];have:(aD (some a) n cap::vs).getD t undef=y:=by
      grind
     rw[this];have toV: ∀(ds:List D) (k:Nat),lk t (CJ k (ds.map .c))=some v-> ∃d:D,v=vC (.d d):=by
      intro ds
      induction ds with
      |nil=>intro k h;cases h
      |cons d ds ih=>
       intro k h;simp only[List.map_cons,CJ,lk]at h;split at h
       ·cases h;exact⟨d,rfl⟩
       grind
     obtain⟨d,rfl⟩:=toV _ 1 hv;exact RepD.keep (Keep.mono λad h=> .inl h) hr
   defers:=rfl
   mps:=λj x hj hm=>by
    obtain⟨_,rfl⟩:=eS j x hj;cases hm.1 }
 have hc:=Dr (X:=⟨Cells ρS,Z2,w,fn.ntmps,[0],λk=>tm.getD k undef,none,λ_=>False,λ_=>False⟩) hT O1 hm c (Ue T fn.results.toList n o.sz cs2 r) _ w hok
  ⟨_,_,_,_,_,⟨λk hk=>rfl,O1,hrel.fr.mono λ_ h=> .inl h,λ_ h=>h,λ_ h=> .inl h,(by grind[St.initS,lk,absurd,GU,YS])⟩,hrel,hsz,hw⟩
 refine hc.mono' λe a' w' hgd=> ?_;obtain⟨M1,Z1,w1,ρ1,st,hL,h1,h2,hend,hsl,hlk,v,hv1,hrs⟩:=hgd;obtain⟨rfl,rfl,rfl⟩:=hL.plain rfl;obtain⟨x,hx,hrx⟩:=GT (P:=P) hT h1 hv1;have hpin:a'.tmps.getD 0 undef=aD (some a) n cap:=by
  have hp:=hL.pins 0 O1;grind
 have hs0:RepC ρ1 w' Z2 (.sl BK 0 n) (aD (some a) n cap):=by
  have:=h1.tmps 0 _ hsl;rw[hpin]at this;exact this
 obtain⟨o1,ho1,hroom1,hcase1⟩:=hs0;obtain⟨hnil1,a1,cap1,e1,_,_,hadr1,_⟩:o1.nil=false/\ ∃a' c,aD (some a) n cap= .slice (some a') n c/\n<=c/\c<=maxLen/\(c=0\/a'=o1.at (0*o1.sz))/\(o1.app=true->0+c<=o1.room):=by
  grind
 cases e1;have ha1:o.at (off*o.sz)=o1.at 0:=by
  grind
 obtain⟨o1',ho1',p1,p2,p3,⟨p4,p4'⟩,p5⟩:=h1.heap.rep BK _ hlk;rw[ho1]at ho1';cases ho1';have hgone1:o1.gone=false:=O3;have hat1: ∀j,o1.at j=o.at (off*o.sz+j):=O3;have hcells1: ∀j,j<n*o.sz->(∃u,w'.cell? (o.at (off*o.sz+j))=some u)/\w'.frozen? (o.at (off*o.sz+j))=false:=λj hj=>by
  have h5:n*o.sz<=o1.room*o1.sz:=O3;obtain⟨⟨u,hu⟩,hz⟩:=h1.heap.owns.cells BK o1 ho1 hgone1 j O;grind
 have hinS: ∀ad,oS.has ad-> ∃j,j<n*o.sz/\(ad.block=o.g/\ad.off=o.o+(off*o.sz+j)):=λad ⟨_,q2,q3,q4⟩=>by
  have q3:o.o+off*o.sz<=ad.off:=O3;have q4:ad.off<o.o+off*o.sz+n*o.sz:=O3;exact⟨ad.off - (o.o+off*o.sz),O,q2,O⟩
 have hstay: ∀i' o' j,ρ i'=some o'->o'.gone=false->j<o'.room*o'.sz->(∃u,w'.cell? (o'.at j)=some u)/\w'.frozen? (o'.at j)=false:=λi' o' j hi' hg' hj=>by
  obtain⟨⟨u,hu⟩,hfz⟩:=hh.owns.cells i' o' hi' hg' j hj;by_cases hin:oS.has (o'.at j)
  ·grind
  ·exact⟨⟨u,h1.fr.cell _ u O3 hu⟩,by rw[h1.fr.frz _ O3 (World.block_lt_of_cell? _ _ hu)];exact hfz⟩
 have hFr:Fr (Cells ρ) w1 w':=h1.fr.mono hcell2;have hHeap:Heap ρ w' Z ((i,.row o.sz (splice (off*o.sz) cs2 cs) app)::R0):=by
  refine⟨⟨O3,hh.owns.apart,hh.owns.lim⟩,λj b hjb=> ?_⟩;by_cases e:j=i
  ·subst e;rw[Bt]at hjb;cases hjb;have hsl2:(splice (off*o.sz) cs2 cs).length=cs.length:=by
    grind[splice,List.length_append,List.length_take,List.length_drop]
   refine⟨o,ho,rfl,hbapp,O,⟨hb1,hb2⟩,λk y hk=> ?_⟩;rw[Df _ _ _ O]at hk;split at hk
   ·grind[GP,List.mem_of_getElem?]
   ·rename_i hlt;obtain⟨u,hu,hd⟩:=hbc k y hk;have hno: ¬Cells ρS (o.at k):=O3;refine⟨u,h1.fr.cell _ u hno hu,hd.keep λad y hna hy=>⟨h1.fr.cell ad y (λhm=>hna (.inr (hcell2 ad hm))) hy,hna⟩⟩
  ·rw[BD e]at hjb;obtain⟨_,szj,csj,appj,rfl⟩:=hR j b hjb;obtain⟨oj,hoj,q1,q2,q3,q4,q5⟩:=hh.rep j _ (by rw[BD e];exact hjb);refine⟨oj,hoj,q1,q2,q3,q4,λk y hk=> ?_⟩;obtain⟨u,hu,hd⟩:=q5 k y hk;have hklt:=(jzg.1 hk).1;have hno: ¬Cells ρS (oj.at k):=λhm=>by
    have hgj:oj.gone=false:=by
     rcases Bool.eq_false_or_eq_true oj.nil with hn1|hn1
     ·have:=q4.1 hn1;rw[this]at q3;omega
     ·rw[q4.2];exact hn1
    exact hh.owns.apart j i oj o hoj ho e _ ⟨hgj,rfl,by simp[Own.at],by simp only[Own.at];rw[q1];omega⟩ (hsub _ (hcell _ hm))
   exact⟨u,h1.fr.cell _ u hno hu,hd.keep λad y hna hy=>⟨h1.fr.cell ad y (λhm=>hna (.inr (hcell2 ad hm))) hy,hna⟩⟩
 have hback: ∀ad,Ar ρ Z ad->Ar ρ1 Z2 ad:=λad h=>by
  by_cases hs:oS.has ad
  ·refine .inr ⟨BK,o1,ho1,?_⟩;obtain⟨q,hq,e1,e2⟩:=hinS _ hs;have:=hat1 q;have h5:n*o.sz<=o1.room*o1.sz:=O3;simp only[Own.at,Addr.mk.injEq]at this;exact⟨hgone1,by rw[e1,this.1],O,O⟩
  ·rcases h with h|h
   ·exact .inl (.inl h)
   ·exact .inl (.inr ⟨h,hs⟩)
 have hRes:RepV (λ_=>none) w' (Ar ρ Z) (r.imp 0) x:=by
  rcases hrs with⟨rfl,rfl⟩|⟨d,rfl,rfl⟩
  ·obtain⟨vs',rfl,hl',_⟩:=hrx;refine⟨vs',rfl,O3,O1⟩
  ·have hrx:RepD w' (Ar ρ1 Z2) d x:=hrx;exact hrx.keep (Keep.mono λad h=>by
    rcases h with h|⟨i',o',hi',_⟩
    ·exact hback ad h
    ·cases hi')
 rcases hend with rfl|rfl
 ·exact⟨h1.defers,_,hx,_,rfl,hFr,hHeap,hRes⟩
 ·exact⟨h1.defers,_,hx,_,rfl,hFr,hHeap,hRes⟩
end
end Go.Va
