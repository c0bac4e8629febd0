/- a part of the proof -/
import Derived.Test.YtkajmpgbnbikiaaGreatDoorPag
set_option linter.all false
namespace Go.Va
open Go.RowKit
section
variable {P:Program} {T:Ao}
theorem Ng(rs0:List (Nat×Nat))(hT:Az P T)(hm:P.follows .mixedOrders=true){f:FuncId}{fn:Func}{c:Code}{y:List A}{cs:List C}{h h':List (Nat×Blk)}(hf:P.funcs[f]? =some fn)(hb:fn.body=some c)
  (hname : (fn.name == "runtime.NumGoroutine") = false) (hn : y.length + cs.length ≤ fn.ntmps) (hys : fn.ntmps ≤ YS) (hres : fn.results = #[]) (hok : Bj fn.ntmps (JA y.length cs.length) c = true)
  (hw:AP P T c (rns rs0 (St.initX y cs h)) (Js y.length cs h')):Gy P f y cs h h':=by
 refine⟨⟨fn,hf,by rw[hb];rfl,hname⟩,fun w Z ρ0 vals cvals hZ hh hcz hl0 hvals hcv=> ?_⟩
 have hlen:vals.length=y.length:=hvals.1.symm
 have hclen:cvals.length=cs.length:=hcv.1.symm
 refine calls_of_wp hf hb ?_;generalize htm:((vals++cvals).toArray++Array.replicate (fn.ntmps - (vals++cvals).toArray.size) undef)=tm;have hsz:tm.size=fn.ntmps:=by rw[←htm];simp;omega
 have hgv: ∀t,t<vals.length→tm.getD t undef=vals.getD t undef:=fun t ht=>by
  rw[←htm,BA,Array.getElem?_append_left (by simp;omega)]
  simp[List.getElem?_append_left ht]
 have hgc: ∀j,j<cvals.length→tm.getD (y.length+j) undef=cvals.getD j undef:=fun j hj=>by
  rw[←htm,BA,Array.getElem?_append_left (by simp;omega)]
  simp[List.getElem?_append_right,hlen]
 have hrel:Rel (Cells ρ0) Z w ρ0 (St.initX y cs h) { tmps:=tm,defers:=[] } w:=
  {fr:=⟨rfl,At _,rfl,rfl,At _,fun a v _ h=>h,fun _ _=>rfl,fun _ _ _=>rfl⟩
   heap:=hh
   mine:=fun i o ad hi ho=> .inl ⟨i,o,hi,ho⟩
   out:=hZ
   mz:=hcz
   tmps:=fun t v hv=>by
    simp only[St.initX,GR]at hv;cases h1:lk t (BP 0 y)with
    |some v1=>
     rw[h1]at hv
     have hv:v1=v:=AE hv
     subst hv;obtain⟨A0,v2,hA,hv2,rfl⟩: ∃A0 v2,y[t]? =some A0∧vals[t]? =some v2∧v1=A0.toV:=by
      have key: ∀(as:List A) (k:Nat),lk t (BP k as)=some v1→k≤t∧ ∃A0,as[t - k]? =some A0∧v1=A0.toV:=by
       intro as
       induction as with
       |nil=>intro k h;cases h
       |cons A0 as ih=>
        intro k h;simp only[BP,lk]at h;split at h
        ·rename_i e;subst e;cases h;exact⟨At _,A0,by simp,rfl⟩
        ·obtain⟨q1,A1,q2,q3⟩:=ih (k+1) h
         exact⟨by omega,A1,by rw[show t - k=t - (k+1)+1 by omega];simpa using q2,q3⟩
      obtain⟨_,A0,hA,he⟩:=key y 0 h1
      simp only[Nat.sub_zero]at hA;have ht:t<vals.length:=by rw[hlen];exact(jzg.1 hA).1
      exact⟨A0,vals[t],hA,An ht,he⟩
     have ht:t<vals.length:=(jzg.1 hv2).1;rw[hgv t ht];have hd:vals.getD t undef=v2:=by simp[hv2]
     rw[hd]
     have hr:=hvals.2 t A0 v2 hA hv2;cases A0 with
     |c d=>exact hr
     |agg ds=>
      obtain⟨vs,rfl,hvs⟩:=hr
      exact⟨vs,rfl,hvs.imp C.d fun y u _ hu=>hu⟩
    |none=>
     rw[h1]at hv
     simp only[Option.none_or]at hv;obtain⟨hle,c0,hc0,rfl⟩:=Lu cs y.length t v hv;have hj:t - y.length<cvals.length:=by rw[hclen];exact(jzg.1 hc0).1
     have:=hgc (t - y.length) hj
     rw[show y.length+(t - y.length)=t by omega]at this
     rw[this]
     exact hcv.2 (t - y.length) c0 _ hc0 (by simp[hj])
   defers:=rfl }
 obtain⟨ρi,hrel1⟩:=Rel.rns rs0 hrel
 have hc:=Df (X:=⟨Cells ρ0,Z,w,fn.ntmps,JA y.length cs.length,fun k=>tm.getD k undef,none,fun _=>False,fun _=>False⟩) hT (fun Y' h=>by cases h) hm c (Js y.length cs h') _ w hok
  ⟨_,_,_,_,_,⟨fun k hk=>rfl,fun _=>⟨rfl,rfl,rfl⟩,hrel.fr.mono fun _ h=> .inl h,fun _ h=>h,fun _ h=> .inl h,fun x r hx=>by
   have hx:=TrLe.rns rs0 (s:=St.initX y cs h) _ _ hx;simp only[St.initX,GR]at hx;cases h1:lk YS (BP 0 y)with
   |some v1=>rw[h1]at hx;have hx:v1= .tr x r:=AE hx;exact absurd (hx ▸ h1) (Hd y 0 YS x r)
   |none=>
    rw[h1]at hx
    simp only[Option.none_or]at hx;obtain⟨_,_,_,he⟩:=Lu cs y.length YS _ hx;cases he⟩,hrel1,hsz,hw⟩
 refine hc.mono' fun e a' w' hg=> ?_
 obtain⟨M1,Z1,w1,ρ1,st,hL,h1,h2,hend,rs,ht,hhp,hin,hbx⟩:=hg
 obtain⟨rfl,rfl,rfl⟩:=hL.plain rfl
 obtain⟨ρ,h3⟩:=Rel.rns rs h1
 have hrep: ∀(c:C) (v:Value),(∀i,c.id? =some i→i∈h'.map (·.1))→RepC ρ w' Z1 c v→RepC (AY (h'.map (·.1)) ρ) w' Z1 c v:=fun c v hi hr=>RepC.keep (Keep.mono fun ad ho=>ho.imp id fun⟨i,o,hi,ho⟩=>⟨i,o,(AF hi).2,ho⟩) (fun i hid=>Eh (hi i hid)) hr
 have hout: ∀ad,Af (AY (h'.map (·.1)) ρ) Z1 ad→Af ρ Z1 ad:=fun ad ho=>ho.imp id fun⟨i,o,hi,ho⟩=>⟨i,o,(AF hi).2,ho⟩
 have hpost:(Ending.returned (.tuple #[])= .returned (.tuple #[]))∧ ∃ρ',Fr (Cells ρ0) w1 w'∧Heap ρ' w' Z1 h'∧(∀i o,ρ' i=some o→(lk i h').isSome=true)∧(∀ad,Cells ρ' ad→Cells ρ0 ad∨w1.heap.size≤ad.block)∧RepL (RepC ρ' w' Z1) cs cvals:=by
  refine⟨rfl,AY (h'.map (·.1)) ρ,h3.fr,⟨⟨fun i o hi=>h3.heap.owns.cells i o (AF hi).2,fun i i' o o' hi hi'=>h3.heap.owns.apart i i' o o' (AF hi).2 (AF hi').2,fun i o hi=>h3.heap.owns.lim i o (AF hi).2⟩,fun i b hb=> ?_⟩,fun i o hi=>Pn (AF hi).1,fun ad ⟨i,o,hi,ho⟩=>h3.mine i o ad (AF hi).2 ho,hcv.1,fun j c0 v hc0 hv=> ?_⟩
  ·obtain⟨o,ho,hr⟩:=h3.heap.rep i b (E8 hhp i b hb)
   refine⟨o,(Eh (Jz hb)).trans ho,?_⟩
   have hi:=hbx i b hb;cases b with
   |row sz cs app=>obtain⟨q1,q2,q3,q4,q5⟩:=hr;exact⟨q1,q2,q3,q4,fun j x hx=>by obtain⟨v,hv,hd⟩:=q5 j x hx;exact⟨v,hv,hd.keep (Keep.mono hout)⟩⟩
   |box cs=>obtain⟨q1,q2,q3,q4⟩:=hr;exact⟨q1,q2,q3,fun j x hx=>by obtain⟨v,hv,h1,hd⟩:=q4 j x hx;exact⟨v,hv,h1,hrep x v (hi x (Bm hx)) hd⟩⟩
   |fbox f cs=>obtain⟨q1,q2,q3,v,hv,vs,hvs,hl,hd⟩:=hr;exact⟨q1,q2,q3,v,hv,vs,hvs,hl,fun j x u hx hu=>hrep x u (hi x (Bm hx)) (hd j x u hx hu)⟩
  ·have hjc:j<cs.length:=(jzg.1 hc0).1;have hjv:j<cvals.length:=by omega
   have:=h3.tmps (y.length+j) (.u (.c c0)) (E8 ht _ _ (Sf cs y.length j c0 hc0))
   have hp:=hL.pins (y.length+j) (by simp[JA];exact hjc)
   simp only at hp;rw[hp,hgc j hjv]at this;have hd:cvals.getD j undef=v:=by simp[hv]
   rw[hd]at this
   exact hrep c0 v (hin c0 (Bm hc0)) this
 rcases hend with rfl|rfl
 ·exact⟨h1.defers,_,IK hres _ _,hpost⟩
 ·exact⟨h1.defers,_,IK hres _ _,hpost⟩
end
section
variable {P:Program} {T:Ao}
end
section
variable {P:Program} {T:Ao}
end
end Go.Va
