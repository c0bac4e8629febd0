/- a part of the proof -/
import Derived.Shelf.Strconv.AtoiAll
import Derived.Test.YtlgoebgnbkhmmaaGreatDoorZax
import Derived.Test.YtlgoebgnbkhmmaaGreatDoorZbn
import Derived.Test.YtlgoebgnbkhmmaaGreatDoorZav
import Derived.Test.YtlgoebgnbkhmmaaGreatDoorZaz
import Derived.Test.YtlgoebgnbkhmmaaGreatDoorZbv
import Derived.Test.YtlgoebgnbkhmmaaGreatDoorZbj
set_option linter.all false
set_option maxRecDepth 100000
set_option maxHeartbeats 4000000
namespace Go.Proofs
open Go.Shelf
theorem Tryz.laysAtC:Go.Proofs.LaysC.n172 Tryz.prog Tryz.laysAt_ren:={
 toM:={
  ton172:=Tryz.laysAt
  t80:=Tryz.underlying54
  a80:=Tryz.isAgg54
  z80:=Tryz.sizeOf54
  v80:=Tryz.zeroValue54
  i0:=by kernel_rfl
  i2:=by kernel_rfl
  i3:=by kernel_rfl
  i4:=by kernel_rfl
  i5:=by kernel_rfl
  i9:=by kernel_rfl
  i20:=by kernel_rfl
  i21:=by kernel_rfl
  i37:=by kernel_rfl
  i46:=by kernel_rfl
  i51:=by kernel_rfl
  i53:=by kernel_rfl
  i75:=by kernel_rfl
  i76:=by kernel_rfl
  i80:=by kernel_rfl
  i85:=by kernel_rfl
  i127:=by kernel_rfl
  i143:=by kernel_rfl
  i145:=by kernel_rfl
  i167:=by kernel_rfl
  i168:=by kernel_rfl
  i171:=by kernel_rfl
  i173:=by kernel_rfl
  i175:=by kernel_rfl
  i210:=by kernel_rfl
  i212:=by kernel_rfl
  i232:=by kernel_rfl
  i233:=by kernel_rfl
  m15:=by kernel_rfl
  m16:=by kernel_rfl
  m17:=by kernel_rfl
  m18:=by kernel_rfl
  m19:=by kernel_rfl
 }
 c0:=by kernel_rfl
 c2:=by kernel_rfl
 c3:=by kernel_rfl
 c4:=by kernel_rfl
 c5:=by kernel_rfl
 c9:=by kernel_rfl
 c20:=by kernel_rfl
 c21:=by kernel_rfl
 c37:=by kernel_rfl
 c46:=by kernel_rfl
 c51:=by kernel_rfl
 c53:=by kernel_rfl
 c75:=by kernel_rfl
 c76:=by kernel_rfl
 c80:=by kernel_rfl
 c85:=by kernel_rfl
 c127:=by kernel_rfl
 c143:=by kernel_rfl
 c145:=by kernel_rfl
 c167:=by kernel_rfl
 c168:=by kernel_rfl
 c171:=by kernel_rfl
 c173:=by kernel_rfl
 c175:=by kernel_rfl
 c210:=by kernel_rfl
 c212:=by kernel_rfl
 c213:=by kernel_rfl
 c232:=by kernel_rfl
 c233:=by kernel_rfl
}
end Go.Proofs
namespace Go.Va
open Go.Proofs Go.RowKit
theorem jf7{l:List UInt8}{v:Int}(h:Lib.atoiAll l= .ok v): -9223372036854775808≤v∧v≤9223372036854775807:=by
 unfold Lib.atoiAll at h;split at h
 ·cases h
 ·simp only at h;split at h
  ·cases h
  ·cases h
  ·split at h
   ·cases h
   ·split at h
    ·cases h
    ·injection h with h
     subst h;split<;>omega
theorem jm3(hg: ∀w,GW w→R9 4 w∧R9 5 w)(s:ByteArray)(hs:s.size≤100000):Qf s:=by
 cases h:Lib.atoiAll s.data.toList with
 |ok v=>
  obtain⟨h1,h2⟩:=jf7 h
  refine⟨v,.lit .nilIface,?_,h1,h2,.inl rfl⟩
  refine Jv (D8 Tryz.func103 rfl (by decide)) (ds:=[D.int .i64 v,D.lit .nilIface]) fun w Z vals hZ hvs=> ?_
  obtain⟨x,rfl,hv⟩:=OK hvs
  clear hvs;cases hv;refine(Any.strconv_Atoi_ok Tryz.laysAtC s (by omega) v h w).mono ?_
  rintro e w' ⟨rfl,hw⟩
  refine⟨_,rfl,?_,rfl,fun j x v hx hv=> ?_⟩
  ·rcases hw with rfl|⟨t,rfl⟩
   ·exact Below.refl _ _
   ·exact YO w _ t
  ·match j,hx,hv with
   |0,hx,hv=>cases hx;cases hv;exact .int _ _
   |1,hx,hv=>cases hx;cases hv;exact .lit _ rfl
 |range=>
  have hsat: -9223372036854775808≤Lib.atoiSat s.data.toList∧Lib.atoiSat s.data.toList≤9223372036854775807:=by
   unfold Lib.atoiSat;split<;>decide
  refine⟨Lib.atoiSat s.data.toList,.nn,?_,hsat.1,hsat.2,.inr rfl⟩
  refine Jv (D8 Tryz.func103 rfl (by decide)) (ds:=[D.int .i64 (Lib.atoiSat s.data.toList),D.nn]) fun w Z vals hZ hvs=> ?_
  obtain⟨x,rfl,hv⟩:=OK hvs
  clear hvs;cases hv;obtain⟨ev,he,hev⟩:=(hg w hZ.gw).2;refine(Any.strconv_Atoi_range Tryz.laysAtC s (by omega) h ev w he hev).mono ?_
  rintro e w' ⟨N,rfl,hN,hc,hb⟩
  refine⟨_,rfl,hb,rfl,fun j x v hx hv=> ?_⟩
  match j,hx,hv with
  |0,hx,hv=>cases hx;cases hv;exact .int _ _
  |1,hx,hv=>cases hx;cases hv;exact .nn _ _
 |_=>
  refine⟨0,.nn,?_,by decide,by decide,.inr rfl⟩
  refine Jv (D8 Tryz.func103 rfl (by decide)) (ds:=[D.int .i64 0,D.nn]) fun w Z vals hZ hvs=> ?_
  obtain⟨x,rfl,hv⟩:=OK hvs
  clear hvs;cases hv;obtain⟨ev,he,hev⟩:=(hg w hZ.gw).1;refine(Any.strconv_Atoi_syntax Tryz.laysAtC s (by omega) h ev w he hev).mono ?_
  rintro e w' ⟨N,rfl,hN,hc,hb⟩
  refine⟨_,rfl,hb,rfl,fun j x v hx hv=> ?_⟩
  match j,hx,hv with
  |0,hx,hv=>cases hx;cases hv;exact .int _ _
  |1,hx,hv=>cases hx;cases hv;exact .nn _ _
end Go.Va
namespace Go.Va
open Int renaming natCast_add → qA, natCast_mul → qB, natCast_emod → qC, natCast_ediv → qD, natCast_pow → qE
open List renaming reduceReplicate → qF
open Go.Proofs
def DW(ns:List ByteArray):Bool:=decide (ns.length≤60)&&ns.all fun s=>decide (s.size≤30)
theorem Qj(ns:List ByteArray):CallsF Tryz.prog 4 [.c (A6 ns)] (.u (.c (.d (.bool (DW ns))))):=by
 obtain⟨r,hr⟩: ∃r,r=DW ns:=⟨_,rfl⟩
 rw[←hr]
 unfold DW at hr;unfold A6;refine cO Tryz.func4 rfl ?_;by_cases c0:ns.length≤60
 case neg=>
  have e1:60<ns.length:=by omega
  rw[decide_eq_false c0,Bool.false_and]at hr
  subst hr;simp -implicitDefEqProofs[jJ,-qA,-qB,e1]
 have e1: ¬60<ns.length:=by omega
 rw[decide_eq_true c0,Bool.true_and]at hr
 simp -implicitDefEqProofs[jJ,-qA,-qB,e1];refine AV (fun i:Nat=>⟨[(3,vI .i64 i),(0,vC (.d (EC D.str ns)))],[]⟩)
  (fun i=>i≤ns.length∧CB (fun s:ByteArray=>decide (s.size≤30)) ns i) (fun i=>ns.length - i) 0 (by simp[AW,lk,St.le,vI,vC]) ⟨by omega,HJ _ _⟩ ?_
 rintro i ⟨hi,he⟩
 by_cases h:i<ns.length
 ·have g0:ns[i]? =some ns[i]:=AD h
  have hs:=fun q=>Iu h he q
  have hn:=fun q=>Is h (p:=fun s:ByteArray=>decide (s.size≤30)) q
  clear he;by_cases c1:ns[i].size≤30
  ·have d1: ¬30<ns[i].size:=by omega
   simp -implicitDefEqProofs[jJ,-qA,-qB,h,g0,d1];exact⟨by omega,⟨by omega,hs (by simp[c1])⟩,by omega⟩
  ·have d1:30<ns[i].size:=by omega
   rw[hn (by simp[c1])]at hr
   subst hr;simp -implicitDefEqProofs[jJ,-qA,-qB,h,g0,d1]
 ·have hi2:i=ns.length:=by omega
  subst hi2;rw[HZ he]at hr;subst hr;simp -implicitDefEqProofs[jJ,-qA,-qB]
theorem jjM{ns:List ByteArray}{ds:List Der}{gs:List Grd}{n:Int}{s:List UInt8}{xs:List Der}{ys:List Grd}{m e:Int}(h:KQ ns ds gs n s=(xs,ys,m,e))(he:e≠0):xs=[]∧ys=[]:=by
 have z: ∀k c:Int,(([],[],k,c):List Der×List Grd×Int×Int)=(xs,ys,m,e)→xs=[]∧ys=[]:=fun k c q=>by
  simp only[Prod.mk.injEq]at q;exact⟨q.1.symm,q.2.1.symm⟩
 induction hk:s.length using Nat.strongRecOn generalizing ds gs n s with
 |ind k ih=>
  rw[KQ]at h
  split at h
  ·simp only[Prod.mk.injEq]at h;exact absurd h.2.2.2.symm he
  split at h
  ·rename_i h0 hc
   have hlt:=Vk (by simp) hc
   split at h
   ·split at h
    ·exact z _ _ h
    ·exact ih _ (by omega) h rfl
   ·split at h
    ·exact z _ _ h
    ·exact ih _ (by omega) h rfl
  ·exact z _ _ h
theorem jj3{ns:List ByteArray}(h:DW ns=true):ns.length≤60∧ ∀s∈ns,s.size≤30:=by
 unfold DW at h;simp only[AR,decide_eq_true_eq,jzy]at h;exact h
theorem jjo{n:Int}{g:Grd}(h:errG n g=0):g.args.length≤4:=by
 have hk:grdN g.kind≤4:=by
  unfold grdN
  repeat' split
  all_goals decide
 unfold errG at h;by_cases e:grdN g.kind= -1
 ·rw[if_pos e]at h;cases h
 ·rw[if_neg e]at h
  by_cases e2:(g.args.length:Int)≠grdN g.kind
  ·rw[if_pos e2]at h;cases h
  ·omega
theorem jo9(s:ByteArray)(ns:List ByteArray):CallsF Tryz.prog 3 [.c (.str s),.c (A6 ns)] (.u (.c (.d (.bool true)))):=by
 have kn:=Qj ns;have ka:=Z9;by_cases hs:s.size≤1500
 case neg=>
  have hs:1500<s.size:=by omega
  refine cO Tryz.func3 rfl ?_;simp -implicitDefEqProofs[jJ,-qA,-qB,hs]
  (first|refine Ac ka ?_|refine Ae ka ?_)
  simp -implicitDefEqProofs[jJ,-qA,-qB]
 have hs': ¬1500<s.size:=by omega
 cases hn:DW ns with
 |false=>
  rw[hn]at kn
  refine cO Tryz.func3 rfl ?_;simp -implicitDefEqProofs[jJ,-qA,-qB,hs']
  (first|refine Ac kn ?_|refine Ae kn ?_)
  simp -implicitDefEqProofs[jJ,-qA,-qB]
  (first|refine Ac ka ?_|refine Ae ka ?_)
  simp -implicitDefEqProofs[jJ,-qA,-qB]
 |true=>
 rw[hn]at kn
 obtain⟨n1,n2⟩:=jj3 hn
 have kr:=jgJ ns n1 n2;cases hr:Rh ns with
 |false=>
  rw[hr]at kr
  refine cO Tryz.func3 rfl ?_;simp -implicitDefEqProofs[jJ,-qA,-qB,hs']
  (first|refine Ac kn ?_|refine Ae kn ?_)
  simp -implicitDefEqProofs[jJ,-qA,-qB]
  (first|refine Ac kr ?_|refine Ae kr ?_)
  simp -implicitDefEqProofs[jJ,-qA,-qB]
  (first|refine Ac ka ?_|refine Ae ka ?_)
  simp -implicitDefEqProofs[jJ,-qA,-qB]
 |true=>
 rw[hr]at kr
 have hok:=jgB hr;have k1:=jdP (fun x hx=>jm3 (fun w h=>h.2.2) x hx) ns hok.2 n1 n2 s (by omega)
 have k2:=job ns hok n1 n2 s hs;obtain⟨⟨xs,ys,m,e⟩,hR⟩: ∃R,R=KQ ns [] [] 1 (B s):=⟨_,rfl⟩;rw[←hR]at k1 k2;unfold PA at k1 k2;simp only at k1 k2;have hw: ∀x∈xs,x.fact.Wide:=by
  have:=jlh (ns:=ns) (ds:=[]) (gs:=[]) (n:=1) (s:=B s) (fun x hx=>by cases hx)
  rwa [←hR]at this
 have k4:CallsF Tryz.prog 9 [.agg [Dh xs,Dd ys],.agg [Dh xs,Dd ys]] (.u (.c (.d (.bool true)))):=by
  by_cases he:e=0
  ·subst he;obtain⟨h1,h2,h3,h4,h5⟩:=jmN hok.2 (jlv ns) (fun g hg=>by cases hg) hR.symm
   rw[Hg,List.length_nil]at h4 h5
   refine jiM xs ys (fun x hx=> ?_) (fun g hg=> ?_) (by omega) (by omega)
   ·obtain⟨i,hi,rfl⟩:=List.mem_iff_getElem.1 hx
    have hd:=h1 i _ (AD hi);have hf:wrong xs[i].fact ns.length=0:=by
     have e:=hd.e;unfold lineE at e;split at e
     ·cases e
     ·exact e
    exact⟨hw _ hx,(RS hf).2.2.2.1,by have:=hd.p;have:=ji1 xs[i].rule;omega⟩
   ·have:=jjo (h2 g hg)
    unfold Grd.Short;omega
  ·have hz:xs=[]∧ys=[]:=jjM hR.symm he
   rw[hz.1,hz.2]
   exact jiM [] [] (fun x hx=>by cases hx) (fun g hg=>by cases hg) (by simp) (by simp)
 refine cO Tryz.func3 rfl ?_;simp -implicitDefEqProofs[jJ,-qA,-qB,hs']
 (first|refine Ac kn ?_|refine Ae kn ?_)
 simp -implicitDefEqProofs[jJ,-qA,-qB]
 (first|refine Ac kr ?_|refine Ae kr ?_)
 simp -implicitDefEqProofs[jJ,-qA,-qB]
 (first|refine Ac k1 ?_|refine Ae k1 ?_)
 simp -implicitDefEqProofs[jJ,-qA,-qB]
 (first|refine Ac k2 ?_|refine Ae k2 ?_)
 simp -implicitDefEqProofs[jJ,-qA,-qB]
 (first|refine Ac k4 ?_|refine Ae k4 ?_)
 simp -implicitDefEqProofs[jJ,-qA,-qB]
 (first|refine Ac ka ?_|refine Ae ka ?_)
 simp -implicitDefEqProofs[jJ,-qA,-qB]
end Go.Va
