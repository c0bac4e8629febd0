/- a part of the proof -/
import Derived.Test.YtljdeoefpialhaaGreatDoorHay
import Derived.Test.YtljdeoefpialhaaGreatDoorHan
set_option linter.all false
set_option maxHeartbeats 4000000
set_option maxRecDepth 100000
namespace Go.Va
open Int renaming natCast_add → qA, natCast_mul → qB, natCast_emod → qC, natCast_ediv → qD, natCast_pow → qE
open List renaming reduceReplicate → qF
open Go.Proofs
theorem ji6(s:ByteArray):CallsF Tryz.prog 76 [.c (.str s)] (.u (.c (.d (.bool (nameB s))))):=by
 have kk:=jja;obtain⟨L,hL⟩: ∃L,kwL=L:=⟨_,rfl⟩;have hl:L.length=29:=by rw[←hL];rfl
 by_cases h0:s={ data:= #[] }
 ·have e:nameB s=false:=by subst h0;rfl
  rw[e]
  refine cO Tryz.func76 rfl ?_;simp -implicitDefEqProofs[jJ,-qA,-qB,h0]
 have hp:=TC h0;by_cases h20:20<s.size
 ·have e:nameB s=false:=by
   unfold nameB;have: ¬s.size≤20:=by omega
   simp[this]
  rw[e]
  refine cO Tryz.func76 rfl ?_;simp -implicitDefEqProofs[jJ,-qA,-qB,h0,h20]
 obtain⟨k,hk,k2,k3⟩:=UZ (s[0]).toNat (s[0]).toNat_lt
 have hh:=SF hp;by_cases hk2:k=2
 ·have he:=jdh s (by omega)
  by_cases ha:Hd s<s.size
  ·have e:nameB s=false:=by
    unfold nameB;rw[endN_all.1 ha];simp
   rw[e]
   refine cO Tryz.func76 rfl ?_;simp -implicitDefEqProofs[jJ,-qA,-qB,h0,h20,hp]
   (first|refine Ac hk ?_|refine Ae hk ?_)
   simp -implicitDefEqProofs[jJ,-qA,-qB,hk2]
   (first|refine Ac he ?_|refine Ae he ?_)
   simp -implicitDefEqProofs[jJ,-qA,-qB,ha]
  ·have hall:s.data.toList.all BS=true:=by
    cases h:s.data.toList.all BS with
    |true=>rfl
    |false=>exact absurd (endN_all.2 h) ha
   have e:nameB s= !L.any fun w=>decide (w=s):=by
    unfold nameB;rw[hall,hh,hL];have: ¬s.size=0:=by omega
    simp[this,k2.1 hk2]
    omega
   rw[e]
   rw[hL]at kk
   clear hL e hall hh;refine cO Tryz.func76 rfl ?_;simp -implicitDefEqProofs[jJ,-qA,-qB,h0,h20,hp]
   (first|refine Ac hk ?_|refine Ae hk ?_)
   simp -implicitDefEqProofs[jJ,-qA,-qB,hk2]
   (first|refine Ac he ?_|refine Ae he ?_)
   simp -implicitDefEqProofs[jJ,-qA,-qB,ha]
   (first|refine Ac kk ?_|refine Ae kk ?_)
   simp -implicitDefEqProofs[jJ,-qA,-qB,hl];refine AV (fun i:Nat=>⟨[(27,vI .i64 i),(26,vI .i64 29),(25,vC (.sl 25 0 29)),(0,vC (.d (.str s)))],[(25,.row 1 (L.map D.str) true)]⟩)
    (fun i=>i≤29∧ ∀j (h:j<L.length),j<i→ ¬L[j]=s) (fun i=>29 - i) 0 (by simp[AW,lk,St.le,vI,vC]) ⟨by omega,fun j h hj=>by omega⟩ ?_
   rintro i ⟨h1,h2⟩
   by_cases h:i<29
   ·have hi:i<L.length:=by omega
    by_cases hx:L[i]=s
    ·have e:(L.any fun w=>decide (w=s))=true:=List.any_eq_true.2 ⟨_,AZ hi,by simpa using hx⟩
     rw[e]
     simp -implicitDefEqProofs[jJ,-qA,-qB,h,hi,hx,hl]
    ·simp -implicitDefEqProofs[jJ,-qA,-qB,h,hi,hx,hl];exact⟨by omega,⟨by omega,fun j hj hp=>if e:j=i then by subst e;exact hx else h2 j (by omega) (by omega)⟩,by omega⟩
   ·have e:(L.any fun w=>decide (w=s))=false:=by
     rw[List.any_eq_false]
     intro x hx;obtain⟨j,hj,rfl⟩:=List.mem_iff_getElem.1 hx
     simpa using h2 j hj (by omega)
    rw[e]
    simp -implicitDefEqProofs[jJ,-qA,-qB,h]
 ·have e:nameB s=false:=by
   unfold nameB;rw[hh];have:CY (s[0]).toNat=false:=by
    cases h:CY (s[0]).toNat with
    |true=>exact absurd (k2.2 h) hk2
    |false=>rfl
   simp[this]
  rw[e]
  refine cO Tryz.func76 rfl ?_;simp -implicitDefEqProofs[jJ,-qA,-qB,h0,h20,hp]
  (first|refine Ac hk ?_|refine Ae hk ?_)
  simp -implicitDefEqProofs[jJ,-qA,-qB,hk2]
theorem Tl{s:ByteArray}{i:Nat}(h:i<s.size)(hb:(s[i]).toNat<128):Utf8.decode s i=((s[i]).toNat,1):=by
 have e:s.get! i=s[i]:=by
  have h':i<s.data.size:=h
  show s.data[i]! =_
  rw[getElem!_pos s.data i h']
  rfl
 unfold Utf8.decode;simp only[Nat.add_zero,e];rw[if_pos hb]
theorem SO{x:UInt8}(h:BS x=true):x.toNat<128:=by
 unfold BS CY DW at h;simp at h;omega
theorem Vy(s:ByteArray):CallsF Tryz.prog 96 [.c (.str s)] (.u (.c (.d (.bool (nameB s))))):=by
 have kk:=Zr;obtain⟨L,hL⟩: ∃L,kwL=L:=⟨_,rfl⟩;have hl:L.length=29:=by rw[←hL];rfl
 by_cases h0:s={ data:= #[] }
 ·have e:nameB s=false:=by subst h0;rfl
  rw[e]
  refine cO Tryz.func96 rfl ?_;simp -implicitDefEqProofs[jJ,-qA,-qB,h0]
 have hp:=TC h0;by_cases h20:20<s.size
 ·have e:nameB s=false:=by
   unfold nameB;have: ¬s.size≤20:=by omega
   simp[this]
  rw[e]
  refine cO Tryz.func96 rfl ?_;simp -implicitDefEqProofs[jJ,-qA,-qB,h0,h20]
 have hk:=Uf (s[0]).toNat (s[0]).toNat_lt;have hh:=SF hp;cases hk2:CY (s[0]).toNat with
 |true=>
  rw[hk2]at hk
  refine cO Tryz.func96 rfl ?_;simp -implicitDefEqProofs[jJ,-qA,-qB,h0,h20,hp]
  (first|refine Ac hk ?_|refine Ae hk ?_)
  simp -implicitDefEqProofs[jJ,-qA,-qB];have hb:=fun i (h:i<s.size)=>H9 s h
  refine AV (fun i:Nat=>⟨[(20,vC (.mp true 20)),(0,vC (.d (.str s)))],[(20,.mp (.it s i))]⟩)
   (fun i=>i≤s.size∧(s.data.toList.take i).all BS=true) (fun i=>s.size - i) 0 (by simp[AW,lk,St.le,vI,vC]) ⟨by omega,by simp⟩ ?_
  rintro i ⟨h1,h2⟩
  by_cases h:i<s.size
  ·have kl:=Uf (s[i]).toNat (s[i]).toNat_lt;have kd:=YY (s[i]).toNat (s[i]).toNat_lt;simp -implicitDefEqProofs[jJ,-qA,-qB,h];cases hl1:CY (s[i]).toNat with
   |true=>
    have hld:BS s[i]=true:=by unfold BS;rw[hl1];rfl
    have hn:=Kq h h2 hld;have hde:=Tl h (SO hld);rw[hl1]at kl
    (first|refine Ac kl ?_|refine Ae kl ?_)
    simp -implicitDefEqProofs[jJ,-qA,-qB,hde];exact⟨⟨h,by rw[←jzy];exact hn⟩,by omega⟩
   |false=>
    rw[hl1]at kl
    cases hd1:DW (s[i]).toNat with
    |true=>
     have hld:BS s[i]=true:=by unfold BS;rw[hd1,Bool.or_true]
     have hn:=Kq h h2 hld;have hde:=Tl h (SO hld);rw[hd1]at kd
     (first|refine Ac kl ?_|refine Ae kl ?_)
     simp -implicitDefEqProofs[jJ,-qA,-qB,h,hde]
     (first|refine Ac kd ?_|refine Ae kd ?_)
     simp -implicitDefEqProofs[jJ,-qA,-qB,hde];exact⟨⟨h,by rw[←jzy];exact hn⟩,by omega⟩
    |false=>
     have hld:BS s[i]=false:=by unfold BS;rw[hl1,hd1];rfl
     have e:nameB s=false:=by
      unfold nameB;have:s.data.toList.all BS=false:=by
       rw[List.all_eq_false]
       exact⟨_,BY (H9 s h),by simp[hld]⟩
      rw[this]
      simp
     rw[hd1]at kd
     rw[e]
     (first|refine Ac kl ?_|refine Ae kl ?_)
     simp -implicitDefEqProofs[jJ,-qA,-qB,h]
     (first|refine Ac kd ?_|refine Ae kd ?_)
     simp -implicitDefEqProofs[jJ,-qA,-qB]
  ·simp -implicitDefEqProofs[jJ,-qA,-qB,h];have hall:s.data.toList.all BS=true:=by
    rw[Ba (by rw[IU];omega)]at h2
    exact h2
   have e:nameB s= !L.any fun w=>decide (w=s):=by
    unfold nameB;rw[hall,hh,hL];have: ¬s.size=0:=by omega
    simp[this,hk2]
    omega
   rw[e]
   rw[hL]at kk
   clear hL e hall hh
   (first|refine Ac kk ?_|refine Ae kk ?_)
   simp -implicitDefEqProofs[jJ,-qA,-qB,hl];refine AV (fun i:Nat=>⟨[(38,vI .i64 i),(37,vI .i64 29),(36,vC (.sl 36 0 29)),(0,vC (.d (.str s)))],[(36,.row 1 (L.map D.str) true)]⟩)
    (fun i=>i≤29∧ ∀j (h:j<L.length),j<i→ ¬L[j]=s) (fun i=>29 - i) 0 (by simp[AW,lk,St.le,vI,vC]) ⟨by omega,fun j h hj=>by omega⟩ ?_
   rintro i ⟨g1,g2⟩
   by_cases g:i<29
   ·have hi:i<L.length:=by omega
    by_cases hx:L[i]=s
    ·have e:(L.any fun w=>decide (w=s))=true:=List.any_eq_true.2 ⟨_,AZ hi,by simpa using hx⟩
     rw[e]
     have hx2:s=L[i]:=hx.symm
     simp -implicitDefEqProofs[jJ,-qA,-qB,g,hi,hx,hl]
    ·have hx2: ¬s=L[i]:=fun h=>hx h.symm
     simp -implicitDefEqProofs[jJ,-qA,-qB,g,hi,hx,hx2,hl];exact⟨by omega,⟨by omega,fun j hj hp=>if e:j=i then by subst e;exact hx else g2 j (by omega) (by omega)⟩,by omega⟩
   ·have e:(L.any fun w=>decide (w=s))=false:=by
     rw[List.any_eq_false]
     intro x hx;obtain⟨j,hj,rfl⟩:=List.mem_iff_getElem.1 hx
     simpa using g2 j hj (by omega)
    rw[e]
    simp -implicitDefEqProofs[jJ,-qA,-qB,g]
 |false=>
  have e:nameB s=false:=by
   unfold nameB;rw[hh];simp[hk2]
  rw[e]
  rw[hk2]at hk
  refine cO Tryz.func96 rfl ?_;simp -implicitDefEqProofs[jJ,-qA,-qB,h0,h20,hp]
  (first|refine Ac hk ?_|refine Ae hk ?_)
  simp -implicitDefEqProofs[jJ,-qA,-qB]
end Go.Va
namespace Go.Va
def CB{α:Type}(p:α→Bool)(l:List α)(k:Nat):Prop:=(l.take k).all p=true
theorem HJ{α:Type}(p:α→Bool)(l:List α):CB p l 0:=by simp[CB]
theorem Iu{α:Type}{p:α→Bool}{l:List α}{k:Nat}(h:k<l.length)(hk:CB p l k)(h1:p l[k]=true):CB p l (k+1):=by
 unfold CB at*;rw[Cr h,List.all_append,hk];simp[h1]
theorem HZ{α:Type}{p:α→Bool}{l:List α}(h:CB p l l.length):l.all p=true:=by
 unfold CB at h
 rwa [BM]at h
theorem Is{α:Type}{p:α→Bool}{l:List α}{k:Nat}(h:k<l.length)(h1:p l[k]=false):l.all p=false:=by
 rw[Bool.eq_false_iff]
 intro hc;rw[jzy]at hc;rw[hc _ (AZ h)]at h1;cases h1
def Di(n:Int)(a:Int):Bool:=decide (a<0)||decide (n≤a)
def FE(n:Int)(l:List Int)(k:Nat):Prop:=(l.take k).any (Di n)=false
theorem jim(n:Int)(l:List Int):FE n l 0:=by simp[FE]
theorem jbJ{n:Int}{l:List Int}{k:Nat}(h:k<l.length)(hk:FE n l k)(h1: ¬l[k]<0)(h2: ¬n≤l[k]):FE n l (k+1):=by
 unfold FE at*;rw[Cr h,List.any_append,hk];simp[Di,h1,h2]
theorem jfJ{n:Int}{l:List Int}(h:FE n l l.length):l.any (Di n)=false:=by
 unfold FE at h
 rwa [BM]at h
theorem Rw{n:Int}{l:List Int}{k:Nat}(h:k<l.length)(h1:l[k]<0∨n≤l[k]):l.any (Di n)=true:=List.any_eq_true.2 ⟨_,AZ h,by simpa [Di]using h1⟩
end Go.Va
namespace Go.Va
open Int renaming natCast_add → qA, natCast_mul → qB, natCast_emod → qC, natCast_ediv → qD, natCast_pow → qE
open List renaming reduceReplicate → qF
open Go.Proofs
@[simp]theorem jnO(h:List (Nat×Blk))(l:List Stp)(k:Int):sliceV h (.d (Bx l)) none (some k) 6=if 0≤k∧k≤l.length then some (.d (Bx (l.take k.toNat))) else none:=by
 unfold Bx sliceV Gb;simp only[Qu,if_true,Option.getD_none,Option.getD_some,Int.toNat_zero,Nat.sub_zero];by_cases hk:0≤k∧k≤l.length
 ·rw[if_pos hk,if_pos (by omega)]
  simp only[AP,Nat.zero_mul,List.drop_zero,jnj Stp.ds_len,A8];rw[Bs (by omega)]
 ·rw[if_neg hk,if_neg (by omega)]
def Im(s:Stp):Bool:=if s.kind=2 then ratOk s.neg s.abs s.den else noRat s.neg s.abs s.den
def Jn(s:ByteArray):Bool:=decide (s={ data:= #[] })
def errT(before:List Stp)(i:Nat)(s:Stp):Int:=
 if stepN s.kind<0 then 8 else if (s.args.length:Int)≠stepN s.kind then 1 else if s.args.any (Di i) then 2 else if Im s=false then 1 else if Jn s.name then 0 else if nameB s.name=false then 6
 else if before.any (fun t=>decide (t.name=s.name)) then 7 else 0
theorem jad(l:List Stp)(i:Nat)(h:i<l.length)(hl:l.length≤1000)(ho:l[i].Ok):
  CallsF Tryz.prog 37 [.c (Bx l),.c (.int .i64 i)] (.u (.c (.d (.int .i64 (errT (l.take i) i l[i]))))):=by
 have k1:=jfV l[i].kind;have k2:=Qa l[i].neg l[i].abs l[i].den ho.oa ho.la ho.od ho.ld;have k3:=jeX l[i].neg l[i].abs l[i].den;have k4:=Vy l[i].name;have g:=E3 h;have hat:=fun j (hj:j<i)=>E3 (l:=l) (i:=j) (by omega)
 have hsn:stepN l[i].kind≤4:=by
  unfold stepN;split
  ·omega
  split
  ·omega
  split
  ·omega
  split<;>omega
 have hbn:(∀j (hj:j<i),¬(l[j]'(by omega)).name=l[i].name)→(l.take i).any (fun t=>decide (t.name=l[i].name))=false:=fun hh=>by
  rw[List.any_eq_false]
  intro x hx;obtain⟨j,hj,rfl⟩:=List.mem_iff_getElem.1 hx;simp only[A8]at hj;rw[List.getElem_take]
  simpa using hh j (by omega)
 have hby: ∀j (hj:j<i),(l[j]'(by omega)).name=l[i].name→(l.take i).any (fun t=>decide (t.name=l[i].name))=true:=fun j hj hh=>by
  rw[List.any_eq_true]
  refine⟨l[j]'(by omega),?_,by simpa using hh⟩
  rw[List.mem_iff_getElem]
  exact⟨j,by simp only[A8];omega,List.getElem_take ..⟩
 unfold errT Im Jn;clear ho;generalize (l.take i).any (fun t=>decide (t.name=l[i].name))=bt at*
 generalize hs:l[i]=s at*;generalize stepN s.kind=sn at*;generalize ratOk s.neg s.abs s.den=rb at*;generalize noRat s.neg s.abs s.den=nb at*;generalize nameB s.name=nm at*;obtain⟨an,han⟩: ∃an,an=s.args.any (Di i):=⟨_,rfl⟩;rw[←han];refine cO Tryz.func37 rfl ?_;simp -implicitDefEqProofs[jJ,-qA,-qB,-qF,h,g]
 (first|refine Ac k1 ?_|refine Ae k1 ?_)
 by_cases h1:sn<0
 ·simp -implicitDefEqProofs[jJ,-qA,-qB,-qF,h1]
 ·simp -implicitDefEqProofs[jJ,-qA,-qB,-qF,h1];refine AA (Ah [0,1,3,0,8,24,63]) [.any [] [] (Aq [[5],[18],[19],[5],[21],[22]]),.one] (by rfl) ?_
  simp -implicitDefEqProofs[jJ,-qA,-qB,-qF]
  (first|refine Ac k1 ?_|refine Ae k1 ?_)
  by_cases h2:(s.args.length:Int)=sn
  ·simp -implicitDefEqProofs[jJ,-qA,-qB,-qF,h2];refine AV (fun k:Nat=>⟨[(28,vI .i64 k),(27,vI .i64 s.args.length),(26,vC (.d (intsD s.args))),(0,vC (.d (Bx l))),(1,vI .i64 i),(5,vC (.ptr 5 0))],[(5,.box [.d (.int .i64 s.kind),.d (.str s.name),.d (intsD s.args),.d (.bool s.neg),.d (Ad s.abs),.d (Ad s.den)])]⟩)
    (fun k=>k≤s.args.length∧FE i s.args k) (fun k=>s.args.length - k) 0 (by simp[AW,lk,St.le,vI,vC,h2]) ⟨by omega,jim _ _⟩ ?_
   rintro k ⟨hk,hno⟩
   by_cases hkl:k<s.args.length
   ·have g0:s.args[k]? =some s.args[k]:=AD hkl
    by_cases h5:s.args[k]<0
    ·have ha:an=true:=han.trans (Rw hkl (.inl h5))
     simp -implicitDefEqProofs[jJ,-qA,-qB,-qF,hkl,g0,i64,h5,ha]
    ·by_cases h6:(i:Int)≤s.args[k]
     ·have ha:an=true:=han.trans (Rw hkl (.inr h6))
      simp -implicitDefEqProofs[jJ,-qA,-qB,-qF,hkl,g0,i64,h5,h6,ha]
     ·simp -implicitDefEqProofs[jJ,-qA,-qB,-qF,hkl,g0,i64,h5,h6];exact⟨by omega,⟨by omega,jbJ hkl hno h5 h6⟩,by omega⟩
   ·have hk2:k=s.args.length:=by omega
    subst hk2;have ha:an=false:=han.trans (jfJ hno);subst ha;by_cases hkd:s.kind=2
    case' pos=>
     cases rb
     case' true=>
      simp -implicitDefEqProofs[jJ,-qA,-qB,-qF,hkd]
      (first|refine Ac k2 ?_|refine Ae k2 ?_)
      simp -implicitDefEqProofs[jJ,-qA,-qB,-qF,hkd]
    case' neg=>
     cases nb
     case' true=>
      simp -implicitDefEqProofs[jJ,-qA,-qB,-qF,hkd]
      (first|refine Ac k3 ?_|refine Ae k3 ?_)
      simp -implicitDefEqProofs[jJ,-qA,-qB,-qF]
    case' pos.false=>
     simp -implicitDefEqProofs[jJ,-qA,-qB,-qF,hkd]
     (first|refine Ac k2 ?_|refine Ae k2 ?_)
     simp -implicitDefEqProofs[jJ,-qA,-qB,-qF]
    case' neg.false=>
     simp -implicitDefEqProofs[jJ,-qA,-qB,-qF,hkd]
     (first|refine Ac k3 ?_|refine Ae k3 ?_)
     simp -implicitDefEqProofs[jJ,-qA,-qB,-qF]
    all_goals
     refine⟨fun e1 e2=>absurd e1 e2,fun hne=> ?_⟩
     (first|refine Ac k4 ?_|refine Ae k4 ?_)
     cases nm with
     |false=>simp -implicitDefEqProofs[jJ,-qA,-qB,-qF,hne]
     |true=>
      simp -implicitDefEqProofs[jJ,-qA,-qB,-qF,hne];refine⟨by omega,?_⟩
      refine AV (fun k:Nat=>⟨[(71,vI .i64 k),(70,vI .i64 i),(69,vC (.d (Bx (l.take i)))),(5,vC (.ptr 5 0))],[(5,.box [.d (.int .i64 s.kind),.d (.str s.name),.d (intsD s.args),.d (.bool s.neg),.d (Ad s.abs),.d (Ad s.den)])]⟩)
       (fun k=>k≤i∧ ∀j (hj:j<i),j<k→ ¬(l[j]'(by omega)).name=s.name) (fun k=>i - k) 0 (by simp[AW,lk,St.le,vI,vC];omega) ⟨by omega,fun j hj hk=>by omega⟩ ?_
      rintro k ⟨g1,g2⟩
      by_cases hk:k<i
      ·have hkl:k<(l.take i).length:=by rw[A8];omega
       have e2:=E3 hkl;have e3:(l.take i)[k]=l[k]'(by omega):=List.getElem_take ..
       rw[e3]at e2
       by_cases hx:(l[k]'(by omega)).name=s.name
       ·have hby:=hby k hk hx;subst hby;simp -implicitDefEqProofs[jJ,-qA,-qB,-qF,hk,e2,hx];omega
       ·simp -implicitDefEqProofs[jJ,-qA,-qB,-qF,hk,e2,hx];exact⟨by omega,by omega,⟨by omega,fun j hj hp=>if e:j=k then by subst e;exact hx else g2 j hj (by omega)⟩,by omega⟩
      ·have hbt:=hbn fun j hj=>g2 j hj (by omega)
       subst hbt;simp -implicitDefEqProofs[jJ,-qA,-qB,-qF,hk]
  ·simp -implicitDefEqProofs[jJ,-qA,-qB,-qF,h2]
end Go.Va
namespace Go.Va
def Dq:List Int→Int
 |[]=>0
 |e::l=>if e=0 then Dq l else e
theorem Rd{α:Type}{l:List α}{i:Nat}{x:α}(h:l[i]? =some x):l.drop i=x::l.drop (i+1):=by
 obtain⟨hi,rfl⟩:=jzg.1 h
 exact BQ hi
theorem Pi{l:List Int}{i:Nat}{E:Int}(h:l[i]? =some 0)(hE:Dq (l.drop i)=E):Dq (l.drop (i+1))=E:=by
 rw[Rd h]at hE
 simpa [Dq]using hE
theorem PV{l:List Int}{i:Nat}{E e:Int}(h:l[i]? =some e)(he:e≠0)(hE:Dq (l.drop i)=E):e=E:=by
 rw[Rd h]at hE
 simpa [Dq,he]using hE
theorem Vs{l:List Int}{i:Nat}{E:Int}(h:l.length≤i)(hE:Dq (l.drop i)=E):E=0:=by
 rw[List.drop_eq_nil_of_le h]at hE
 exact hE.symm
end Go.Va
namespace Go.Va
open Int renaming natCast_add → qA, natCast_mul → qB, natCast_emod → qC, natCast_ediv → qD, natCast_pow → qE
open List renaming reduceReplicate → qF
open Go.Proofs
theorem K2(k:Int):arity k≤8:=by
 unfold arity;split
 ·omega
 split
 ·omega
 split
 ·omega
 split<;>omega
structure Fct.Long (f:Fct):Prop where
 oa:Va.Ok f.abs
 od:Va.Ok f.den
 la:f.abs.length≤70368744177000
 ld:f.den.length≤70368744177000
theorem jjH(f:Fct)(hf:f.Long)(n:Int):CallsF Tryz.prog 38 [.agg f.ds,.c (.int .i64 n)] (.u (.c (.d (.int .i64 (wrong f n))))):=by
 refine cO Tryz.func38 rfl ?_;obtain⟨kind,args,neg,abs,den⟩:=f;obtain⟨oa,od,la,ld⟩:=hf;simp only at la ld oa od;simp only[Fct.ds,wrong];simp -implicitDefEqProofs[jJ,-qA,-qB]
 (first|refine Ac (It kind) ?_|refine Ae (It kind) ?_)
 have ka:=It kind;have har:=K2 kind;generalize arity kind=ar at*;by_cases h1:ar=0
 ·simp -implicitDefEqProofs[jJ,-qA,-qB,h1]
 simp -implicitDefEqProofs[jJ,-qA,-qB,h1];refine AA (Ah [0,1,3,0,8,24,63]) [.any [] [] (Aq [[2],[11],[12],[2],[14],[15]]),.one] (by rfl) ?_
 simp -implicitDefEqProofs[jJ,-qA,-qB]
 (first|refine Ac ka ?_|refine Ae ka ?_)
 by_cases h2:args.length=ar
 ·simp -implicitDefEqProofs[jJ,-qA,-qB,h1,h2];refine AV (fun i:Nat=>⟨[(21,vI .i64 i),(20,vI .i64 (ar:Nat)),(19,vC (.d (intsD args))),(2,vC (.ptr 2 0)),(1,vI .i64 n)],[(2,.box [.d (.int .i64 kind),.d (intsD args),.d (.bool neg),.d (Ad abs),.d (Ad den)])]⟩) (fun i=>i≤args.length∧(args.drop i).any (fun a=>decide (a<0)||decide (n≤a))=args.any (fun a=>decide (a<0)||decide (n≤a))) (fun i=>args.length - i) 0 (by simp) ⟨by omega,rfl⟩ ?_
  rintro i ⟨h3,h4⟩
  by_cases h:i<args.length
  ·have e:=Lq (p:=fun a=>decide (a<0)||decide (n≤a)) h
   have hk:i<ar:=by omega
   rw[e]at h4
   by_cases h5:args[i]<0
   ·simp -implicitDefEqProofs[jJ,-qA,-qB,h,hk,h5,i64];intro hh;have:=hh _ (AZ h);omega
   ·by_cases h6:n≤args[i]
    ·simp -implicitDefEqProofs[jJ,-qA,-qB,h,hk,h5,h6,i64];intro hh;have:=hh _ (AZ h);omega
    ·simp -implicitDefEqProofs[jJ,-qA,-qB,h,hk,h5,h6,i64];simp only[decide_eq_false h5,decide_eq_false h6,Bool.false_or]at h4;exact⟨by omega,⟨by omega,h4⟩,by omega⟩
  ·have hk: ¬i<ar:=by omega
   have e:i=args.length:=by omega
   rw[e,List.drop_length]at h4
   have h4': ∀x∈args,0≤x∧x<n:=by simpa using h4.symm
   rw[←h4]
   have k1:=Qa neg abs den oa la od ld;have k2:=SB neg abs den;by_cases h9:kind=9
   ·simp -implicitDefEqProofs[jJ,-qA,-qB,hk,h9]
    (first|refine Ac k1 ?_|refine Ae k1 ?_)
    cases ratOk neg abs den<;>simp -implicitDefEqProofs[jJ,-qA,-qB]<;>exact h4'
   ·simp -implicitDefEqProofs[jJ,-qA,-qB,hk,h9]
    (first|refine Ac k2 ?_|refine Ae k2 ?_)
    cases noRat neg abs den<;>simp -implicitDefEqProofs[jJ,-qA,-qB]<;>exact h4'
 ·simp -implicitDefEqProofs[jJ,-qA,-qB,h1,h2]
def D1(l:List Stp):List Int:=l.zipIdx.map fun p=>errT (l.take p.2) p.2 p.1
theorem JE(l:List Stp):(D1 l).length=l.length:=by simp[D1]
theorem Ot{l:List Stp}{i:Nat}(h:i<l.length):(D1 l)[i]? =some (errT (l.take i) i l[i]):=by
 unfold D1;rw[Bf,List.getElem?_zipIdx,AD h];simp
def DR(n:Int)(l:List Fct):List Int:=l.map fun f=>wrong f n
theorem jez(n:Int)(l:List Fct):(DR n l).length=l.length:=by simp[DR]
theorem jfG(n:Int){l:List Fct}{i:Nat}(h:i<l.length):(DR n l)[i]? =some (wrong l[i] n):=by
 unfold DR;rw[Bf,AD h];rfl
def errFig(l:List Stp)(gs:List Fct):Int:=Dq (D1 l++DR l.length gs)
theorem jck{l:List Stp}{gs:List Fct}{i:Nat}(h:i<l.length):(D1 l++DR l.length gs)[i]? =some (errT (l.take i) i l[i]):=by
 rw[List.getElem?_append_left (by rw[JE];exact h),Ot h]
theorem jbx{l:List Stp}{gs:List Fct}{i:Nat}(h:i<gs.length):(D1 l++DR l.length gs)[l.length+i]? =some (wrong gs[i] l.length):=by
 rw[List.getElem?_append_right (by rw[JE];omega),JE,Nat.add_sub_cancel_left,jfG _ h]
theorem Tf(l:List Stp)(gs:List Fct)(hl:l.length≤40)(hg:gs.length≤8)(ho: ∀s∈l,s.Ok)(hgo: ∀g∈gs,g.Long):
  CallsF Tryz.prog 16 [.agg [Bx l,AQ gs]] (.u (.c (.d (.int .i64 (errFig l gs))))):=by
 have k1:=fun i (h:i<l.length)=>jad l i h (by omega) (ho _ (AZ h))
 have k2:=fun i (h:i<gs.length)=>jjH gs[i] (hgo _ (AZ h)) (l.length:Int)
 obtain⟨E,hE⟩: ∃E,Dq ((D1 l++DR l.length gs).drop 0)=E:=⟨_,rfl⟩
 have hE0:errFig l gs=E:=hE
 rw[hE0]
 have q1:=fun i (h:i<l.length)=>jck (gs:=gs) h
 have q2:=fun i (h:i<gs.length)=>jbx (l:=l) h
 have hlen:(D1 l++DR l.length gs).length=l.length+gs.length:=by rw[List.length_append,JE,jez]
 clear hE0 ho hgo;have b1: ¬40<l.length:=by omega
 have b2: ¬8<gs.length:=by omega
 refine cO Tryz.func16 rfl ?_;simp -implicitDefEqProofs[jJ,-qA,-qB,-qF,b1,b2];refine AV (fun i:Nat=>⟨[(21,vI .i64 i),(20,vI .i64 l.length),(1,vC (.ptr 1 0))],[(1,.box [.d (Bx l),.d (AQ gs)])]⟩)
  (fun i=>i≤l.length∧Dq ((D1 l++DR l.length gs).drop i)=E) (fun i=>l.length - i) 0 (by simp[AW,lk,St.le,vI,vC]) ⟨by omega,hE⟩ ?_
 rintro i ⟨hi,hEi⟩
 by_cases h:i<l.length
 ·have k1:=k1 i h;have q1:=q1 i h;generalize errT (l.take i) i l[i]=e at*;simp -implicitDefEqProofs[jJ,-qA,-qB,-qF,h]
  (first|refine Ac k1 ?_|refine Ae k1 ?_)
  by_cases he:e=0
  ·subst he;simp -implicitDefEqProofs[jJ,-qA,-qB,-qF];exact⟨by omega,⟨by omega,Pi q1 hEi⟩,by omega⟩
  ·have hE2:=PV q1 he hEi;subst hE2;simp -implicitDefEqProofs[jJ,-qA,-qB,-qF,he]
 ·have hi2:i=l.length:=by omega
  subst hi2;simp -implicitDefEqProofs[jJ,-qA,-qB,-qF];refine AV (fun i:Nat=>⟨[(35,vI .i64 i),(34,vI .i64 gs.length),(33,vC (.d (AQ gs))),(1,vC (.ptr 1 0))],[(1,.box [.d (Bx l),.d (AQ gs)])]⟩)
   (fun i=>i≤gs.length∧Dq ((D1 l++DR l.length gs).drop (l.length+i))=E) (fun i=>gs.length - i) 0 (by simp[AW,lk,St.le,vI,vC]) ⟨by omega,hEi⟩ ?_
  rintro i ⟨hi,hEi⟩
  by_cases h:i<gs.length
  ·have e2:=Gg h;have k2:=k2 i h;have q2:=q2 i h;generalize wrong gs[i] l.length=e at*;simp only[Fct.ds]at k2;simp -implicitDefEqProofs[jJ,-qA,-qB,-qF,h,e2]
   (first|refine Ac k2 ?_|refine Ae k2 ?_)
   by_cases he:e=0
   ·subst he;simp -implicitDefEqProofs[jJ,-qA,-qB,-qF];exact⟨by omega,⟨by omega,Pi q2 hEi⟩,by omega⟩
   ·have hE2:=PV q2 he hEi;subst hE2;simp -implicitDefEqProofs[jJ,-qA,-qB,-qF,he]
  ·have hi2:i=gs.length:=by omega
   subst hi2;have hE3:=Vs (by omega) hEi
   subst hE3;simp -implicitDefEqProofs[jJ,-qA,-qB,-qF]
end Go.Va
