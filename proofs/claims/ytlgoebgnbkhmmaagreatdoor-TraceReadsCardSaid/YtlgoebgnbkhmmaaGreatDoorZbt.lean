/- a part of the proof -/
import Derived.Test.YtlgoebgnbkhmmaaGreatDoorZbs
import Derived.Test.YtlgoebgnbkhmmaaGreatDoorZbl
import Derived.Test.YtlgoebgnbkhmmaaGreatDoorZbr
import Derived.Test.YtlgoebgnbkhmmaaGreatDoorZbb
import Derived.Test.YtlgoebgnbkhmmaaGreatDoorZbc
set_option linter.all false
set_option maxHeartbeats 4000000
set_option maxRecDepth 10000
namespace Go.Va
open Int renaming natCast_add → qA, natCast_mul → qB, natCast_emod → qC, natCast_ediv → qD, natCast_pow → qE
open List renaming reduceReplicate → qF
open Go.Proofs
def YB:List (List Nat):=(Ah [0,1,0,4,12,31,63,127])
@[simp]def jfs:List Seg:=[.all [[],[0],[],[2],[3],[1,4]],.one,.one]
theorem jmF{f:FuncId}{us us':List U}{b:Blk}{ns:List ByteArray}{s':Ps}{v:V}{dst:Option Nat}{st:St}{K:St→Prop}(h:GJ Tryz.prog f (.c (.ptr 20 0)::us') [.ptr 20 0] [.ptr 20 0] [(20,b)] (AQ s' ns) v)(hu:us.map (U.on (B1 [20]))= .c (.ptr 20 0)::us')(hv: ∀x r,v≠ .tr x r)
  (hb:lk 20 st.h=some b) (hB:b.on (B1 [20])=b) (k:K (st.backH dst [20] [] [.ptr 20 0] [.ptr 20 0] (AQ s' ns) v)):Kl Tryz.prog dst st K f [] us:=
 .inr (.inr (.inr (.inl (.inr (.inr (.inr (.inr (.inr ⟨rfl,[.ptr 20 0],[.ptr 20 0],[(20,b)],AQ s' ns,v,[20],[],by rw[hu];exact h,hv,
  ⟨fun i b' hi=>by simp only[lk]at hi;split at hi<;>cases hi;rename_i e;exact⟨by simp[e],_,e ▸ hb,hB.symm⟩,fun i hi=>by rw[List.mem_singleton.1 hi];rfl,fun i b' hi=>by simp only[AQ,lk]at hi;split at hi<;>cases hi;rename_i e;exact .inl (by simp[e])⟩,k⟩))))))))
def FrR.ds(r:FrR):List RC:=[.d (.int .i64 r.kind),.d (AT r.args),.d (.bool r.r.1),.d (Ad (limbs r.r.2.1)),.d (Ad (limbs r.r.2.2))]
theorem jfG(s:Ps)(h:s.l.length=s.p.length):s.kind.2.l.length=s.kind.2.p.length:=by
 unfold Ps.kind;split
 ·unfold Ps.fail;split<;>exact h
 ·split
  ·unfold Ps.fail;split<;>exact h
  ·unfold Ps.pass;simp[h]
theorem PE(s:Ps)(t:List UInt8)(h:s.l.length=s.p.length):(s.must t).l.length=(s.must t).p.length:=by
 unfold Ps.must;split
 ·unfold Ps.pass;simp[h]
 ·unfold Ps.fail;split<;>exact h
theorem jdz(ns:List ByteArray)(s:Ps)(h:s.l.length=s.p.length):(s.point ns).2.l.length=(s.point ns).2.p.length:=by
 unfold Ps.point;split
 ·unfold Ps.fail;split<;>exact h
 ·split
  ·unfold Ps.pass;simp[h]
  ·unfold Ps.fail;split<;>exact h
theorem U8(s:Ps)(t:List UInt8): ∀w∈(s.must t).l,w∈s.l:=by
 unfold Ps.must;split
 ·exact fun w hw=>List.mem_of_mem_tail hw
 ·unfold Ps.fail;split<;>exact fun w hw=>hw
theorem jhp(s:Ps): ∀w∈s.kind.2.l,w∈s.l:=by
 unfold Ps.kind;split
 ·unfold Ps.fail;split<;>exact fun w hw=>hw
 ·split
  ·unfold Ps.fail;split<;>exact fun w hw=>hw
  ·exact fun w hw=>List.mem_of_mem_tail hw
theorem jaI(ns:List ByteArray)(s:Ps): ∀w∈(s.point ns).2.l,w∈s.l:=by
 unfold Ps.point;split
 ·unfold Ps.fail;split<;>exact fun w hw=>hw
 ·split
  ·exact fun w hw=>List.mem_of_mem_tail hw
  ·unfold Ps.fail;split<;>exact fun w hw=>hw
theorem jis(s:Ps)(h:s.l.length=s.p.length):s.num.2.l.length=s.num.2.p.length:=by
 unfold Ps.num;split
 ·unfold Ps.fail;split<;>exact h
 ·simp only;split
  ·unfold Ps.pass;simp[h]
  ·unfold Ps.fail;split<;>exact h
theorem Xy(k:Int)(ns:List ByteArray): ∀(n i:Nat) (l:List Int) (s:Ps),l.length+n≤8→s.l.length=s.p.length→(KY k ns n i l s).1.length≤8∧(KY k ns n i l s).2.l.length=(KY k ns n i l s).2.p.length∧ ∀w∈(KY k ns n i l s).2.l,w∈s.l
 |0,i,l,s,h1,h2=>⟨by simpa [KY]using h1,h2,fun w hw=>hw⟩
 |n+1,i,l,s,h1,h2=>by
  unfold KY;split
  ·exact⟨by simp only;omega,h2,fun w hw=>hw⟩
  ·split
   ·exact⟨by simp only;omega,h2,fun w hw=>hw⟩
   ·simp only;have h3: ∀S:Ps,S.l.length=S.p.length→(∀w∈S.l,w∈s.l)→_:=fun S e1 e2=>
     have h:=Xy k ns n (i+1) (l++[(S.point ns).1]) (S.point ns).2 (by simp;omega) (jdz ns S e1)
     (⟨h.1,h.2.1,fun w hw=>e2 w (jaI ns S w (h.2.2 w hw))⟩:_∧_∧ ∀w∈(KY k ns n (i+1) (l++[(S.point ns).1]) (S.point ns).2).2.l,w∈s.l)
    by_cases hi:i=0
    ·rw[if_pos hi];exact h3 s h2 fun w hw=>hw
    ·rw[if_neg hi];exact h3 (s.must [44]) (PE s [44] h2) fun w hw=>U8 s [44] w hw
theorem WZ{w x:List UInt8}(h:x∈cw w):x.length≤w.length:=by
 unfold cw at h;split at h
 ·cases h
 ·rw[List.mem_singleton.1 h];exact AO _
theorem ZA: ∀(l w:List UInt8),∀x∈H3 w l,x.length≤w.length+l.length
 |[],w,x,h=>Nat.le_trans (WZ h) (Nat.le_add_right _ _)
 |c::r,w,x,h=>by
  unfold H3 at h;have h0: ∀w,_:=fun w=>ZA r w
  simp only[List.length_cons];split at h
  ·rcases List.mem_append.1 h with h|h
   ·have:=WZ h;omega
   ·have:=h0 [] x h;simp only[List.length_nil]at this;omega
  ·split at h
   ·rcases List.mem_append.1 h with h|h
    ·have:=WZ h;omega
    ·rcases jzn.1 h with rfl|h
     ·simp only[List.length_singleton];omega
     ·have:=h0 [] x h;simp only[List.length_nil]at this;omega
   ·have:=h0 (w++[c]) x h
    simp only[List.length_append,List.length_singleton]at this;omega
theorem jml(s:ByteArray): ∀w∈(psOf s).l,w.size≤s.size:=fun w hw=>by
 have h1:B w∈H3 [] (B s):=by
  rw[←jdC]
  exact List.mem_map_of_mem hw
 have h2:=ZA _ _ _ h1;rw[Hg,Hg]at h2
 simpa using h2
theorem Ty(k:Int):arity k≤8:=by
 unfold arity
 repeat' split
 all_goals omega
theorem jjw{body:St→Bk→Prop}{st:St}{Q:Bk}(p:Exit→St→Prop)(hp: ∀e s,p e s→Q e s)(h: ∀Q',(∀e s,p e s→Q' e s)→HN body st Q'):HN body st Q:=h Q hp
theorem jlk(ns:List ByteArray)(hN:ns.length≤60)(s:ByteArray)(hs:s.size≤20000):CallsF Tryz.prog 101 [.c (.str s),.c (A6 ns)] (.tup [.agg (H0 ns s).ds,.c (.d (.int .i64 (H0 ns s).at_)),.c (.d (.int .i64 (H0 ns s).err))]):=by
 have ks:=jhx ns s (by omega)
 have l0:=UE s (s.size+1);have kk:=jhP ns (psOf s) l0;have l1:=jfG (psOf s) l0;have km:=TL ns (psOf s).kind.2 [40] l1;have l2:=PE _ [40] l1;rw[show Ch [40]={ data:= #[40] } from rfl]at km
 have hsz: ∀w∈((psOf s).kind.2.must [40]).l,w.size<4294967281:=fun w hw=>by
  have:=jml s w (jhp _ w (U8 _ _ w hw))
  omega
 have ka:=jj5 (psOf s).kind.1;unfold H0;rw[if_neg (by omega)]
 have hns: ¬20000<s.size:=by omega
 clear l0 l1;generalize psOf s=S0 at*;generalize S0.kind=q at*;obtain⟨k,S1⟩:=q;simp only at*;generalize S1.must [40]=S2 at*;refine cO Tryz.func101 rfl ?_;simp -implicitDefEqProofs[jJ,-qA,-qB,hns,-jeF];refine .inr (jmF ks rfl (fun x r e=>by cases e) rfl rfl ?_)
 simp -implicitDefEqProofs[jJ,-qA,-qB,-jeF,AQ,St.backH,St.on,Fs,GM,C.same,V.on,U.on,C.on];refine .inr (Dc kk rfl (fun x r e=>by cases e) rfl ?_)
 simp -implicitDefEqProofs[jJ,-qA,-qB,-jeF,AQ,St.backH,St.on,Fs,GM,C.same,V.on,U.on,C.on];refine .inr (Dc km rfl (fun x r e=>by cases e) rfl ?_)
 simp -implicitDefEqProofs[jJ,-qA,-qB,-jeF,AQ,St.backH,St.on,Fs,GM,C.same,V.on,U.on,C.on];obtain⟨R,hR⟩: ∃R,R=KY k ns (arity k) 0 [] S2:=⟨_,rfl⟩;rw[←hR];obtain⟨hRl,hR1,hR2⟩:=Xy k ns (arity k) 0 [] S2 (by have:=Ty k;simp;omega) l2
 rw[←hR]at hRl hR1 hR2
 have hR2: ∀w∈R.2.l,w.size<4294967281:=fun w hw=>hsz w (hR2 w hw)
 refine jjw (fun e s=>e= .exit 0∧ ∃t h,s=⟨t,h⟩∧lk 7 t=some (vC (.ptr 20 0))∧lk 4 t=some (vC (.ptr 4 0))∧lk 4 h=some (.box [.d (.int .i64 k),D3 R.1,.d (.bool false),.nl,.nl])∧lk 20 h=some (Hf R.2 ns)∧(R.1≠[]→lk 901 h=some (.row 1 (R.1.map i64) true))) ?_ ?_
 ·rintro _ _ ⟨rfl,t,h,rfl,h7,h4,b4,b20,b901⟩
  obtain⟨l,S⟩:=R
  simp only at*;have T:Tl k l S [.d (.bool false),.nl,.nl] ns ⟨t,h⟩:=⟨h7,h4,b4,b20,b901⟩;clear h7 h4 b4 b20 b901;obtain⟨q,hq⟩: ∃q,q=if k=9 then (S.must [44]).num else ((false,0,0),S):=⟨_,rfl⟩;rw[←hq];refine X3 (fun s=>Tl k l q.2 (if k=9 then [.d (.bool q.1.1),.d (Ad (limbs q.1.2.1)),.d (Ad (limbs q.1.2.2))] else [.d (.bool false),.nl,.nl]) ns s) ?_ ?_
  ·intro Q' hQ';by_cases h9:k=9
   ·rw[if_pos h9]at hq hQ'
    have k1:=TL ns S [44] hR1;rw[show Ch [44]={ data:= #[44] } from rfl]at k1
    have l1:=PE S [44] hR1;have k2:=jhL ns (S.must [44]) l1 fun w hw=>hR2 w (U8 S [44] w hw)
    rw[←hq]at k2
    obtain⟨h7,h4,b4,b20,b901⟩:=T
    simp -implicitDefEqProofs[jJ,-qA,-qB,HK,h7,h4,b4,h9,-jeF];refine .inr (Ta (l:=l) (k:=k) k1 ⟨by simp[jka,HK,h7],by simp[jka,HK,h4],b4,b20,b901⟩ rfl (fun x r e=>by cases e) rfl (by simp) (by simp) ?_)
    rintro⟨t,h⟩ ⟨h7,h4,b4,b20,b901⟩ -
    simp -implicitDefEqProofs[jJ,-qA,-qB,HK,h7,-jeF];refine .inr (Ta (l:=l) (k:=k) k2 ⟨by simp[jka,HK,h7],by simp[jka,HK,h4],b4,b20,b901⟩ rfl (fun x r e=>by cases e) rfl (by simp) (by simp) ?_)
    rintro⟨t,h⟩ ⟨h7,h4,b4,b20,b901⟩ hv
    simp -implicitDefEqProofs[jJ,-qA,-qB,HK,h4,b4,hv];exact hQ' _ _ ⟨by simp[jka,HK,h7],by simp[jka,HK,h4],by simp[jka,HK,b4],by simp[jka,HK,b20],by simpa [jka,HK]using b901⟩
   ·obtain⟨h7,h4,b4,b20,b901⟩:=T
    rw[if_neg h9]at hq hQ'
    subst hq;simp -implicitDefEqProofs[jJ,-qA,-qB,HK,h7,h4,b4,h9,-jeF];exact hQ' _ _ ⟨by simp[jka,HK,h7],by simp[jka,HK,h4],b4,b20,b901⟩
  ·clear T;have lq:q.2.l.length=q.2.p.length:=by
    rw[hq]
    split
    ·exact jis _ (PE S [44] hR1)
    ·exact hR1
   obtain⟨ab,eab⟩: ∃ab:List C,ab=if k=9 then [.d (.bool q.1.1),.d (Ad (limbs q.1.2.1)),.d (Ad (limbs q.1.2.2))] else [.d (.bool false),.nl,.nl]:=⟨_,rfl⟩
   have ek:ab.map (C.on (Fs [20] [] [.ptr 20 0] [.ptr 20 0]))=ab:=by
    rw[eab];split<;>rfl
   rw[←eab]
   have km:=TL ns q.2 [41] lq;have lm:=PE q.2 [41] lq;rw[show Ch [41]={ data:= #[41] } from rfl]at km
   generalize q.2.must [41]=S1 at*;rintro t h ⟨h7,h4,b4,b20,b901⟩;refine X3 (fun s=>Tl k l S1 ab ns s) ?_ ?_
   ·intro Q' hQ';simp -implicitDefEqProofs[jJ,-qA,-qB,HK,h7,-jeF];refine .inr (Ta (l:=l) (k:=k) km ⟨by simp[jka,HK,h7],by simp[jka,HK,h4],b4,b20,b901⟩ rfl (fun x r e=>by cases e) ek (by simp) (by simp) ?_)
    rintro⟨t,h⟩ T -
    exact hQ' _ _ T
   ·clear h7 h4 b4 b20 b901;rintro t h ⟨h7,h4,b4,b20,b901⟩;have kn:=UC ns S1;have kf:=P3 ns S1 5;refine X3 (fun s=>Tl k l (if S1.nx.isSome=true then S1.fail 5 else S1) ab ns s) ?_ ?_
    ·intro Q' hQ';simp -implicitDefEqProofs[jJ,-qA,-qB,HK,h7,-jeF];refine .inr (Ta (l:=l) (k:=k) kn ⟨by simp[jka,HK,h7],by simp[jka,HK,h4],b4,b20,b901⟩ rfl (fun x r e=>by cases e) ek (by simp) (by simp) ?_)
     rintro⟨t,h⟩ ⟨h7,h4,b4,b20,b901⟩ hv
     unfold L7 at hv;cases hx:S1.nx.isSome
     ·rw[hx]at hv hQ'
      simp -implicitDefEqProofs[jJ,-qA,-qB,HK,hv];exact hQ' _ _ ⟨by simp[jka,HK,h7],by simp[jka,HK,h4],b4,b20,b901⟩
     ·rw[hx]at hv hQ'
      simp -implicitDefEqProofs[jJ,-qA,-qB,HK,hv,h7,-jeF];refine .inr (Ta (l:=l) (k:=k) kf ⟨by simp[jka,HK,h7],by simp[jka,HK,h4],b4,b20,b901⟩ rfl (fun x r e=>by cases e) ek (by simp) (by simp) ?_)
      rintro⟨t,h⟩ T -
      exact hQ' _ _ T
    ·clear h7 h4 b4 b20 b901;rintro t h ⟨h7,h4,b4,b20,b901⟩;generalize (if S1.nx.isSome=true then S1.fail 5 else S1)=S2 at*;obtain⟨x,y,z,hab⟩: ∃x y z,ab=[x,y,z]:=by
      rw[eab];split<;>exact⟨_,_,_,rfl⟩
     subst hab;by_cases hr:S2.r=0
     ·have xyz:(x= .d (.bool q.1.1)∧y= .d (Ad (limbs q.1.2.1))∧z= .d (Ad (limbs q.1.2.2)))∨(x= .d (.bool false)∧y= .nl∧z= .nl∧q.1=(false,0,0)):=by
       by_cases h9:k=9
       ·rw[if_pos h9]at eab
        injections
        exact .inl ⟨by assumption,by assumption,by assumption⟩
       ·rw[if_neg h9]at eab hq
        injections
        exact .inr ⟨by assumption,by assumption,by assumption,by rw[hq]⟩
      by_cases h6:l.length=6
      ·have hl6: ∃a b c d e f,l=[a,b,c,d,e,f]:=by
        match l,h6 with
        |[a,b,c,d,e,f],_=>exact⟨a,b,c,d,e,f,rfl⟩
       obtain⟨a,b,c,d,e,f,rfl⟩:=hl6
       have b901:=b901 (by simp)
       simp only[Qa (show[a,b,c,d,e,f]≠[] by simp)]at b4
       rcases xyz with⟨rfl,rfl,rfl⟩|⟨rfl,rfl,rfl,hq1⟩
       all_goals
        simp -implicitDefEqProofs[jJ,-qA,-qB,HK,h7,h4,b4,b20,hr];refine AA (Ah [0,1,3,0,8,24,0,64,192,0,512,1536,0,4096,12288,0,32768,98304,0,262144,786432,0,2097152,6291456,16777215,33554431,67108863]) [.any [] [] (Aq [[13],[107],[108],[13],[110],[111],[13],[113],[114],[13],[116],[117],[13],[119],[120],[13],[122],[123],[13],[125],[126],[13],[128],[129]]),.one,.one,.one] (by rfl) ?_
        simp -implicitDefEqProofs[jJ,-qA,-qB,HK,jc4,jbZ,h7,h4,b4,b20,b901,-St.new,VF,VO,wide,FrR.ds]
        try simp only[hq1]
        all_goals first|rfl|exact⟨rfl,rfl⟩|exact⟨trivial,rfl,rfl⟩|exact⟨rfl,trivial,rfl,rfl⟩
      ·have hw:wide l=l:=Zr h6
       rw[hw]
       by_cases hl:l=[]
       ·subst hl;rcases xyz with⟨rfl,rfl,rfl⟩|⟨rfl,rfl,rfl,hq1⟩
        ·simp -implicitDefEqProofs[jJ,-qA,-qB,HK,h7,h4,b4,b20,hr,TG,FrR.ds]
         all_goals first|rfl|exact⟨rfl,rfl⟩|exact⟨trivial,rfl,rfl⟩|exact⟨rfl,trivial,rfl,rfl⟩
        ·simp -implicitDefEqProofs[jJ,-qA,-qB,HK,h7,h4,b4,b20,hr,TG,hq1,FrR.ds]
         all_goals first|rfl|exact⟨rfl,rfl⟩|exact⟨trivial,rfl,rfl⟩|exact⟨rfl,trivial,rfl,rfl⟩
       ·have b901:=b901 hl;rw[Qa hl]at b4;rcases xyz with⟨rfl,rfl,rfl⟩|⟨rfl,rfl,rfl,hq1⟩
        ·simp -implicitDefEqProofs[jJ,-qA,-qB,HK,h7,h4,b4,b20,hr,h6,hl,b901,FrR.ds]
         all_goals first|rfl|exact⟨rfl,rfl⟩|exact⟨trivial,rfl,rfl⟩|exact⟨rfl,trivial,rfl,rfl⟩
        ·simp -implicitDefEqProofs[jJ,-qA,-qB,HK,h7,h4,b4,b20,hr,h6,hl,b901,hq1,FrR.ds]
         all_goals first|rfl|exact⟨rfl,rfl⟩|exact⟨trivial,rfl,rfl⟩|exact⟨rfl,trivial,rfl,rfl⟩
     ·simp -implicitDefEqProofs[jJ,-qA,-qB,HK,h7,b20,hr];refine AA (Ah [0,0,2,6,14,0,32,96,224,1,543,2047]) [.any [] [] [⟨0,[],[],[],[]⟩,⟨0,[7],[4],[],[]⟩,⟨0,[94],[4],[],[]⟩,⟨0,[95],[4],[],[]⟩,⟨0,[96],[4],[],[]⟩,⟨0,[7],[4],[],[]⟩,⟨0,[98],[4],[],[]⟩,⟨0,[99],[4],[],[]⟩,⟨0,[100],[4],[],[]⟩,⟨2,[4,93],[],[],[4]⟩,⟨0,[97],[],[],[]⟩],.one] (by rfl) ?_
      simp -implicitDefEqProofs[jJ,-qA,-qB,HK,jc4,jbZ,h7,h4,b4,b20,FrR.ds,Cm];exact⟨rfl,rfl⟩
 ·intro Q hQ;refine CE [(901,68)] (fun x:List Int×Ps=>⟨[(8,vI .i64 x.1.length),(7,vC (.ptr 20 0)),(4,vC (.ptr 4 0))],(4,.box [.d (.int .i64 k),D3 x.1,.d (.bool false),.nl,.nl])::(20,Hf x.2 ns)::KD x.1⟩)
   (fun x=>x.1.length≤arity k∧R=KY k ns (arity k - x.1.length) x.1.length x.1 x.2∧x.2.l.length=x.2.p.length∧ ∀w∈x.2.l,w.size<4294967281) (fun x=>arity k - x.1.length) ([],S2)
   (by simp[AW,lk,St.le,vI,vC,D3,KD]) ⟨by simp,hR,l2,hsz⟩ ?_
  rintro⟨l,S⟩ ⟨h1,h2,h3,h4⟩
  simp only at h1 h2 h3 h4;have kn:=UC ns S;by_cases hi:l.length<arity k
  ·by_cases hr:S.r=0
   ·have ar8:=Ty k;obtain⟨n,hn⟩: ∃n,arity k - l.length=n+1:=⟨arity k - l.length - 1,by omega⟩
    rw[hn,KY,if_neg (by omega)]at h2
    by_cases ha:k=7∧l.length=6∧S.nx=some (Ch [41])
    ·rw[if_pos ha]at h2
     subst h2;obtain⟨rfl,ha2,ha3⟩:=ha;unfold L7 at kn;rw[ha3]at kn;have hne:l≠[]:=fun e=>by rw[e]at ha2;cases ha2
     have hc:D3 l= .sl 901 0 l.length:=by unfold D3;rw[if_neg hne]
     have hh:KD l=[(901,.row 1 (l.map i64) true)]:=by unfold KD;rw[if_neg hne]
     rw[hc,hh]
     rw[hc]at hQ
     rw[show Ch [41]={ data:= #[41] } from rfl]at kn
     have eb:=Gw { data:= #[41] };simp -implicitDefEqProofs[jJ,-qA,-qB]
     (first|refine Ac ka ?_|refine Ae ka ?_)
     simp -implicitDefEqProofs[jJ,-qA,-qB,hi,hr];refine .inr (Dc kn rfl (fun x r e=>by cases e) rfl ?_)
     simp -implicitDefEqProofs[jJ,-qA,-qB,AQ,St.backH,St.on,Fs,GM,C.same,V.on,U.on,C.on,ha2,eb];exact hQ _ _ ⟨rfl,_,_,rfl,rfl,rfl,by rw[ha2];rfl,rfl,fun h=>rfl⟩
    ·rw[if_neg ha]at h2
     obtain⟨w0,hw0⟩: ∃w0,w0=S.nx.getD ⟨#[]⟩:=⟨_,rfl⟩
     unfold L7 at kn;rw[←hw0]at kn;have hcase: ¬k=7∨(k=7∧ ¬l.length=6)∨(k=7∧l.length=6∧w0≠{ data:= #[41] }):=by
      by_cases q1:k=7
      ·by_cases q2:l.length=6
       ·refine .inr (.inr ⟨q1,q2,fun e=>ha ⟨q1,q2,?_⟩⟩)
        cases hx:S.nx with
        |none=>rw[hx]at hw0;rw[hw0]at e;exact absurd e (by decide)
        |some y=>rw[hx]at hw0;rw[show y=w0 from hw0.symm,e];rfl
       ·exact .inr (.inl ⟨q1,q2⟩)
      ·exact .inl q1
     have hli:l.length≤9223372036854775806:=by omega
     obtain⟨S3,hS3⟩: ∃S3,S3=if l.length=0 then S else S.must [44]:=⟨_,rfl⟩
     have l3:S3.l.length=S3.p.length:=by
      rw[hS3]
      split
      ·exact h3
      ·exact PE S [44] h3
     have s3: ∀w∈S3.l,w.size<4294967281:=fun w hw=>h4 w (by
      rw[hS3]at hw
      split at hw
      ·exact hw
      ·exact U8 S [44] w hw)
     have kp:=jjB ns hN S3 l3;have lp:=jdz ns S3 l3;have sp:=jaI ns S3;rw[←hS3]at h2;obtain⟨pt,S',hS⟩: ∃pt S',S3.point ns=(pt,S'):=⟨_,_,rfl⟩;simp only[hS]at h2 kp lp sp;have km2:=TL ns S [44] h3;rw[show Ch [44]={ data:= #[44] } from rfl]at km2
     have ht:R=KY k ns (arity k - (l++[pt]).length) (l++[pt]).length (l++[pt]) S':=by
      rw[h2]
      simp only[List.length_append,List.length_singleton];rw[show arity k - (l.length+1)=n by omega]
     have hlt:(l++[pt]).length≤arity k:=by simp;omega
     have hmu:arity k - (l++[pt]).length<arity k - l.length:=by simp;omega
     have hmap:l.map i64++[.int .i64 pt]=(l++[pt]).map i64:=by simp[i64]
     have hle (b:Blk):(l.length+1=(l++[pt]).length∧C.sl 901 0 (l.length+1)=D3 (l++[pt])∧(Hf S' ns).on (C0 901 68)=Hf S' ns∧AW ((901,Blk.row 1 (l.map i64++[.int .i64 pt]) true)::(4,b)::[(20,(Hf S' ns).on (C0 901 68))]) (KD (l++[pt]))):=by
      refine⟨by simp,?_,rfl,?_⟩
      ·unfold D3;rw[if_neg (by simp)]
       simp
      ·unfold KD;rw[if_neg (by simp)]
       simp[AW,lk,i64]
     by_cases hl:l=[]
     ·have hS3:S3=S:=by rw[hS3,if_pos (by rw[hl];rfl)]
      subst hS3;have hl0:l.length=0:=by rw[hl];rfl
      have e1:D3 l= .nl:=by rw[hl];rfl
      have e2:KD l=[]:=by rw[hl];rfl
      have hi0:0<arity k:=by omega
      rw[e1,e2,hl0]
      rcases hcase with q|⟨rfl,q⟩|⟨_,q,_⟩
      case inr.inr=>omega
      all_goals
       simp -implicitDefEqProofs[jJ,-qA,-qB]
       (first|refine Ac ka ?_|refine Ae ka ?_)
       simp -implicitDefEqProofs[jJ,-qA,-qB,hi0,hr,-jeF];refine .inr (Dc kn rfl (fun x r e=>by cases e) rfl ?_)
       simp -implicitDefEqProofs[jJ,-qA,-qB,-jeF,AQ,St.backH,St.on,Fs,GM,C.same,V.on,U.on,C.on,q];refine AA YB jfs (by rfl) ?_
       refine ja0 (l:=l) (by omega) kp rfl rfl (by rw[hl0];rfl) (by rw[e1];rfl) rfl (fun h=>absurd hl h) fun s hs=>⟨_,hs,?_⟩
       simp -implicitDefEqProofs[jJ,-qA,-qB];exact⟨by omega,l++[pt],S',hle _,⟨hlt,ht,lp,fun w hw=>s3 w (sp w hw)⟩,by first|exact hmu|omega⟩
     ·have hS3:S3=S.must [44]:=by
       rw[hS3,if_neg (fun e=>hl (List.eq_nil_of_length_eq_zero e))]
      rw[←hS3]at km2
      have hl0:0<l.length:=by
       have:l.length≠0:=fun e=>hl (List.eq_nil_of_length_eq_zero e)
       omega
      have e1:D3 l= .sl 901 0 l.length:=by unfold D3;rw[if_neg hl]
      have e2:KD l=[(901,.row 1 (l.map i64) true)]:=by unfold KD;rw[if_neg hl]
      rw[e1,e2]
      have q2:(¬k=7∧(0:Nat)=0)∨(k=7∧ ¬l.length=6∧(0:Nat)=0)∨(k=7∧(l.length=6)=True∧G6 .eql w0 { data:= #[41] }=some (vB false)):=hcase.imp (fun h=>⟨h,rfl⟩) (Or.imp (fun h=>⟨h.1,h.2,rfl⟩) fun h=>⟨h.1,eq_true h.2.1,IY h.2.2⟩)
      rcases q2 with⟨q,q2⟩|⟨rfl,q,q2⟩|⟨rfl,q,q2⟩
      all_goals
       simp -implicitDefEqProofs[jJ,-qA,-qB]
       (first|refine Ac ka ?_|refine Ae ka ?_)
       simp -implicitDefEqProofs[jJ,-qA,-qB,hi,hr,-jeF];refine .inr (Dc kn rfl (fun x r e=>by cases e) rfl ?_)
       simp -implicitDefEqProofs[jJ,-qA,-qB,-jeF,AQ,St.backH,St.on,Fs,GM,C.same,V.on,U.on,C.on,q,q2,hl0]
       first
       |refine .inr (Dc km2 rfl (fun x r e=>by cases e) rfl ?_)
       |refine⟨by omega,.inr (Dc km2 rfl (fun x r e=>by cases e) rfl ?_)⟩
      all_goals
       simp -implicitDefEqProofs[jJ,-qA,-qB,-jeF,AQ,St.backH,St.on,Fs,GM,C.same,V.on,U.on,C.on];refine AA YB jfs (by rfl) ?_
       refine ja0 (l:=l) (by omega) kp rfl rfl rfl (by rw[e1];rfl) rfl (fun h=>rfl) fun s hs=>⟨_,hs,?_⟩
       simp -implicitDefEqProofs[jJ,-qA,-qB];exact⟨by omega,l++[pt],S',hle _,⟨hlt,ht,lp,fun w hw=>s3 w (sp w hw)⟩,by first|exact hmu|omega⟩
   ·have h2:R=(l,S):=by
     rw[h2]
     cases hq:arity k - l.length with
     |zero=>rfl
     |succ n=>rw[KY,if_pos hr]
    subst h2;simp -implicitDefEqProofs[jJ,-qA,-qB]
    (first|refine Ac ka ?_|refine Ae ka ?_)
    simp -implicitDefEqProofs[jJ,-qA,-qB,hi,hr];exact hQ _ _ ⟨rfl,_,_,rfl,rfl,rfl,rfl,rfl,fun h=>by unfold KD;rw[if_neg h];rfl⟩
  ·have hn:arity k - l.length=0:=by omega
   rw[hn]at h2
   have h2:R=(l,S):=h2
   subst h2;simp -implicitDefEqProofs[jJ,-qA,-qB]
   (first|refine Ac ka ?_|refine Ae ka ?_)
   simp -implicitDefEqProofs[jJ,-qA,-qB,hi];exact hQ _ _ ⟨rfl,_,_,rfl,rfl,rfl,rfl,rfl,fun h=>by unfold KD;rw[if_neg h];rfl⟩
theorem jf6(p:List UInt8)(r:Option (List UInt8)):(limbs (Oj p r).2.1).length≤300∧(limbs (Oj p r).2.2.1).length≤300:=by
 have z:(limbs 0).length≤300:=by rw[Cm];exact Nat.zero_le _
 have h1:=je0 p;have low: ∀n m d,(limbs m).length≤300→(limbs d).length≤300→(limbs (O7 n m d).2.1).length≤300∧(limbs (O7 n m d).2.2.1).length≤300:=fun n m d hm hd=>
  ⟨Nat.le_trans (CG (Nat.div_le_self _ _)) hm,Nat.le_trans (CG (Nat.div_le_self _ _)) hd⟩
 unfold Oj;split
 ·exact⟨z,z⟩
 ·split
  ·exact low _ _ _ h1 (by decide+kernel)
  ·rename_i q
   have h2:=VX q;split
   ·exact⟨z,z⟩
   ·split
    ·exact⟨z,z⟩
    ·exact low _ _ _ h1 h2
theorem je9(s:Ps):(limbs s.num.1.2.1).length≤300∧(limbs s.num.1.2.2).length≤300:=by
 have z:(limbs 0).length≤300:=by rw[Cm];exact Nat.zero_le _
 unfold Ps.num;split
 ·exact⟨z,z⟩
 ·rename_i w _
  simp only;have h:=jf6 (LW (B w)).1 (LW (B w)).2;split
  ·exact h
  ·exact⟨z,z⟩
theorem jgA{l:List Int}(h:l.length≤8):(wide l).length≤8:=by
 unfold wide;split
 ·simp
 ·exact h
theorem YT(ns:List ByteArray)(s:ByteArray):(H0 ns s).fct.Wide∧(H0 ns s).fct.args.length≤8:=by
 have z:(limbs 0).length≤300:=by rw[Cm];exact Nat.zero_le _
 have key: ∀r:FrR,(limbs r.r.2.1).length≤300→(limbs r.r.2.2).length≤300→r.args.length≤8→r.fct.Wide∧r.fct.args.length≤8:=fun r h1 h2 h3=>
  ⟨⟨h1,h2,Aw _,Aw _,Nat.le_trans h3 (by decide)⟩,h3⟩
 have ite: ∀(P:Prop) [Decidable P] (a b:FrR),(a.fct.Wide∧a.fct.args.length≤8)→(b.fct.Wide∧b.fct.args.length≤8)→(if P then a else b).fct.Wide∧(if P then a else b).fct.args.length≤8:=fun P _ a b ha hb=>by
  split
  ·exact ha
  ·exact hb
 unfold H0;split
 ·exact key _ z z (Nat.zero_le _)
 ·simp only;refine ite _ _ _ ?_ ?_
  ·refine key _ ?_ ?_ ?_
   ·split
    ·exact(je9 _).1
    ·exact z
   ·split
    ·exact(je9 _).2
    ·exact z
   ·refine jgA ?_;by_cases hl:((psOf s).kind.2.must [40]).l.length=((psOf s).kind.2.must [40]).p.length
    ·exact(Xy _ ns _ 0 [] _ (by have:=Ty (psOf s).kind.1;simpa using this) hl).1
    ·exact absurd (PE _ [40] (jfG (psOf s) (UE s (s.size+1)))) hl
  ·exact key _ z z (Nat.zero_le _)
theorem jm7(ns:List ByteArray)(s:ByteArray)(hs:20000<s.size):CallsF Tryz.prog 101 [.c (.str s),.c (A6 ns)] (.tup [.agg (H0 ns s).ds,.c (.d (.int .i64 (H0 ns s).at_)),.c (.d (.int .i64 (H0 ns s).err))]):=by
 have e:H0 ns s=⟨0,[],(false,0,0),0,4⟩:=by unfold H0;rw[if_pos hs]
 rw[e]
 simp only[FrR.ds];refine cO Tryz.func101 rfl ?_;simp -implicitDefEqProofs[jJ,-qA,-qB,hs]
 all_goals first|rfl|exact⟨rfl,rfl⟩|exact⟨trivial,rfl,rfl⟩|exact⟨rfl,trivial,rfl,rfl⟩
theorem jgI(ns:List ByteArray)(hN:ns.length≤60)(s:ByteArray):CallsF Tryz.prog 101 [.c (.str s),.c (A6 ns)] (.tup [.agg ((H0 ns s).fct.ds.map .d),.c (.d (.int .i64 (H0 ns s).at_)),.c (.d (.int .i64 (H0 ns s).err))]):=by
 by_cases hs:20000<s.size
 ·exact jm7 ns s hs
 ·exact jlk ns hN s (by omega)
theorem jdc(ns:List ByteArray)(hN:ns.length≤60)(hn: ∀s∈ns,s.size≤30)(s:ByteArray):
  CallsF Tryz.prog 53 [.c (.str s),.c (A6 ns)] (.tup [.agg ((readF ns (B s)).1.ds.map .d),.c (.d (.bool (readF ns (B s)).2))]):=by
 have k1:=jgI ns hN s;obtain⟨hw,hl⟩:=YT ns s;have k2:=Oh (H0 ns s).fct ns hw (by omega) hN hn
 unfold readF Br at*;have es:Ch (B s)=s:=O9 s;simp only[es]at*;generalize hE:wrong (H0 ns s).fct ns.length=E at*;generalize hF:Bd (H0 ns s).fct ns=F at*;generalize (H0 ns s).fct=f at*;generalize (H0 ns s).at_=a at*;generalize (H0 ns s).err=e at*;obtain⟨k,l,n,m,d⟩:=f;simp only[Fct.ds,List.map_cons,List.map_nil]at*;by_cases he:e=0
 ·subst he;by_cases hE0:E=0
  ·subst hE0;rcases MK (Ch F) s with⟨h1,h2⟩|⟨h1,h2⟩
   ·have h3:F=B s:=by rw[←h1,Mw]
    simp only[if_true]at k2 ⊢;rw[decide_eq_true (show(True∧F=B s) from⟨trivial,h3⟩)]
    refine cO Tryz.func53 rfl ?_;simp -implicitDefEqProofs[jJ,-qA,-qB]
    (first|refine Ac k1 ?_|refine Ae k1 ?_)
    simp -implicitDefEqProofs[jJ,-qA,-qB]
    (first|refine Ac k2 ?_|refine Ae k2 ?_)
    simp -implicitDefEqProofs[jJ,-qA,-qB,h2]
   ·have h3: ¬F=B s:=fun e=>h1 (by rw[e];rfl)
    simp only[if_true]at k2 ⊢;rw[decide_eq_false (show ¬(True∧F=B s) from fun h=>h3 h.2)]
    refine cO Tryz.func53 rfl ?_;simp -implicitDefEqProofs[jJ,-qA,-qB]
    (first|refine Ac k1 ?_|refine Ae k1 ?_)
    simp -implicitDefEqProofs[jJ,-qA,-qB]
    (first|refine Ac k2 ?_|refine Ae k2 ?_)
    simp -implicitDefEqProofs[jJ,-qA,-qB,h2]
  ·rw[if_neg hE0]at k2
   simp only[if_true];rw[decide_eq_false (show ¬(E=0∧F=B s) from fun h=>hE0 h.1)]
   refine cO Tryz.func53 rfl ?_;simp -implicitDefEqProofs[jJ,-qA,-qB]
   (first|refine Ac k1 ?_|refine Ae k1 ?_)
   simp -implicitDefEqProofs[jJ,-qA,-qB]
   (first|refine Ac k2 ?_|refine Ae k2 ?_)
   simp -implicitDefEqProofs[jJ,-qA,-qB,hE0]
 ·rw[if_neg he]
  refine cO Tryz.func53 rfl ?_;simp -implicitDefEqProofs[jJ,-qA,-qB]
  (first|refine Ac k1 ?_|refine Ae k1 ?_)
  simp -implicitDefEqProofs[jJ,-qA,-qB,he];exact⟨rfl,rfl,rfl,rfl,rfl⟩
end Go.Va
