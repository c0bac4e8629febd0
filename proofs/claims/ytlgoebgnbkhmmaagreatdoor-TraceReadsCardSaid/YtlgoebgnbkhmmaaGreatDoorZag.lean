/- a part of the proof -/
import Derived.Test.YtlgoebgnbkhmmaaGreatDoorZaf
set_option linter.all false
namespace Go.Va
open Go.RowKit
variable [Gv]
section
variable {P:Program} {T:AH} {X:Cx} {M Z:Addr→Prop} {w0 w:World} {ρ:AE} {st:St} {a:Act}
theorem Kb(h:Rel M Z w0 ρ st a w){g:FuncId}{k n sz m d:Nat}{cs cs':List D}{as:List A}{v0:Value}{v1:List Value}(hlk:lk k st.h=some (.row sz cs true))(hav:RepL (A.rep w (Ar ρ Z)) as v1)
  (hv0:RepC ρ w Z (.sl k 0 n) v0) (hd:d<a.tmps.size) (hcA:CallsA P g sz n cs as m cs'):
  Calls P g (v0::v1).toArray w fun e w'=> ∃v ρ'',e= .returned v∧Rel M Z w0 ρ'' (((st.drop k).new d (.row sz cs' true)).put (some d) (vC (.sl d 0 m))) (a.put (some d) v) w':=by
 obtain⟨hfn,hcall⟩:=hcA
 obtain⟨ok,hok,hb⟩:=h.heap.rep k _ hlk
 have hheap:Heap (Bj [k] ρ) w (Ar (AJ [k] ρ) Z) [(k,.row sz cs true)]:=⟨⟨fun j oj hj=>h.heap.owns.cells j oj (A9 hj).2,fun j j' o1 o2 hj hj'=>h.heap.owns.apart j j' o1 o2 (A9 hj).2 (A9 hj').2,fun j oj hj=>h.heap.owns.lim j oj (A9 hj).2⟩,fun j b hjb=>by
  by_cases e:j=k
  ·subst e;rw[Bt]at hjb;cases hjb;exact⟨ok,(by grind[D5]),Jb (b:= .row sz cs true) trivial hb⟩
  ·rw[BD e]at hjb;cases hjb⟩
 have hc:=hcall w (Ar (AJ [k] ρ) Z) (Bj [k] ρ) k v0 v1 (Hs h (fun ad=>CD) (by grind[TW])) hheap (fun ad ⟨j,oj,hj,hh⟩=>by
  obtain⟨e1,e2⟩:=A9 hj
  exact h.thawed (ok:=([k].contains ·)) e2 (by simpa using e1) hh) (fun i o hi=>by simpa using (A9 hi).1)
  (E7 (ids:=[k]) (c:= .sl k 0 n) (fun i hi=>by cases hi;simp) hv0) (hav.mono fun x v hx=>hx.keep (by grind[Keep.mono,TW]))
 refine hc.mono fun e w' hpost=> ?_
 obtain⟨v,rfl,ρ',hfr,hh',hone,hcells,hv⟩:=hpost
 obtain⟨ρ'',hrel⟩:=jeJ h (by rw[hok];rfl) hd hfr hh' hone hcells hv
 grind
theorem Sb(hT:A5 P T)(hY: ∀Y,X.Y=some Y→YlOk P Y)(hL:Lk X M Z w0 st a)(h:Rel M Z w0 ρ st a w)(hn:a.tmps.size=X.n){o:Oper}(hd: ∀d,o.dst=some d→Fg X d){K:St→Prop}{Q:Exit→Act→World→Prop}(hw:wpOp P T o st K):o.wp P a w (BX X K) Q:=by
 have hds: ∀d,o.dst=some d→d<a.tmps.size:=fun d h=>by rw[hn];exact(hd d h).1
 have hdy: ∀d,o.dst=some d→d<YS:=fun d h=>(hd d h).2.1
 unfold wpOp at hw;split at hw
 ·rename_i f args ts ho
  obtain⟨u,hu,hw⟩:=hw
  have enter: ∀{g:FuncId} {vs:List Value},CY P g→a.eval f= .func (.func g) #[] vs.toArray→(execOp a.eval o).run P w= .ok (.enter g (args.toList.map a.eval++vs).toArray) w:=fun {g vs} hfn hef=>by
   obtain⟨fn,hfn,hbody,hname⟩:=hfn
   have e1:args.map a.eval++vs.toArray=(args.toList.map a.eval++vs).toArray:=by simp
   have hb: ¬fn.body=none:=by grind
   simp_all[execOp,resolve,Deferred.ofValue,invoke,callFunc,program,Sem.run]
  have hZc: ∀(ids:List Nat),ZOk w (Ar (AJ ids ρ) Z) (Ar (AJ ids ρ) Z):=fun ids=>Hs h (fun ad=>CD) fun ad=>CD
  have hZr: ∀(ids:List Nat),ZOk w (Ar (AJ ids ρ) Z) (Ar (Bj ids ρ) (Ar (AJ ids ρ) Z)):=fun ids=>Hs h (fun ad=>CD) (by grind[TW])
  have go: ∀{g:FuncId} {caps:List D} {us:List U} {vs vals:List Value},DM P o.dst st K g caps us→RepL (RepU ρ w Z) us vals→RepL (RepD w (Ar ρ Z)) caps vs→(∀{as:List A} {ids:List Nat},us.mapM (U.toA ids st.h)=some as→RepL (A.rep w (Ar (AJ ids ρ) Z)) as vals)→
    (∀g',g'=g→CY P g'→(execOp a.eval o).run P w= .ok (.enter g (vals++vs).toArray) w)→o.wp P a w (BX X K) Q:=by
   intro g caps us vs vals hw hvals hcaps hargs hrun;have argsY: ∀{as:List A},st.argsW (st.reachU us) us caps=some as→RepL (A.rep w (Ar (AJ (st.reachU us) ρ) Z)) as (vals++vs):=fun {as} has=>by
    simp only[St.argsW,jze]at has;obtain⟨as',has',rfl⟩:=has;exact(hargs has').append ⟨by simpa using hcaps.1,fun j x v hx hv=>by
     simp only[Bf,jze]at hx;obtain⟨y,hy,rfl⟩:=hx;exact(hcaps.2 j y v hy hv).keep (Keep.mono fun _=>CD)⟩
   rcases hw with⟨as,has,res,⟨hfn,hcall⟩,hK⟩|⟨ids,r,h1,h2,⟨hfn,hrows,hcall⟩,hin,hh1,hids,hK⟩|hw
   ·have hc:=hcall w _ (vals++vs) (hZc _) (argsY has);unfold Oper.wp;rw[hrun g rfl hfn];simp only[Oper.upon];refine hc.mono fun e w' hpost=> ?_
    obtain⟨v,rfl,hbel,hres⟩:=hpost
    obtain⟨ρ',hrel⟩:=jhQ h hds hbel hres
    exact⟨M,Z,w0,ρ',_,hL.put (TrLe.back hdy) hd,hrel,(CX _ _ _).trans hn,hK⟩
   ·have hheap:Heap (Bj ids ρ) w (Ar (AJ ids ρ) Z) h1:=⟨⟨fun j oj hj=>h.heap.owns.cells j oj (A9 hj).2,fun j j' o1 o2 hj hj'=>h.heap.owns.apart j j' o1 o2 (A9 hj).2 (A9 hj').2,fun j oj hj=>h.heap.owns.lim j oj (A9 hj).2⟩,fun j b hb=>by
     obtain⟨e1,e2,e3⟩:=hh1 j b hb
     obtain⟨oj,hoj,hr⟩:=h.heap.rep j b e2
     grind[D5,Jb]⟩
    have hus:RepL (RepU (Bj ids ρ) w (Ar (AJ ids ρ) Z)) (us++caps.map fun d=> .c (.d d)) (vals++vs):=by
     refine RepL.append ⟨hvals.1,fun j x v hx hv=>OV (by grind) (hvals.2 j x v hx hv)⟩ ⟨by simpa using hcaps.1,fun j x v hx hv=> ?_⟩
     simp only[Bf,jze]at hx;obtain⟨y,hy,rfl⟩:=hx;exact repD_rhoR.2 (hcaps.2 j y v hy hv)
    have hc:=hcall w _ _ (vals++vs) (hZr ids) hheap (fun ad ⟨j,oj,hj,hh⟩=>by
     obtain⟨e1,e2⟩:=A9 hj
     exact h.thawed (ok:=(ids.contains ·)) e2 (by simpa using e1) hh) (by grind[A9]) hus
    unfold Oper.wp;rw[hrun g rfl hfn];simp only[Oper.upon];refine hc.mono fun e w' hpost=> ?_
    obtain⟨v,rfl,hfr,hh',hres⟩:=hpost
    exact⟨M,Z,w0,ρ,_,hL.put (TrLe.backW hdy) hd,jbs h hds hrows (fun i hi o ho=>by
     obtain⟨b,hb⟩:=Option.isSome_iff_exists.1 (hids i hi)
     obtain⟨_,e2,e3⟩:=hh1 i b hb
     obtain⟨oj,hoj,hr⟩:=h.heap.rep i b e2
     obtain rfl:oj=o:=(by grind)
     exact hr.nomp fun x e=>by subst e;exact e3) hfr hh' hres,(CX _ _ _).trans hn,hK⟩
   rcases hw with⟨x,ys,rest,as,hlk,has,⟨hfn,hcall⟩,hK⟩|hw
   ·obtain⟨Y,R,D,hX,rfl,hJ,hRZ,hR0,hDM,hD0,hD00⟩:=hL.y _ _ hlk
    have hok:=hY Y hX;have hJw:=hok.stable _ R D w0 w M hJ (by grind) h.fr
    have hc:=hcall Y rfl hok w _ (vals++vs) rest R D hJw (hZc _) (fun ad hr=> .inl (hRZ ad hr)) (argsY has)
    unfold Oper.wp;rw[hrun g rfl hfn];simp only[Oper.upon];refine hc.mono fun e w' hpost=> ?_
    obtain⟨rfl,R',D',hJ',hfr,hR',hD',hDD⟩:=hpost
    grind[MX]
   rcases hw with⟨rfl,x,ys,rest,as,f',cl,zs,hlk,has,hg,hy,hK⟩|hw
   ·obtain⟨Y,R,D,hX,rfl,hJ,hRZ,hR0,hDM,hD0,hD00⟩:=hL.y _ _ hlk
    have hok:=hY Y hX;have hJw:=hok.stable _ R D w0 w M hJ (by grind) h.fr
    have hvs:vs=[]:=List.eq_nil_of_length_eq_zero hcaps.1.symm
    subst hvs;have hav:=hargs has;obtain⟨v1,v2,rfl,hv1,hv2⟩: ∃v1 v2,vals=v1++[v2]∧RepL (A.rep w (Ar (AJ (st.reachU us) ρ) Z)) as v1∧RepD w (Ar (AJ (st.reachU us) ρ) Z) (.fn f' cl) v2:=by
     have hl:=hav.1;simp only[List.length_append,List.length_cons,List.length_nil]at hl;have hlt:as.length<vals.length:=by omega
     refine⟨vals.take as.length,vals[as.length],?_,⟨by simp;omega,fun j x v hx hv=>hav.2 j x v ?_ ?_⟩,?_⟩
     ·simp_all
     ·grind
     ·grind
     ·exact hav.2 as.length (.c (.fn f' cl)) _ (by simp) (by simp)
    cases hv2 with
    |fn _ _ clv hcl hclv=>
     have hokE:=Ua hok f' cl clv zs rest D;obtain⟨hfn,hcall⟩:=hg (.func (.func f') #[] clv.toArray);have hsub:=hok.sub _ R D w hJw;have hJE:(JX P Y f' cl clv zs rest D).J ys R (fun ad=>D ad∨(ad.block<w.heap.size∧ ¬Ar (AJ (st.reachU us) ρ) Z ad)) w:=
      ⟨hy,(by grind),(by grind),⟨hcl,fun j d v hx hv=>(hclv j d v hx hv).keep fun ad u hno hu=>⟨hu,fun hh=>by
       rcases hh with hr|hnd
       ·exact hno (.inl (hRZ ad hr))
       grind[World.block_lt_of_cell?]⟩⟩⟩
     have hc:=hcall (JX P Y f' cl clv zs rest D) rfl hokE w _ (v1++[.func (.func f') #[] clv.toArray]) [] R _ (by simpa using hJE) (hZc _) (fun ad hr=> .inl (hRZ ad hr)) (hv1.append ⟨rfl,fun j x v hx hv=>by
       cases j with
       |zero=>simp at hx hv;subst hx;subst hv;exact .lit _ rfl
       |succ j=>simp at hx⟩)
     unfold Oper.wp;rw[hrun g rfl hfn];simp only[Oper.upon,List.append_nil];refine hc.mono fun e w' hpost=> ?_
     obtain⟨rfl,R',D',⟨_,_,⟨D0,hb,hD0',hJ'⟩,_⟩,hfr,hR',hD',hDD⟩:=hpost
     refine MX h hL hd hn hX hok hJ hRZ hR0 hDM hD0 hD00 (by simpa using hJ') hfr hR' (fun ad hdd=> ?_) hb hK
     grind
   have hvs:vs=[]:=by
    rcases hw with (⟨rfl,_⟩|⟨rfl,_⟩|⟨rfl,_⟩|⟨rfl,_⟩|⟨rfl,_⟩|⟨rfl,_⟩)|⟨rfl,_⟩<;>exact List.eq_nil_of_length_eq_zero hcaps.1.symm
   subst hvs;rcases hw with hw|⟨rfl,k,n,sz,m,d,cs,cs',us',as,rfl,hlk,has,hdd,hcA,hK⟩
   rotate_left
   ·obtain⟨v0,v1,rfl⟩: ∃v0 v1,vals=v0::v1:=by
     have hl:=hvals.1;cases vals with
     |nil=>simp at hl
     |cons v0 v1=>simp
    have hnone:AJ [] ρ=ρ:=by rfl
    have hv1:RepL (RepU ρ w Z) us' v1:=⟨by simpa using hvals.1,fun j x v hx hv=>hvals.2 (j+1) x v (by simpa using hx) (by simpa using hv)⟩
    have hav:=E9 h [] hv1 has;rw[hnone]at hav;have hc:=Kb h hlk hav (hvals.2 0 _ v0 rfl rfl) (hds d hdd) hcA;unfold Oper.wp;rw[hrun g rfl hcA.1];simp only[Oper.upon,List.append_nil];refine hc.mono fun e w' hpost=> ?_
    obtain⟨v,ρ'',rfl,hrel⟩:=hpost
    rw[hdd]
    exact⟨M,Z,w0,ρ'',_,hL.put ((TrLe.put (by grind)).trans ((TrLe.new _ _).trans (TrLe.drop _))) (by grind),hrel,(CX _ _ _).trans hn,hK⟩
   rw[←or_assoc]at hw
   rcases hw with hw|⟨rfl,sz,m,d,cs',us',as,rfl,has,hdd,hcA,hK⟩|⟨rfl,fz,k,n,sz,m,d,cs,cs',us',as,rfl,hkf,hlk,has,hdd,hcA,hK⟩|⟨rfl,fz,sz,m,d,cs',us',as,rfl,has,hdd,hcA,hK⟩|⟨rfl,gs,gs',h1,h2,v,ids,nw,⟨hfn,hcall⟩,hnt,hok,hK⟩
   rotate_left
   ·obtain⟨v0,v1,rfl⟩: ∃v0 v1,vals=v0::v1:=by
     have hl:=hvals.1;cases vals with
     |nil=>simp at hl
     |cons v0 v1=>simp
    have hnone:AJ [] ρ=ρ:=by rfl
    have hv1:RepL (RepU ρ w Z) us' v1:=⟨by simpa using hvals.1,fun j x v hx hv=>hvals.2 (j+1) x v (by simpa using hx) (by simpa using hv)⟩
    have hav:=E9 h [] hv1 has;rw[hnone]at hav;obtain rfl:v0= .slice none 0 0:=hvals.2 0 _ v0 rfl rfl;have hfar: ∀ad,Own.has { g:=0,o:=0,sz:=sz,room:=0,app:=true,nil:=true } ad→w.heap.size≤ad.block:=fun ad hh=>by cases hh.1
    have h':=h.new (Ext.refl w) d (o:={ g:=0,o:=0,sz:=sz,room:=0,app:=true,nil:=true }) (b:= .row sz [] true)
     hfar (by simp) (by simp[maxLen]) ⟨rfl,rfl,by simp,(by simp),(by simp)⟩
    have hc:=Kb (k:=d) (n:=0) h' (Bt _ _ _) (hav.mono fun x v hx=>hx.keep (Kf (Ext.refl w) hfar)) ⟨_,Cd _ _ _,by simp,.inl ⟨rfl,rfl,rfl,rfl⟩⟩ (hds d hdd) hcA
    unfold Oper.wp;rw[hrun g rfl hcA.1];simp only[Oper.upon,List.append_nil];refine hc.mono fun e w' hpost=> ?_
    obtain⟨v,ρ'',rfl,hrel⟩:=hpost
    rw[hdd]
    exact⟨M,Z,w0,ρ'',_,hL.put ((TrLe.put (by grind)).trans ((TrLe.new _ _).trans ((TrLe.drop _).trans (TrLe.new _ _)))) (by grind),hrel,(CX _ _ _).trans hn,hK⟩
   ·obtain⟨v0,v1,rfl⟩: ∃v0 v1,vals=v0::v1:=by
     have hl:=hvals.1;cases vals with
     |nil=>simp at hl
     |cons v0 v1=>simp
    have hv1:RepL (RepU ρ w Z) us' v1:=⟨by simpa using hvals.1,fun j x v hx hv=>hvals.2 (j+1) x v (by simpa using hx) (by simpa using hv)⟩
    have hav:=E9 h fz hv1 has;obtain⟨o,ho,hv0⟩:RepC ρ w Z (.sl k 0 n) v0:=hvals.2 0 _ v0 rfl rfl;have hc:=Kb (h.freeze fz) hlk hav ⟨o,(Fi hkf).trans ho,hv0⟩ (hds d hdd) hcA;unfold Oper.wp;rw[hrun g rfl hcA.1];simp only[Oper.upon,List.append_nil];refine hc.mono fun e w' hpost=> ?_
    obtain⟨v,ρ'',rfl,hrel⟩:=hpost
    rw[hdd]
    exact⟨M,Z,w0,ρ'',_,hL.put ((TrLe.put (by grind)).trans ((TrLe.new _ _).trans ((TrLe.drop _).trans (TrLe.freeze fz)))) (by grind),hrel,(CX _ _ _).trans hn,hK⟩
   ·obtain⟨v0,v1,rfl⟩: ∃v0 v1,vals=v0::v1:=by
     have hl:=hvals.1;cases vals with
     |nil=>simp at hl
     |cons v0 v1=>simp
    have hv1:RepL (RepU ρ w Z) us' v1:=⟨by simpa using hvals.1,fun j x v hx hv=>hvals.2 (j+1) x v (by simpa using hx) (by simpa using hv)⟩
    have hav:=E9 h fz hv1 has;obtain rfl:v0= .slice none 0 0:=hvals.2 0 _ v0 rfl rfl;have hfar: ∀ad,Own.has { g:=0,o:=0,sz:=sz,room:=0,app:=true,nil:=true } ad→w.heap.size≤ad.block:=fun ad hh=>by cases hh.1
    have h':=(h.freeze fz).new (Ext.refl w) d (o:={ g:=0,o:=0,sz:=sz,room:=0,app:=true,nil:=true }) (b:= .row sz [] true)
     hfar (by simp) (by simp[maxLen]) ⟨rfl,rfl,by simp,(by simp),(by simp)⟩
    have hc:=Kb (k:=d) (n:=0) h' (Bt _ _ _) (hav.mono fun x v hx=>hx.keep (Kf (Ext.refl w) hfar)) ⟨_,Cd _ _ _,by simp,.inl ⟨rfl,rfl,rfl,rfl⟩⟩ (hds d hdd) hcA
    unfold Oper.wp;rw[hrun g rfl hcA.1];simp only[Oper.upon,List.append_nil];refine hc.mono fun e w' hpost=> ?_
    obtain⟨v,ρ'',rfl,hrel⟩:=hpost
    rw[hdd]
    exact⟨M,Z,w0,ρ'',_,hL.put ((TrLe.put (by grind)).trans ((TrLe.new _ _).trans ((TrLe.drop _).trans ((TrLe.new _ _).trans (TrLe.freeze fz))))) (by grind),hrel,(CX _ _ _).trans hn,hK⟩
   ·have hheap:Heap (Bj ids ρ) w (Ar (AJ ids ρ) Z) h1:=⟨⟨fun j oj hj=>h.heap.owns.cells j oj (A9 hj).2,fun j j' o1 o2 hj hj'=>h.heap.owns.apart j j' o1 o2 (A9 hj).2 (A9 hj').2,fun j oj hj=>h.heap.owns.lim j oj (A9 hj).2⟩,fun j b hb=>by
     obtain⟨e1,b0,e2,rfl⟩:=hok.old j b hb
     obtain⟨oj,hoj,hr⟩:=h.heap.rep j b0 e2
     grind[D5,jhI]⟩
    have hus:RepL (RepU (Bj ids ρ) w (Ar (AJ ids ρ) Z)) (us.map (U.on (B1 ids))) vals:=⟨by simpa using hvals.1,fun j x v hx hv=>by
     rw[Bf,jze]at hx
     obtain⟨y,hy,rfl⟩:=hx
     exact PG (hvals.2 j y v hy hv)⟩
    have hc:=hcall w _ _ vals (hZr ids) hheap (fun ad ⟨j,oj,hj,hh⟩=>by
     obtain⟨e1,e2⟩:=A9 hj
     exact h.thawed (ok:=(ids.contains ·)) e2 (by simpa using e1) hh) (fun j oj hj=>hok.here j (A9 hj).1) hus
    unfold Oper.wp;rw[hrun g rfl hfn];simp only[Oper.upon,List.append_nil];refine hc.mono fun e w' hpost=> ?_
    obtain⟨x,rfl,ρc,hfr,hh',hlk,hR',hgs,hv⟩:=hpost
    obtain⟨ρ',hrel⟩:=Vw h hok hds hfr hh' hlk hR' hgs hv hnt
    exact⟨M,Z,w0,ρ',_,hL.put (TrLe.backH hdy) hd,hrel,(CX _ _ _).trans hn,hK⟩
   have last: ∀{us0:List U} {u:U},us=us0++[u]→ ∃v1 v2,vals=v1++[v2]∧RepL (RepU ρ w Z) us0 v1∧RepU ρ w Z u v2:=fun {us0 u} he=>by
    subst he;have hl:=hvals.1;simp only[List.length_append,List.length_cons,List.length_nil]at hl;have hlt:us0.length<vals.length:=by omega
    refine⟨vals.take us0.length,vals[us0.length],?_,⟨by simp;omega,fun j x v hx hv=>hvals.2 j x v ?_ ?_⟩,?_⟩
    ·simp_all
    ·grind
    ·grind
    ·exact hvals.2 us0.length u _ (by simp) (by simp)
   rcases hw with⟨rfl,us0,f',cs,as,ys,H,fz,ids,nw,hue,has,hg,hx,hc,hK⟩|⟨rfl,us0,f0,k,f',cs,as,ys,zs,H,fz,ids,nw,hue,hlk,hk,has,hg,hem,hx,hc,hK⟩
   ·obtain⟨v1,v2,rfl,hv1,cv,rfl,hcs⟩:=last hue
    have hst:=SJ (f:=f') (cv:=cv) h hc hcs;obtain⟨hfn,hcall⟩:=hg (.func (.func f') #[] cv.toArray);have hav:=E9 h fz hv1 has;have hcc:=hcall (Ht f' cs ys H cv) rfl (N4 cv hx) w (Ar (AJ fz ρ) Z) (v1++[.func (.func f') #[] cv.toArray]) [] (Gm ids nw fz ρ) (ET ids nw fz ρ Z w) (by simpa using hst) (hZc _) (fun ad ⟨i,o,hi,ho⟩=> .inr ⟨i,o,(ME (A9 hi).2).2,ho⟩) (hav.append ⟨rfl,fun j x v hx hv=>by
     cases j with
     |zero=>simp at hx hv;subst hx;subst hv;exact .lit _ rfl
     |succ j=>simp at hx⟩)
    unfold Oper.wp;rw[hrun g rfl hfn];simp only[Oper.upon,List.append_nil];refine hcc.mono fun e w' hpost=> ?_
    obtain⟨rfl,R',D',hJ',hfr,hR',hD',hDD⟩:=hpost
    obtain⟨ρ',hrel⟩:=Ul h hc hds hcs hJ' hfr hR' hD'
    exact⟨M,Z,w0,ρ',_,hL.put (TrLe.backX hdy) hd,hrel,(CX _ _ _).trans hn,hK⟩
   ·obtain⟨v1,v2,rfl,hv1,cv0,rfl,hcs0⟩:=last hue
    obtain⟨ok,hok,hbk⟩:=h.heap.rep k _ hlk
    obtain⟨q1,q2,q3,cvv,hcell,cv,rfl,hcs⟩:=hbk
    have hst:=SJ (f:=f') (cv:=cv) h hc hcs;have hokB:YlOk P (Ht f' cs (ys.flatMap zs) H cv):=N4 cv hx;have hokE:=Ua hokB f0 [.ref [.lit (.func (.func f') #[] cv.toArray)]] cv0 zs [] (ET ids nw fz ρ Z w);obtain⟨hfn,hcall⟩:=hg (.func (.func f0) #[] cv0.toArray);have hav:=E9 h fz hv1 has;have hkf:k∈fz:=hk;have hthaw: ∀ad,ok.has ad→ ¬Ar (AJ fz ρ) Z ad:=fun ad ho=>h.thawed (ok:=(fz.contains ·)) hok (by simpa using hkf) ho
    have hat:ok.has (ok.at 0):=(by simp_all[Own.has_at])
    obtain⟨p0,rfl,hp0⟩: ∃p0,cv0=[p0]∧p0= .pointer (some (ok.at 0)):=by
     have hl:cv0.length=1:=hcs0.1.symm
     obtain⟨p0,rfl⟩:=List.length_eq_one_iff.1 hl
     obtain⟨o2,ho2,hn2,hv2⟩:=hcs0.2 0 _ p0 rfl rfl
     grind
    have hJE:(JX P (Ht f' cs (ys.flatMap zs) H cv) f0 [.ref [.lit (.func (.func f') #[] cv.toArray)]] [p0] zs [] (ET ids nw fz ρ Z w)).J ys (Gm ids nw fz ρ) (ET ids nw fz ρ Z w) w:=by
     refine⟨fun y hy=>hem _ y hy,fun ad h=>h.1,⟨_,fun ad h=>h,fun ad h=>h,by simpa using hst⟩,⟨rfl,fun j d v hx hv=> ?_⟩⟩
     cases j with
     |succ j=>simp at hx
     |zero=>
      simp at hx hv;subst hx;subst hv;rw[hp0];refine .ref _ _ (fun _=> .func (.func f') #[] cv.toArray) (fun _=>rfl) (fun j x hx=> ?_) (fun j x hx=> ?_) (fun j x hx=> ?_)
      all_goals
       obtain rfl:j=0:=by
        grind
      ·omega
      ·rintro (⟨i,o,hi,ho⟩|hnd)
       ·exact hthaw _ hat (.inr ⟨i,o,(ME (A9 hi).2).2,ho⟩)
       ·exact hnd ⟨EG h hok hat,fun ho=>hthaw _ hat (CD (CD ho))⟩
      ·simp at hx;subst hx;exact .lit _ rfl
    have hcc:=hcall _ rfl hokE w (Ar (AJ fz ρ) Z) (v1++[.func (.func f0) #[] [p0].toArray]) [] (Gm ids nw fz ρ) (ET ids nw fz ρ Z w) (by simpa using hJE) (hZc _) (fun ad ⟨i,o,hi,ho⟩=> .inr ⟨i,o,(ME (A9 hi).2).2,ho⟩) (hav.append ⟨rfl,fun j x v hx hv=>by
     cases j with
     |zero=>simp at hx hv;subst hx;subst hv;exact .lit _ rfl
     |succ j=>simp at hx⟩)
    unfold Oper.wp;rw[hrun g rfl hfn];simp only[Oper.upon,List.append_nil];refine hcc.mono fun e w' hpost=> ?_
    obtain⟨rfl,R',D',⟨_,_,⟨D0,hb,hD0',hJ'⟩,_⟩,hfr,hR',hD',hDD⟩:=hpost
    obtain⟨ρ',hrel⟩:=Ul h hc hds hcs (by simpa using hJ') hfr hR' (by grind)
    exact⟨M,Z,w0,ρ',_,hL.put (TrLe.backX hdy) hd,hrel,(CX _ _ _).trans hn,hK⟩
  have hfr:=h.evU hu;unfold Eh at hw;split at hw
  case h_4=>exact hw.elim
  case h_1 g caps=>
   obtain⟨us,hus,hw⟩:=hw
   generalize hef:a.eval f=vf at hfr;cases hfr with
   |fn _ _ vs hl h3=>
    exact go hw (M5 h hus) ⟨hl,h3⟩ (fun has=>Mp h _ hus has) fun g' e hfn=>enter (e ▸ hfn) hef
  case h_2 g cs=>
   obtain⟨us,hus,hw⟩:=hw
   obtain⟨vs,hef,hvs⟩:=hfr
   have hcs:RepL (RepU ρ w Z) (cs.map U.c) vs:=hvs.imp U.c fun x v _ hx=>hx
   refine go (vs:=[]) (vals:=args.toList.map a.eval++vs) hw ((M5 h hus).append hcs) ⟨rfl,fun j x v hx=>by simp at hx⟩ (fun {as ids} has=> ?_) fun g' e hfn=>by rw[List.append_nil];exact enter (e ▸ hfn) hef
   obtain⟨as1,as2,rfl,ha1,ha2⟩:=jdr has
   exact(Mp h _ hus ha1).append (E9 h ids hcs ha2)
  case h_3 x=>
   obtain⟨us,hus,as,rest,hlk,has,hK⟩:=hw
   obtain⟨Y,R,D,hX,rfl,hJ,hRZ,hR0,hDM,hD0,hD00⟩:=hL.y _ _ hlk
   have hok:=hY Y hX;have hJw:=hok.stable _ R D w0 w M hJ (fun ad hm hdd=>hDM ad hdd hm) h.fr
   have hef:a.eval f=Y.x:=by
    generalize a.eval f=vf at hfr;cases hfr;rfl
   simp only[St.argsW,jze]at has;obtain⟨as',has',he⟩:=has;obtain rfl:as'=as:=by simpa using he
   have hsub:=hok.sub _ R D w hJw;obtain⟨hfn,hc⟩:=hok.step as' rest R D (fun ad=>D ad∨(ad.block<w.heap.size∧ ¬Ar (AJ (st.reachU us) ρ) Z ad)) w (args.toList.map a.eval) hJw (fun ad hdd=> .inl hdd) (PJ h (fun ad hdd=>hdd.elim (hsub.2 ad) fun hh=>hh.1) fun ad hdd hl=>by
    rcases hdd with hr|hn
    ·exact .inl (hRZ ad hr)
    ·exact CD (Classical.not_not.1 fun hno=>hn (.inr ⟨hl,hno⟩)))
    (RepL.mono (Mp h _ hus has') fun x v hx=>hx.keep fun ad u hno hu=>⟨hu,fun hh=>by
     rcases hh with hr|hnd
     ·exact hno (.inl (hRZ ad hr))
     ·exact hnd (.inr ⟨World.block_lt_of_cell? w ad hu,hno⟩)⟩)
   unfold Oper.wp;rw[enter hfn hef];simp only[Oper.upon];refine hc.mono fun e w' hpost=> ?_
   obtain⟨rfl,R',D',hJ',hfr,hR',hD',hDD⟩:=hpost
   refine MX h hL hd hn hX hok hJ hRZ hR0 hDM hD0 hD00 hJ' hfr hR' (fun ad hdd=> ?_) hDD hK
   rcases hD' ad hdd with (h1|h1)|h1
   ·exact .inl h1
   ·exact .inr (.inl h1.2)
   ·exact .inr (.inr h1)
 ·obtain⟨s,hs,hK⟩:=hw
  obtain⟨nx,v,w',ρ',hrun,hnx,hrel⟩:=jkH h hT hds hs
  unfold Oper.wp;rw[hrun];rcases hnx with rfl|⟨rfl,rfl⟩
  ·exact⟨M,Z,w0,ρ',s,hL.put (TrLe.step hdy hs) hd,hrel,(CX _ _ _).trans hn,hK⟩
  ·exact⟨M,Z,w0,ρ',s,hL.put (TrLe.step hdy hs) hd,hrel,(CX _ _ _).trans hn,hK⟩
def Ev(n:Nat)(pin:List Nat)(ops:List Oper):Bool:=ops.all fun o=>match o.dst with|some d=>decide (d<n)&&(decide (d<YS)&& !pin.contains d)|none=>true
theorem T7{ops:List Oper}(h:Ev X.n X.pin ops=true){o:Oper}(ho:o∈ops){d:Nat}(hd:o.dst=some d):Fg X d:=by
 grind[Ev,List.all_eq_true,Fg]
theorem jgM(ops:List Oper)(tmps:Array Value)(j d:Nat)(hd:(ops[j]?).bind (·.dst)=some d):yielded ops.toArray tmps j=match tmps[d]? with|some (.bool b)=>some b|_=>none:=by
 unfold yielded
 grind
theorem Ww: ∀{b c:Bool},¬b=c→b= !c
 |true,true,h=>absurd rfl h
 |true,false,_=>rfl
 |false,true,_=>rfl
 |false,false,h=>absurd rfl h
theorem PM(hT:A5 P T)(hY: ∀Y,X.Y=some Y→YlOk P Y)(hL:Lk X M Z w0 st a)(h:Rel M Z w0 ρ st a w)(hn:a.tmps.size=X.n){ops:List Oper}(hok:Ev X.n X.pin ops=true){o:Oper}(ho:o∈ops){K:St→Prop}{Q:Exit→Act→World→Prop}(hw:Ca P T ops o st K):
  if Region.wanted o (yielded ops.toArray a.tmps) then o.wp P a w (BX X K) Q else BX X K (a.put o.dst undef) w:=by
 have hd': ∀d,o.dst=some d→Fg X d:=(by grind[T7])
 have hd: ∀d,o.dst=some d→d<a.tmps.size:=fun d hd=>by rw[hn];exact(hd' d hd).1
 have hdy: ∀d,o.dst=some d→d<YS:=fun d hd=>(hd' d hd).2.1
 have undefV: ∀ρ,RepV ρ w Z (.tup []) undef:=fun ρ=>⟨[],rfl,rfl,(by simp)⟩
 unfold Ca at hw;split at hw
 ·rename_i hg
  rw[if_pos (by simp[Region.wanted,hg])]
  grind[Sb]
 ·rename_i j want hg
  split at hw
  case h_2=>exact hw.elim
  case h_1 dj hdj=>
   have hy:=jgM ops a.tmps j dj hdj;obtain⟨oj,hoj,hdo⟩: ∃oj,ops[j]? =some oj∧oj.dst=some dj:=by
    simpa [jzd]using hdj
   have hdj':Fg X dj:=T7 hok (BY hoj) hdo;have hjlt:dj<a.tmps.size:=by rw[hn];exact hdj'.1
   have hLp: ∀v,Lk X M Z w0 (st.put (some dj) v) a:=fun v=>hL.of (TrLe.put fun k hk=>by cases hk;exact hdj'.2.1)
   unfold EW at hw;split at hw
   ·rename_i b hlk
    have hv:=h.tmps dj _ hlk;have hb:a.tmps[dj]? =some (.bool b):=by
     simp[Array.getD,hjlt]at hv
     rw[Array.getElem?_eq_getElem hjlt]
     generalize a.tmps[dj]=x at hv;cases hv;rfl
    have hy':yielded ops.toArray a.tmps j=some b:=by rw[hy,hb]
    have hput: ∀b',b=b'→Rel M Z w0 ρ (st.put (some dj) (vB b')) a w:=fun b' hbb=>by
     subst hbb;have:=h.put (dst:=some dj) (v:=vB b) (x:= .bool b) (fun d hd=>by cases hd;exact hjlt) (RepD.bool b)
     have ea:a.put (some dj) (.bool b)=a:=by
      simp only[Act.put];have:a.tmps.setIfInBounds dj (.bool b)=a.tmps:=by
       apply Array.ext
       ·simp
       ·intro q h1 h2;by_cases e:q=dj
        ·subst e;simp only[Array.getElem_setIfInBounds_self];rw[Array.getElem?_eq_getElem hjlt]at hb;exact(Bi hb).symm
        ·rw[Array.getElem_setIfInBounds_ne _ (fun h=>e h.symm)]
      rw[this]
     rwa [ea]at this
    by_cases hbw:b=want
    ·rw[if_pos (by simp[Region.wanted,hg,hy',hbw])]
     exact Sb hT hY (hLp _) (hput want hbw) hn hd' (hw.1 hbw)
    ·have hbn:b= !want:=Ww hbw
     have hnw: ¬Region.wanted o (yielded ops.toArray a.tmps)=true:=by
      unfold Region.wanted;rw[hg];intro hh;simp only[hy']at hh;exact hbw (by simpa using hh)
     rw[if_neg hnw]
     exact⟨M,Z,w0,ρ,_,(hLp _).put (TrLe.put hdy) hd',(hput (!want) hbn).put hd (undefV ρ),(CX _ _ _).trans hn,hw.2 hbn⟩
   ·rename_i hlk
    have hv:=h.tmps dj _ hlk;have hb:a.tmps[dj]? =some undef:=by
     simp[Array.getD,hjlt]at hv
     rw[Array.getElem?_eq_getElem hjlt]
     obtain⟨vs,h1,h2,_⟩:=hv
     have:vs=[]:=List.eq_nil_of_length_eq_zero (by simpa using h2.symm)
     subst this;rw[h1];rfl
    have hy':yielded ops.toArray a.tmps j=none:=by rw[hy,hb];rfl
    rw[if_neg (by simp[Region.wanted,hg,hy'])]
    exact⟨M,Z,w0,ρ,_,hL.put (TrLe.put hdy) hd',h.put hd (undefV ρ),(CX _ _ _).trans hn,hw⟩
   ·exact hw.elim
theorem Rg(hT:A5 P T)(hY: ∀Y,X.Y=some Y→YlOk P Y){ops:List Oper}{K:St→Prop}{Q:Exit→Act→World→Prop}(hok:Ev X.n X.pin ops=true)(hQ: ∀a w,BX X K a w→Q .normal a w):
  ∀(l:List Oper) (a:Act) (w:World),(∀o∈l,o∈ops)→BX X (fun st=>EV P T ops l st K) a w→wpList P ops.toArray Q l a w
 |[],a,w,_,h=>hQ a w h
 |o::r,a,w,hm,⟨M,Z,w0,ρ,st,hL,hrel,hn,hw⟩=>by
  have hg:=PM (Q:=Q) hT hY hL hrel hn hok (hm o (by simp)) hw
  have next: ∀a' w',BX X (JB (EV P T ops r) K) a' w'→wpList P ops.toArray Q r a' w':=fun a' w' hgo=>
   Rg hT hY hok hQ r a' w' (by grind) hgo
  unfold wpList;split
  ·rw[if_pos ‹_›]at hg
   grind[Oper.wp_mono]
  grind
theorem Rel.weaken(h:Rel M Z w0 ρ st a w){s0:St}(hle:s0.le st):Rel M Z w0 ρ s0 a w where
 fr:=h.fr
 heap:=⟨h.heap.owns,fun i b hb=>h.heap.rep i b (IN hle.2 i b hb)⟩
 mine:=h.mine
 out:=h.out
 mz:=h.mz
 tmps:=fun t v hv=>h.tmps t v (IN hle.1 t v hv)
 defers:=h.defers
 mps:=h.mps
end
end Go.Va
namespace Go.Va
open Go.RowKit
variable [Gv]
inductive Eff where
 |val (v:V)
 |new (b:Blk) (v:V)
 |put (i:Nat) (b:Blk)
 |app (k:Nat) (b:Blk) (v:V)
 |dat (x:D)
 deriving Inhabited
def St.eff(d:Option Nat)(e:Eff)(s:St):St:=
 match e with
 | .val v=>s.put d v
 | .new b v=>(s.new (d.getD 0) b).put d v
 | .put i b=>(s.blk i b).put d (.tup [])
 | .app k b v=>((s.drop k).new (d.getD 0) b).put d v
 | .dat x=>s.put d (vC (.d x))
def GD(cs:List C):Bool:=cs.all fun c=>c.id?.isNone
def effBsl(d:Nat)(j:TI)(len:Nat)(h:List (Nat×Blk))(l:List (Nat×List C)):Option Eff:=
 if len*j.size≤10000∧len≤10000 then (DE (F3 j.size) (rep len j.zero) l).bind fun cs=>
  if j.size=1∧cs.any EU=true then some (.new (.box cs) (vC (.sl d 0 len))) else
  if GD cs then (cs.mapM (toD (fun _=>false) h 4)).map fun ds=> .new (.row j.size ds true) (vC (.sl d 0 len)) else none
 else none
def GG(T:AH)(o:Oper)(E:St):Option Eff:=
 match o.op with
 | .buildSlice t len parts=>o.dst.bind fun _=>(T t).bind fun i=>i.sl.bind fun e=>(T e).bind fun j=>(E.evUs parts.toList).bind fun l=>
  if len*j.size≤10000∧len≤10000 then (DE (F3 j.size) (rep len j.zero) l).bind fun cs=>
   if j.size=1∧cs.any EU=true then none else
   if GD cs then (cs.mapM (toD (fun _=>false) E.h 4)).bind fun ds=>if ds.length=len*j.size then some (.dat (.slice len ds)) else none else none
  else none
 |_=>none
@[simp]def U.isClo:U→Bool
 | .clo _ _=>true
 |_=>false
def effStore(i:TI)(c:C)(v:U)(st:St):Option Eff:=
 if v.cells.length=i.size∧v.isClo=false then
  match c with
  | .ptr b off=>(lk b st.h).bind fun k=>match k with
   | .box cs=>if off+v.cells.length≤cs.length then some (.put b (.box (splice off v.cells cs))) else none
   | .row sz cs app=>if GD v.cells then (v.cells.mapM (toD (fun _=>false) st.h 4)).bind fun ds=>if off+ds.length≤cs.length then some (.put b (.row sz (splice off ds cs) app)) else none else none
   | .fbox _ _=>none
   | .mp _=>none
   | .gh _=>none
  |_=>none
 else none
def HG(e:TI)(d:Nat)(cs:List D)(n:Nat)(news:List D)(m:Nat)(f:Blk→V→Eff):Option Eff:=
 if (n+m)*e.bytes≤CP∧n+m≤CP then some (f (.row e.size (cs++news) true) (vC (.sl d 0 (n+m)))) else none
def effApp(e:TI)(d:Nat)(x:C)(news:List D)(m:Nat)(h:List (Nat×Blk)):Option Eff:=
 match x with
 | .nl=>HG e d [] 0 news m .new
 | .sl i off n=>(lk i h).bind fun b=>match b with
  | .row sz cs app=>if app=true∧off=0∧sz=e.size∧cs.length=n*sz then HG e d cs n news m (.app i) else none
  |_=>none
 |_=>none
def effBuiltin(T:AH)(b:Builtin)(ts:List TypeId)(args:List Operand)(d:Option Nat)(st:St):Option Eff:=
 match b,ts,args with
 | .len,[t],[x]=>(T t).bind fun i=>match i.arr with
  |some (n,_)=>some (.val (vI .i64 n))
  |none=>(st.evC x).bind fun c=>(if i.sl.isSome then lenC c else if Ce i then lenS c else none).map fun(n:Nat)=> .val (vI .i64 (n:Int))
 | .append,[t,t'],[x,y]=>
  d.bind fun d=>(T t).bind fun i=>i.sl.bind fun e=>(T e).bind fun j=>(st.evC x).bind fun c=>(st.evC y).bind fun s=>
   if t'=t then (st.src j s).bind fun p=>effApp j d c p.2 p.1 st.h else none
 | .min,_,x::r=>(st.evI x).bind fun p=>(r.mapM st.evI).bind fun l=>(DL false p.1 p.2 l).map .val
 | .max,_,x::r=>(st.evI x).bind fun p=>(r.mapM st.evI).bind fun l=>(DL true p.1 p.2 l).map .val
 |_,_,_=>none
def IX(d:Nat)(j:TI)(l c:Int):Option Eff:=
 if 0≤l∧l≤c∧c*j.bytes≤CP∧c≤CP then (j.zero.mapM (toD (fun _=>false) [] 4)).map fun z=> .new (.row j.size (rep l.toNat z) true) (vC (.sl d 0 l.toNat)) else none
def effOp(T:AH)(o:Oper)(st:St):Option Eff:=
 match o.op with
 | .assign (.const (.slice none 0 0))=>o.dst.bind fun d=>(T o.type).bind fun i=>i.sl.bind fun e=>(T e).map fun j=> .new (.row j.size [] true) (vC (.sl d 0 0))
 | .move x| .assign x=>(st.ev x).map .val
 | .pick c a b=>(st.evB c).bind fun c=>(pickV c (st.ev a) (st.ev b)).map .val
 | .alloc t=>(T t).bind fun i=>o.dst.map fun d=> .new (.box i.zero) (vC (.ptr d 0))
 | .box t x=>(T t).bind fun i=>(st.evU x).bind fun u=>if u.cells.length=i.size then o.dst.map fun d=> .new (Fq u) (vC (.ptr d 0)) else none
 | .build t parts=>(T t).bind fun i=>(st.evUs parts.toList).bind fun l=>(build T i l).map fun u=> .val (.u u)
 | .buildSlice t len parts=>(T t).bind fun i=>i.sl.bind fun e=>(T e).bind fun j=>(st.evUs parts.toList).bind fun l=>o.dst.bind fun d=>effBsl d j len st.h l
 | .load t a=>(T t).bind fun i=>(st.evC a).bind fun c=>(st.load i c).map fun u=> .val (.u u)
 | .store t a x=>(T t).bind fun i=>(st.evC a).bind fun c=>(st.evU x).bind fun u=>effStore i c u st
 | .nilCheck x=>(st.evC x).bind fun c=>(nilChk c).map fun c=> .val (vC c)
 | .binOp op t x y _=>(st.ev x).bind fun a=>(st.ev y).bind fun b=>(binV T op t a b).map .val
 | .unOp .not _ x=>(st.evB x).map fun b=> .val (vB !b)
 | .unOp .neg _ x=>(st.evI x).bind fun p=>(DJ p.1 (0 - p.2)).map .val
 | .convert s t x=>(T s).bind fun j=>(T t).bind fun i=>(st.evC x).bind fun c=>(convC T st.h j i c).map .val
 | .makeSlice t l c=>(T t).bind fun i=>i.sl.bind fun e=>(T e).bind fun j=>(st.evI l).bind fun l=>(st.evI c).bind fun c=>o.dst.bind fun d=>IX d j l.2 c.2
 | .slice t x lo hi none=>(T t).bind fun i=>(st.evC x).bind fun c=>(st.evO lo).bind fun l=>(st.evO hi).bind fun h=>
   (match i.sl with|some e=>(T e).bind fun j=>sliceV st.h c l h j.size|none=>if Ce i then sliceS c l h else none).map fun v=> .val (vC v)
 | .fieldAddr t x f=>(T t).bind fun i=>(st.evC x).bind fun c=>(i.flds[f]?).bind fun p=>(T p.2).bind fun j=>if j.size=0 then none else (fldAddr p.1 c).map fun c=> .val (vC c)
 | .field t x f=>(T t).bind fun i=>(st.evU x).bind fun u=>(fieldOf T i f u).map fun u=> .val (.u u)
 | .indexAddr t x i=>(T t).bind fun ti=>(st.evC x).bind fun c=>(st.evI i).bind fun n=>(idxAddr T st.h ti n.2 c).map fun c=> .val (vC c)
 | .index t x i=>(T t).bind fun ti=>(st.evU x).bind fun u=>(st.evI i).bind fun n=>(indexOf T ti n.2 u).map fun u=> .val (.u u)
 | .extract x i=>(st.ev x).bind fun v=>(tupAt i v).map fun u=> .val (.u u)
 | .makeFunc (.func f) first captured=>if first.toList=[] then (captured.toList.mapM st.evC).map fun cs=> .val (.u (clo [] f cs)) else none
 | .call { callee:= .builtin b,args,argTypes }=>effBuiltin T b argTypes.toList args.toList o.dst st
 |_=>none
def Mo{α:Type}(a b:Option α):Prop:= ∀x,a=some x→b=some x
theorem Mo.refl{α:Type}(a:Option α):Mo a a:=fun _ h=>h
theorem Mo.bind{α β:Type}{a b:Option α}{f g:α→Option β}(h:Mo a b)(hf: ∀x,Mo (f x) (g x)):Mo (a.bind f) (b.bind g):=fun y hy=>by
 cases ha:a with
 |none=>grind
 |some x=>rw[ha]at hy;rw[h x ha];exact hf x y hy
theorem Mo.map{α β:Type}{a b:Option α}(f:α→β)(h:Mo a b):Mo (a.map f) (b.map f):=fun y hy=>by
 cases ha:a with
 |none=>grind
 |some x=>rw[ha]at hy;rw[h x ha];exact hy
theorem Mo.ite{α:Type}{c:Prop}[Decidable c]{a b a' b':Option α}(h:Mo a b)(h':Mo a' b'):Mo (if c then a else a') (if c then b else b'):=by
 grind
theorem Mo.none{α:Type}(b:Option α):Mo none b:=fun _ h=>by cases h
structure St.Sub (e s:St):Prop where
 t: ∀k,Mo (lk k e.t) (lk k s.t)
 h: ∀k,Mo (lk k e.h) (lk k s.h)
section
variable {e s:St} (hs:e.Sub s)
include hs
theorem Sub.ev(x:Operand):Mo (e.ev x) (s.ev x):=by
 cases x with
 |tmp t=>exact hs.t t
 |_=>exact Mo.refl _
theorem Sub.evU(x:Operand):Mo (e.evU x) (s.evU x):=fun y hy=>by
 unfold St.evU at hy ⊢;split at hy
 ·rename_i u h;rw[Sub.ev hs x _ h];exact hy
 ·cases hy
theorem Sub.evC(x:Operand):Mo (e.evC x) (s.evC x):=fun y hy=>by
 unfold St.evC at hy ⊢;split at hy
 ·rename_i u h;rw[Sub.ev hs x _ h];exact hy
 ·cases hy
theorem Sub.evI(x:Operand):Mo (e.evI x) (s.evI x):=fun y hy=>by
 unfold St.evI at hy ⊢;split at hy
 ·rename_i k n h;rw[Sub.ev hs x _ h];exact hy
 ·cases hy
theorem Sub.evB(x:Operand):Mo (e.evB x) (s.evB x):=fun y hy=>by
 unfold St.evB at hy ⊢;split at hy
 ·rename_i b h;rw[Sub.ev hs x _ h];exact hy
 ·cases hy
theorem Sub.evO(x:Option Operand):Mo (e.evO x) (s.evO x):=by
 cases x with
 |none=>exact Mo.refl _
 |some x=>exact(Sub.evI hs x).map _
theorem Sub.evUs: ∀l,Mo (e.evUs l) (s.evUs l)
 |[]=>Mo.refl _
 |(_,x)::r=>(Sub.evU hs x).bind fun _=>(Sub.evUs r).map _
theorem Sub.isRow(i sz:Nat)(h:isRow e.h i sz=true):isRow s.h i sz=true:=by
 unfold Va.isRow at h ⊢;split at h
 ·rename_i h1;rw[hs.h i _ h1];exact h
 ·rename_i h1;rw[hs.h i _ h1];exact h
 ·cases h
theorem Sub.toD_sl(ok:Nat→Bool)(k i off n:Nat):Mo (Va.toD ok e.h k (.sl i off n)) (Va.toD ok s.h k (.sl i off n)):=fun y hy=>by
 have he: ∀h:List (Nat×Blk),Va.toD ok h k (.sl i off n)=if ok i then (match lk i h with
  |some (.row sz cs _)=>if (off+n)*sz≤cs.length then some (.slice n (AP (off*sz) (n*sz) cs)) else none
  |_=>none) else none:=fun h=>by cases k<;>rfl
 rw[he]at hy ⊢
 by_cases ho:ok i=true
 ·rw[if_pos ho]at hy ⊢
  split at hy
  ·rename_i h1;rw[hs.h i _ h1];exact hy
  ·cases hy
 grind
theorem Sub.toD(ok:Nat→Bool): ∀(k:Nat) (c:C),Mo (Va.toD ok e.h k c) (Va.toD ok s.h k c)
 |0,.d x=>Mo.refl _
 |k+1,.d x=>Mo.refl _
 |0,.nl=>Mo.refl _
 |k+1,.nl=>Mo.refl _
 |0,.bad=>Mo.refl _
 |k+1,.bad=>Mo.refl _
 |0,.mp q i=>Mo.refl _
 |k+1,.mp q i=>Mo.refl _
 |0,.sl i off n=>Sub.toD_sl hs ok 0 i off n
 |k+1,.sl i off n=>(by grind[Sub.toD_sl])
 |0,.ptr i off=>Mo.refl _
 |k+1,.ptr i off=>fun y hy=>by
  have hm: ∀l:List C,Mo (l.mapM (Va.toD ok e.h k)) (l.mapM (Va.toD ok s.h k)):=fun l=>by
   induction l with
   |nil=>simpa using Mo.refl _
   |cons c r ih=>
    rw[List.mapM_cons,List.mapM_cons]
    exact(Sub.toD ok k c).bind fun _=>ih.bind fun _=>Mo.refl _
  unfold Va.toD at hy ⊢;by_cases ho:ok i=true
  ·rw[if_pos ho]at hy ⊢
   split at hy
   ·rename_i h1;rw[hs.h i _ h1];exact hy
   ·rename_i h1;rw[hs.h i _ h1];exact(hm _).map _ _ hy
   ·rename_i h1;rw[hs.h i _ h1]
    dsimp only
    by_cases h0:off=0
    ·rw[if_pos h0]at hy ⊢;exact(hm _).map _ _ hy
    grind
   ·cases hy
   ·cases hy
   ·cases hy
  grind
theorem Sub.sliceV(c:C)(l h:Option Int)(sz:Nat):Mo (sliceV e.h c l h sz) (sliceV s.h c l h sz):=fun y hy=>by
 unfold Va.sliceV at hy ⊢;split at hy
 ·rename_i i off n
  by_cases hr:Va.isRow e.h i sz=true
  ·rw[if_pos hr]at hy
   simp only[Sub.isRow hs i sz hr,if_true];exact hy
  grind
 ·exact hy
 ·exact hy
 ·cases hy
theorem Sub.idxSl(sz:Nat)(i:Int)(c:C):Mo (idxSl e.h sz i c) (idxSl s.h sz i c):=fun y hy=>by
 unfold Va.idxSl at hy ⊢;split at hy
 ·rename_i b off n
  by_cases hr:0≤i∧i<n∧Va.isRow e.h b sz=true
  ·rw[if_pos hr]at hy
   simp only[hr.1,hr.2.1,Sub.isRow hs b sz hr.2.2,and_self,if_true];exact hy
  grind
 ·exact hy
 ·cases hy
theorem Sub.idxAddr(T:AH)(i:TI)(n:Int)(c:C):Mo (idxAddr T e.h i n c) (idxAddr T s.h i n c):=by
 unfold Va.idxAddr;split
 ·exact Mo.refl _
 ·exact(Mo.refl _).bind fun _=>(Mo.refl _).bind fun _=>Sub.idxSl hs _ _ _
theorem Sub.load(i:TI)(c:C):Mo (e.load i c) (s.load i c):=by
 unfold St.load;split
 ·exact(hs.h _).bind fun _=>Mo.refl _
 ·exact Mo.refl _
 ·exact Mo.refl _
theorem Sub.convC(T:AH)(j i:TI)(c:C):Mo (convC T e.h j i c) (convC T s.h j i c):=by
 unfold Va.convC;split
 ·exact Mo.refl _
 ·exact Mo.ite ((hs.h _).bind fun _=>Mo.refl _) (Mo.refl _)
 ·exact Mo.refl _
theorem Sub.mapD(ok:Nat→Bool)(k:Nat): ∀l:List C,Mo (l.mapM (Va.toD ok e.h k)) (l.mapM (Va.toD ok s.h k))
 |[]=>by simpa using Mo.refl _
 |c::r=>by
  rw[List.mapM_cons,List.mapM_cons]
  exact(Sub.toD hs ok k c).bind fun _=>(Sub.mapD ok k r).bind fun _=>Mo.refl _
theorem Sub.effBsl(d:Nat)(j:TI)(len:Nat)(l:List (Nat×List C)):Mo (effBsl d j len e.h l) (effBsl d j len s.h l):=by
 unfold Va.effBsl;exact Mo.ite ((Mo.refl _).bind fun _=>Mo.ite (Mo.refl _) (Mo.ite ((Sub.mapD hs _ _ _).map _) (Mo.refl _))) (Mo.refl _)
theorem Sub.effStore(i:TI)(c:C)(v:U):Mo (effStore i c v e) (effStore i c v s):=by
 unfold Va.effStore;refine Mo.ite ?_ (Mo.refl _);split
 ·refine(hs.h _).bind fun k=> ?_
  split
  ·exact Mo.refl _
  ·exact Mo.ite ((Sub.mapD hs _ _ _).bind fun _=>Mo.refl _) (Mo.refl _)
  ·exact Mo.refl _
  ·exact Mo.refl _
  ·exact Mo.refl _
 ·exact Mo.refl _
theorem Sub.pickV(c:Bool)(a b a' b':Option V)(h:Mo a a')(h':Mo b b'):Mo (pickV c a b) (pickV c a' b'):=by
 grind[Va.pickV]
theorem Sub.src(j:TI)(c:C):Mo (e.src j c) (s.src j c):=by
 unfold St.src;split
 ·exact Mo.refl _
 ·exact Mo.refl _
 ·exact(hs.h _).bind fun _=>Mo.refl _
 ·exact Mo.refl _
theorem Sub.effApp(j:TI)(d:Nat)(c:C)(news:List D)(m:Nat):Mo (effApp j d c news m e.h) (effApp j d c news m s.h):=by
 unfold Va.effApp;split
 ·exact Mo.refl _
 ·exact(hs.h _).bind fun _=>Mo.refl _
 ·exact Mo.refl _
theorem Sub.evL: ∀l:List Operand,Mo (l.mapM e.evI) (l.mapM s.evI)
 |[]=>by simpa using Mo.refl _
 |c::r=>by
  rw[List.mapM_cons,List.mapM_cons]
  exact(Sub.evI hs c).bind fun _=>(Sub.evL r).bind fun _=>Mo.refl _
theorem Sub.evLC: ∀l:List Operand,Mo (l.mapM e.evC) (l.mapM s.evC)
 |[]=>by simpa using Mo.refl _
 |c::r=>by
  rw[List.mapM_cons,List.mapM_cons]
  exact(Sub.evC hs c).bind fun _=>(Sub.evLC r).bind fun _=>Mo.refl _
theorem Sub.effBuiltin(T:AH)(b:Builtin)(ts:List TypeId)(args:List Operand)(d:Option Nat):Mo (effBuiltin T b ts args d e) (effBuiltin T b ts args d s):=by
 unfold Va.effBuiltin;split
 ·refine(Mo.refl _).bind fun i=> ?_
  split
  ·exact Mo.refl _
  ·exact(Sub.evC hs _).bind fun _=>Mo.refl _
 ·exact(Mo.refl _).bind fun _=>(Mo.refl _).bind fun _=>(Mo.refl _).bind fun _=>(Mo.refl _).bind fun _=>(Sub.evC hs _).bind fun _=>(Sub.evC hs _).bind fun _=>
   Mo.ite ((Sub.src hs _ _).bind (by grind[Sub.effApp])) (Mo.refl _)
 ·exact(Sub.evI hs _).bind fun _=>(Sub.evL hs _).bind fun _=>Mo.refl _
 ·exact(Sub.evI hs _).bind fun _=>(Sub.evL hs _).bind fun _=>Mo.refl _
 ·exact Mo.refl _
theorem Sub.effOp(T:AH)(o:Oper):Mo (effOp T o e) (effOp T o s):=by
 unfold Va.effOp;split
 ·exact Mo.refl _
 ·exact(Sub.ev hs _).map _
 ·exact(Sub.ev hs _).map _
 ·exact(Sub.evB hs _).bind fun _=>(Sub.pickV hs _ _ _ _ _ (Sub.ev hs _) (Sub.ev hs _)).map _
 ·exact Mo.refl _
 ·exact(Mo.refl _).bind fun _=>(Sub.evU hs _).bind fun _=>Mo.refl _
 ·exact(Mo.refl _).bind fun _=>(Sub.evUs hs _).bind fun _=>Mo.refl _
 ·exact(Mo.refl _).bind fun _=>(Mo.refl _).bind fun _=>(Mo.refl _).bind fun _=>(Sub.evUs hs _).bind fun _=>(Mo.refl _).bind (by grind[Sub.effBsl])
 ·exact(Mo.refl _).bind fun _=>(Sub.evC hs _).bind fun _=>(Sub.load hs _ _).map _
 ·exact(Mo.refl _).bind fun _=>(Sub.evC hs _).bind fun _=>(Sub.evU hs _).bind fun _=>Sub.effStore hs _ _ _
 ·exact(Sub.evC hs _).bind fun _=>Mo.refl _
 ·exact(Sub.ev hs _).bind fun _=>(Sub.ev hs _).bind fun _=>Mo.refl _
 ·exact(Sub.evB hs _).map _
 ·exact(Sub.evI hs _).bind fun _=>Mo.refl _
 ·exact(Mo.refl _).bind fun _=>(Mo.refl _).bind fun _=>(Sub.evC hs _).bind fun _=>(Sub.convC hs _ _ _ _).map _
 ·exact(Mo.refl _).bind fun _=>(Mo.refl _).bind fun _=>(Mo.refl _).bind fun _=>(Sub.evI hs _).bind fun _=>(Sub.evI hs _).bind fun _=>Mo.refl _
 ·refine(Mo.refl _).bind fun _=>(Sub.evC hs _).bind fun _=>(Sub.evO hs _).bind fun _=>(Sub.evO hs _).bind fun _=>Mo.map _ ?_
  split
  ·exact(Mo.refl _).bind (by grind[Sub.sliceV])
  ·exact Mo.refl _
 ·exact(Mo.refl _).bind fun _=>(Sub.evC hs _).bind fun _=>Mo.refl _
 ·exact(Mo.refl _).bind fun _=>(Sub.evU hs _).bind fun _=>Mo.refl _
 ·exact(Mo.refl _).bind fun _=>(Sub.evC hs _).bind fun _=>(Sub.evI hs _).bind fun _=>(Sub.idxAddr hs _ _ _ _).map _
 ·exact(Mo.refl _).bind fun _=>(Sub.evU hs _).bind fun _=>(Sub.evI hs _).bind fun _=>Mo.refl _
 ·exact(Sub.ev hs _).bind fun _=>Mo.refl _
 ·exact Mo.ite ((Sub.evLC hs _).map _) (Mo.refl _)
 ·grind[Sub.effBuiltin]
 ·exact Mo.refl _
end
theorem RZ(h:List (Nat×Blk))(k:Nat)(cs:List C)(hc:cs.all (fun c=>c.id?.isNone)=true):DZ h k cs=[]:=by
 cases k with
 |zero=>rfl
 |succ k=>
  grind[DZ,List.flatMap_eq_nil_iff,Option.isNone_iff_eq_none]
theorem QY{st:St}{cs:List C}{ds:List D}(hc:GD cs=true)(h:cs.mapM (toD (fun _=>false) st.h 4)=some ds):st.shut cs=some (ds,st):=by
 unfold St.shut;rw[RZ _ _ _ hc];unfold St.sealW;have:(fun x=>([]:List Nat).contains x)=fun _=>false:=by funext x;rfl
 rw[this,h]
 rfl
theorem OW{d:Nat}{j:TI}{len:Nat}{st:St}{l:List (Nat×List C)}{x:Eff}(h:effBsl d j len st.h l=some x):FG j len (some d) st l=some (st.eff (some d) x):=by
 unfold effBsl at h;unfold FG;split at h
 ·rename_i hc
  rw[if_pos hc]
  obtain⟨cs,h1,h2⟩:=jzd.1 h
  rw[h1]
  simp only[Option.bind_some];split at h2
  ·rename_i hb
   rw[if_pos hb]
   cases h2;rfl
  ·rename_i hb
   rw[if_neg hb]
   split at h2
   ·rename_i hn
    obtain⟨ds,h3,rfl⟩:=jze.1 h2
    rw[QY hn h3]
    rfl
   ·cases h2
 ·cases h
theorem jgd{i:TI}{c:C}{v:U}{st:St}{d:Option Nat}{x:Eff}(h:effStore i c v st=some x):((st.store i c v).map fun s=>s.put d (.tup []))=some (st.eff d x):=by
 unfold effStore at h;unfold St.store;split at h
 ·rename_i hl
  rw[if_pos hl.1]
  split at h
  ·obtain⟨k,h1,h2⟩:=jzd.1 h
   dsimp only
   rw[h1]
   simp only[Option.bind_some];rw[show ∀b off,St.storeU b off v st k=St.storeB b off v.cells st k from fun b off=>by cases v<;>first|rfl|simp_all]
   split at h2
   ·split at h2
    ·rename_i hh
     cases h2;simp only[St.storeB,if_pos hh,Option.map_some]
     rfl
    ·cases h2
   ·split at h2
    ·rename_i hn
     obtain⟨ds,h3,h4⟩:=jzd.1 h2
     split at h4
     ·rename_i hh
      cases h4;simp only[St.storeB]
      rw[QY hn h3]
      simp only[Option.bind_some];rw[h1];simp only[if_pos hh,Option.map_some];rfl
     ·cases h4
    ·cases h2
   ·cases h2
   ·cases h2
   ·cases h2
  ·cases h
 ·cases h
theorem jb2{j:TI}{d:Nat}{c:C}{news:List D}{m:Nat}{st:St}{x:Eff}(h:effApp j d c news m st.h=some x):st.app j d c news m=some (st.eff (some d) x):=by
 unfold effApp at h;unfold St.app;split at h
 ·unfold HG at h;unfold St.appGo;split at h
  ·rename_i hc;rw[if_pos hc];cases h;rfl
  ·cases h
 ·obtain⟨b,h1,h2⟩:=jzd.1 h
  dsimp only
  rw[h1]
  simp only[Option.bind_some];split at h2
  ·split at h2
   ·rename_i hc
    dsimp only
    rw[if_pos hc]
    unfold HG at h2;unfold St.appGo;split at h2
    ·rename_i hc2;rw[if_pos hc2];cases h2;rfl
    ·cases h2
   ·cases h2
  ·cases h2
 ·cases h
theorem jay(h h':List (Nat×Blk)): ∀(k:Nat) (c:C),toD (fun _=>false) h k c=toD (fun _=>false) h' k c
 |0,c=>by cases c<;>simp[toD]
 |k+1,c=>by cases c<;>simp[toD]
theorem XK(h:List (Nat×Blk)): ∀(k:Nat) (c:C) (x:D),toD (fun _=>false) [] k c=some x→toD (fun _=>true) h k c=some x
 |0,c,x,hx=>by cases c<;>simp_all [toD]
 |k+1,c,x,hx=>by cases c<;>simp_all [toD]
theorem TN(h:List (Nat×Blk))(k:Nat): ∀(cs:List C) (ds:List D),cs.mapM (toD (fun _=>false) [] k)=some ds→cs.mapM (toD (fun _=>true) h k)=some ds
 |[],ds,hd=>by simpa using hd
 |c::r,ds,hd=>by
  simp only[List.mapM_cons,Option.pure_def,Option.bind_eq_bind,jzd,Option.some.injEq]at hd ⊢;obtain⟨x,hx,ys,hy,rfl⟩:=hd;exact⟨x,XK h k c x hx,ys,TN h k r ys hy,rfl⟩
theorem jig(h h':List (Nat×Blk))(f:FuncId)(cs:List C):clo h f cs=clo h' f cs:=by
 unfold clo;have:(toD (fun _=>false) h 4)=toD (fun _=>false) h' 4:=funext fun c=>jay h h' 4 c
 rw[this]
theorem Cj{α:Type}{a:Option α}{f:α→V}{st:St}{d:Option Nat}{x:Eff}(h:a.map (fun y=>Eff.val (f y))=some x):(a.map fun y=>st.put d (f y))=some (st.eff d x):=by
 obtain⟨y,rfl,rfl⟩:=jze.1 h
 rfl
theorem AY{α:Type}{a:Option α}{f:α→Option Eff}{g:α→Option St}{r:St}{x:Eff}(h:a.bind f=some x)(hg: ∀y,f y=some x→g y=some r):a.bind g=some r:=by
 obtain⟨y,rfl,hy⟩:=jzd.1 h
 exact hg y hy
theorem Ql{st:St}{o:Option Nat}{b:Blk}{c:Nat→C}{x:Eff}(h:(o.map fun d=>Eff.new b (vC (c d)))=some x):mk o st b c=some (st.eff o x):=by
 cases o with
 |none=>cases h
 |some d=>cases h;rfl
theorem Zf{d:Nat}{j:TI}{l c:Int}{st:St}{x:Eff}(h:IX d j l c=some x):FC j (some d) st l c=some (st.eff (some d) x):=by
 unfold IX at h;unfold FC;split at h
 ·rename_i hc
  rw[if_pos hc]
  obtain⟨z,hz,rfl⟩:=jze.1 h
  have:j.zero.mapM st.cD=some z:=TN st.h 4 _ _ hz
  rw[this]
  rfl
 ·cases h
theorem jiF{T:AH}{b:Builtin}{ts:List TypeId}{args:List Operand}{d:Option Nat}{st:St}{x:Eff}(h:effBuiltin T b ts args d st=some x):FK T b ts args d st=some (st.eff d x):=by
 unfold effBuiltin at h;unfold FK;split at h
 ·refine AY h fun i h=> ?_
  unfold G3;split at h
  ·rename_i ha;rw[ha];cases h;rfl
  ·rename_i ha;rw[ha];exact AY h fun _ h=>Cj h
 ·obtain⟨d',hd,h⟩:=jzd.1 h
  subst hd;simp only[Option.bind_some];refine AY h fun _ h=>AY h fun _ h=>AY h fun _ h=>AY h fun _ h=>AY h fun _ h=> ?_
  split at h
  ·rename_i ht;rw[if_pos ht];grind[AY,jb2]
  ·cases h
 ·exact AY h fun _ h=>AY h fun _ h=>Cj h
 ·exact AY h fun _ h=>AY h fun _ h=>Cj h
 ·cases h
theorem jkv{T:AH}{o:Oper}{st:St}{x:Eff}(h:effOp T o st=some x):DH T o st=some (st.eff o.dst x):=by
 unfold effOp at h;unfold DH;split at h
 ·rename_i ho;rw[ho]
  obtain⟨d,hd,h⟩:=jzd.1 h
  rw[hd]
  unfold GH;simp only[Option.bind_some];refine AY h fun _ h=>AY h fun _ h=> ?_
  obtain⟨j,hj,rfl⟩:=jze.1 h
  rw[hj]
  rfl
 ·rename_i ho;rw[ho];exact Cj h
 ·rename_i hne ho
  rw[ho]
  split
  ·rename_i he;cases he;exact(hne rfl).elim
  ·rename_i he;cases he
  ·rename_i he;cases he;exact Cj h
  case h_32=>exact(‹∀x:Operand,Op.assign _=Op.assign x→False› _ rfl).elim
  all_goals (rename_i he;cases he)
 ·rename_i ho;rw[ho];exact AY h fun _ h=>Cj h
 ·grind[AY,Ql]
 ·rename_i ho;rw[ho]
  refine AY h fun _ h=>AY h fun _ h=> ?_
  split at h
  ·rename_i hc;rw[if_pos hc];exact Ql h
  ·cases h
 ·rename_i ho;rw[ho];exact AY h fun _ h=>AY h fun _ h=>Cj h
 ·rename_i ho;rw[ho]
  refine AY h fun _ h=>AY h fun _ h=>AY h fun _ h=>AY h fun _ h=> ?_
  obtain⟨d,hd,h⟩:=jzd.1 h
  grind[OW]
 ·rename_i ho;rw[ho];exact AY h fun _ h=>AY h fun _ h=>Cj h
 ·grind[AY,jgd]
 ·rename_i ho;rw[ho];exact AY h fun _ h=>Cj h
 ·rename_i y _ ho;rw[ho]
  dsimp only
  rw[if_neg (fun e=>by
   obtain⟨_,_,h⟩:=jzd.1 h
   obtain⟨_,hb,_⟩:=jzd.1 h
   unfold Ga at e;split at e
   ·cases hb
   ·cases e)]
  exact AY h fun _ h=>AY h fun _ h=>Cj h
 ·rename_i ho;rw[ho];exact Cj h
 ·rename_i ho;rw[ho];exact AY h fun _ h=>Cj h
 ·rename_i ho;rw[ho];exact AY h fun _ h=>AY h fun _ h=>AY h fun _ h=>Cj h
 ·rename_i ho;rw[ho]
  refine AY h fun _ h=>AY h fun _ h=>AY h fun _ h=>AY h fun _ h=>AY h fun _ h=> ?_
  obtain⟨d,hd,h⟩:=jzd.1 h
  grind[Zf]
 ·rename_i ho;rw[ho];exact AY h fun _ h=>AY h fun _ h=>AY h fun _ h=>AY h fun _ h=>Cj h
 ·rename_i ho;rw[ho]
  refine AY h fun _ h=>AY h fun _ h=>AY h fun _ h=>AY h fun _ h=> ?_
  split at h
  ·cases h
  ·rename_i hc;rw[if_neg hc];exact Cj h
 ·rename_i ho;rw[ho];exact AY h fun _ h=>AY h fun _ h=>Cj h
 ·rename_i ho;rw[ho];exact AY h fun _ h=>AY h fun _ h=>AY h fun _ h=>Cj h
 ·rename_i ho;rw[ho];exact AY h fun _ h=>AY h fun _ h=>AY h fun _ h=>Cj h
 ·rename_i ho;rw[ho];exact AY h fun _ h=>Cj h
 ·rename_i ho;rw[ho]
  dsimp only
  split at h
  ·rename_i hf
   rw[if_pos hf]
   obtain⟨cs,hcs,rfl⟩:=jze.1 h
   rw[hcs,jig [] st.h]
   rfl
  ·cases h
 ·grind[jiF]
 ·cases h
end Go.Va
namespace Go.Va
open Go.RowKit
variable [Gv]
structure FS where
 t:Nat→Option V
 h:Nat→Option Blk
def St.fs(s:St):FS:=⟨fun k=>lk k s.t,fun k=>lk k s.h⟩
def Eff.v:Eff→V
 | .val v=>v
 | .new _ v=>v
 | .put _ _=> .tup []
 | .app _ _ v=>v
 | .dat x=>vC (.d x)
def Eff.b(d:Option Nat):Eff→Nat→Option (Option Blk)
 | .val _,_=>none
 | .dat _,_=>none
 | .new b _,k=>if d.getD 0=k then some (some b) else none
 | .put i b,k=>if i=k then some (some b) else none
 | .app i b _,k=>if d.getD 0=k then some (some b) else if i=k then some none else none
structure Step where
 d:Option Nat
 x:Eff
 deriving Inhabited
def Step.hits(s:Step)(k:Nat):Prop:=(s.x.b s.d k).isSome=true
def FS.upd(F:FS)(s:Step):FS:=
 ⟨fun t=>if s.d=some t then some s.x.v else F.t t,fun k=>(s.x.b s.d k).getD (F.h k)⟩
def FS.run(F:FS)(l:List Step):FS:=l.foldl FS.upd F
structure Step.Indep (s s':Step):Prop where
 d: ∀t,s.d=some t→s'.d≠some t
 h: ∀k,s.hits k→ ¬s'.hits k
theorem FS.ext'{F G:FS}(h1: ∀t,F.t t=G.t t)(h2: ∀t,F.h t=G.h t):F=G:=by
 cases F;cases G
 simp only[FS.mk.injEq]
 grind
theorem Ma{s:Step}{k:Nat}(h: ¬s.hits k):s.x.b s.d k=none:=by
 unfold Step.hits at h
 simp_all
theorem FS.upd_comm(F:FS){s s':Step}(h:s.Indep s'):(F.upd s).upd s'=(F.upd s').upd s:=by
 refine FS.ext' (fun t=> ?_) fun k=> ?_
 ·simp only[FS.upd];by_cases h1:s.d=some t
  ·have:=h.d t h1
   simp[h1,this]
  ·simp[h1]
 ·simp only[FS.upd];by_cases hk:s.hits k
  ·rw[Ma (h.h k hk)];rfl
  ·rw[Ma hk];rfl
theorem FS.run_append(F:FS)(l m:List Step):F.run (l++m)=(F.run l).run m:=by simp[FS.run]
theorem FS.run_late(F:FS)(s:Step): ∀(l m:List Step),(∀s'∈m,s'.Indep s)→(F.run (l++m)).upd s=F.run (l++s::m)
 |l,[],_=>by simp[FS.run]
 |l,a::m,h=>by
  have ih:=FS.run_late F s (l++[a]) m fun s' hs'=>h s' (by simp[hs'])
  rw[show l++a::m=l++[a]++m by simp,ih]
  have hc:=FS.upd_comm (F.run l) (h a (by simp))
  simp only[FS.run_append]at hc ⊢
  show((((F.run l).upd a).upd s).run m)=((((F.run l).upd s).upd a).run m)
  rw[hc]
theorem FS.run_h(F:FS)(k:Nat): ∀l:List Step,(∀s∈l,¬s.hits k)→(F.run l).h k=F.h k
 |[],_=>rfl
 |s::l,h=>by
  show((F.upd s).run l).h k=_
  rw[FS.run_h (F.upd s) k l fun s' hs=>h s' (by simp[hs])]
  simp only[FS.upd,Ma (h s (by simp)),Option.getD_none]
theorem FS.upd_t(F G:FS)(s:Step)(t:Nat)(h:F.t t=G.t t):(F.upd s).t t=(G.upd s).t t:=by
 simp[FS.upd,h]
theorem FS.upd_h(F G:FS)(s:Step)(k:Nat)(h:F.h k=G.h k):(F.upd s).h k=(G.upd s).h k:=by
 grind[FS.upd]
theorem FS.run_t_filter(p:Nat→Bool)(f:Nat→Step)(t:Nat): ∀(l:List Nat) (F G:FS),F.t t=G.t t→(∀j∈l,p j=false→(f j).d≠some t)→
  (F.run (l.map f)).t t=(G.run ((l.filter p).map f)).t t
 |[],_,_,h,_=>h
 |j::l,F,G,h,hp=>by
  rw[List.filter_cons]
  split
  ·exact FS.run_t_filter p f t l (F.upd (f j)) (G.upd (f j)) (FS.upd_t _ _ _ _ h) fun j' hj'=>hp j' (by simp[hj'])
  ·rename_i hf
   refine FS.run_t_filter p f t l (F.upd (f j)) G ?_ fun j' hj'=>hp j' (by simp[hj'])
   have:=hp j (by simp) (by simpa using hf)
   simp[FS.upd,this,h]
theorem FS.run_h_filter(p:Nat→Bool)(f:Nat→Step)(k:Nat): ∀(l:List Nat) (F G:FS),F.h k=G.h k→(∀j∈l,p j=false→ ¬(f j).hits k)→
  (F.run (l.map f)).h k=(G.run ((l.filter p).map f)).h k
 |[],_,_,h,_=>h
 |j::l,F,G,h,hp=>by
  rw[List.filter_cons]
  split
  ·exact FS.run_h_filter p f k l (F.upd (f j)) (G.upd (f j)) (FS.upd_h _ _ _ _ h) fun j' hj'=>hp j' (by simp[hj'])
  ·rename_i hf
   refine FS.run_h_filter p f k l (F.upd (f j)) G ?_ fun j' hj'=>hp j' (by simp[hj'])
   have:=FS.run_h F k [f j] (by simpa using hp j (by simp) (by simpa using hf))
   exact this.trans h
end Go.Va
namespace Go.Va
open Go.RowKit
variable [Gv]
theorem LF{i n:Nat}(h:i<n):List.range n=List.range i++i::(List.range (n - i - 1)).map (i+1+ ·):=by
 have h1:n=i+(1+(n - i - 1)):=by omega
 conv=>lhs;rw[h1]
 rw[List.range_add,List.range_add]
 simp[Function.comp_def,Nat.add_assoc]
def Co(n:Nat)(L:Nat→Bool):List Nat:=(List.range n).filter L
theorem PY{i n:Nat}(h:i<n){L L':Nat→Bool}(hi:L i=false)(hi':L' i=true)(hL: ∀j,j≠i→L' j=L j):
  ∃A B,Co n L=A++B∧Co n L'=A++i::B∧ ∀j∈B,i<j∧j<n∧L j=true:=by
 refine⟨(List.range i).filter L,((List.range (n - i - 1)).map (i+1+ ·)).filter L,?_,?_,?_⟩
 ·unfold Co;rw[LF h,List.filter_append,List.filter_cons,if_neg (by simp[hi])]
 ·unfold Co;rw[LF h,List.filter_append,List.filter_cons,if_pos hi']
  congr 1
  ·grind[List.filter_congr]
  ·congr 1
   refine List.filter_congr fun j hj=>hL j ?_
   obtain⟨k,_,rfl⟩:=jzk.1 hj
   omega
 grind
structure Plan (F0:FS) (n:Nat) (f:Nat→Step) (E:Nat→St) (pred:Nat→Nat→Bool):Prop where
 lt: ∀j i,pred j i=true→j<i
 ind: ∀i j,i<j→j<n→pred i j=false→(f j).Indep (f i)
 t: ∀i,i<n→ ∀t v,lk t (E i).t=some v→(F0.run ((List.range i).map f)).t t=some v∧ ∀j,j<n→j≠i→pred j i=false→pred i j=false→(f j).d≠some t
 h: ∀i,i<n→ ∀k b,lk k (E i).h=some b→(F0.run ((List.range i).map f)).h k=some b∧ ∀j,j<n→j≠i→pred j i=false→pred i j=false→ ¬(f j).hits k
section
variable {F0:FS} {n:Nat} {f:Nat→Step} {E:Nat→St} {pred:Nat→Nat→Bool} {L:Nat→Bool}
theorem Plan.filter_eq(hp:Plan F0 n f E pred){i:Nat}(hi:i<n)(hr: ∀j,pred j i=true→L j=true):
  (List.range i).filter (fun j=>pred j i)=(Co n L).filter (fun j=>pred j i):=by
 unfold Co;rw[List.filter_filter,LF hi,List.filter_append,List.filter_cons];have h1:(pred i i&&L i)=false:=by
  cases h:pred i i with
  |false=>rfl
  |true=>exact absurd (hp.lt i i h) (Nat.lt_irrefl i)
 rw[if_neg (by simp[h1])]
 have h2:((List.range (n - i - 1)).map (i+1+ ·)).filter (fun a=>pred a i&&L a)=[]:=by
  rw[List.filter_eq_nil_iff]
  intro j hj;obtain⟨k,_,rfl⟩:=jzk.1 hj;cases h:pred (i+1+k) i with
  |false=>simp[h]
  |true=>exact absurd (hp.lt _ _ h) (by omega)
 rw[h2,List.append_nil]
 refine List.filter_congr fun j hj=> ?_
 simp_all
theorem Plan.sub(hp:Plan F0 n f E pred){i:Nat}(hi:i<n)(hLi:L i=false)(hr: ∀j,pred j i=true→L j=true)(hc: ∀j,L j=true→ ∀k,pred k j=true→L k=true)
  {s:St} (hs:s.fs=F0.run ((Co n L).map f)):(E i).Sub s:=by
 have hmem: ∀j∈Co n L,j<n∧L j=true:=fun j hj=>by
  obtain⟨h1,h2⟩:=List.mem_filter.1 hj
  grind
 refine⟨fun t v hv=> ?_,fun k b hb=> ?_⟩
 ·obtain⟨h1,h2⟩:=hp.t i hi t v hv
  have ha:=FS.run_t_filter (fun j=>pred j i) f t (List.range i) F0 F0 rfl fun j hj hf=>by
   have:=List.mem_range.1 hj
   refine h2 j (by omega) (by omega) hf ?_
   cases h:pred i j with
   |false=>rfl
   |true=>exact absurd (hp.lt _ _ h) (by omega)
  have hb:=FS.run_t_filter (fun j=>pred j i) f t (Co n L) F0 F0 rfl (by grind)
  rw[hp.filter_eq hi hr,←hb]at ha
  have:s.fs.t t=some v:=by grind
  exact this
 ·obtain⟨h1,h2⟩:=hp.h i hi k b hb
  have ha:=FS.run_h_filter (fun j=>pred j i) f k (List.range i) F0 F0 rfl fun j hj hf=>by
   have:=List.mem_range.1 hj
   refine h2 j (by omega) (by omega) hf ?_
   cases h:pred i j with
   |false=>rfl
   |true=>exact absurd (hp.lt _ _ h) (by omega)
  have hb:=FS.run_h_filter (fun j=>pred j i) f k (Co n L) F0 F0 rfl (by grind)
  rw[hp.filter_eq hi hr,←hb]at ha
  have:s.fs.h k=some b:=by grind
  exact this
theorem Plan.next(hp:Plan F0 n f E pred){i:Nat}(hi:i<n){L':Nat→Bool}(hLi:L i=false)(hLi':L' i=true)(hL: ∀j,j≠i→L' j=L j)(hc: ∀j,L j=true→ ∀k,pred k j=true→L k=true):
  (F0.run ((Co n L).map f)).upd (f i)=F0.run ((Co n L').map f):=by
 obtain⟨A,B,h1,h2,h3⟩:=PY hi hLi hLi' hL
 rw[h1,h2,List.map_append,List.map_append,List.map_cons]
 refine FS.run_late F0 (f i) _ _ fun s hs=> ?_
 obtain⟨j,hj,rfl⟩:=jzk.1 hs
 obtain⟨h4,h5,h6⟩:=h3 j hj
 refine hp.ind i j h4 h5 ?_
 grind
end
end Go.Va
