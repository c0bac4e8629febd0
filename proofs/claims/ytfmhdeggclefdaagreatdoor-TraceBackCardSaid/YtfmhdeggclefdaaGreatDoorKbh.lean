/- a part of the proof -/
import Derived.Test.YtfmhdeggclefdaaGreatDoorKbg
import Derived.Test.YtfmhdeggclefdaaGreatDoorKak
import Derived.Test.YtfmhdeggclefdaaGreatDoorKay
import Derived.Lib.Split
set_option linter.all false
set_option maxHeartbeats 4000000
set_option maxRecDepth 10000
namespace Go.Va
open Int renaming natCast_add → qA, natCast_mul → qB, natCast_emod → qC, natCast_ediv → qD, natCast_pow → qE
open List renaming reduceReplicate → qF
open Go.Proofs
def Dg(l:List Int):C:=if l=[] then .nl else .sl 901 0 l.length
def KD(l:List Int):List (Nat×Blk):=if l=[] then [] else [(901,.row 1 (l.map i64) true)]
theorem jbG: ∀(k:Nat) (L:List Nat),L.Nodup→(∀x∈L,x<k)→L.length≤k
 |0,[],_,_=>AO _
 |0,x::_,_,h=>absurd (h x (by simp)) (Nat.not_lt_zero _)
 |k+1,L,hn,h=>by
  have h1:=jbG k (L.erase k) (hn.erase k) fun x hx=>by
   have:=h x (List.mem_of_mem_erase hx)
   have hne:x≠k:=fun e=>by
    subst e;exact(List.Nodup.not_mem_erase hn) hx
   omega
  have h2:L.length≤(L.erase k).length+1:=by
   rw[List.length_erase]
   split<;>omega
  omega
theorem jbh{P:Program}{T:AH}{ops seg:List Oper}{pl:List (List Nat)}(Inv:List Nat→St→Prop){K:St→Prop}(hs: ∀L s i o,Inv L s→seg[i]? =some o→L.contains i=false→(pl.getD i []).all (L.contains ·)=true→Ca P T ops o s (Inv (i::L)))
  (hk: ∀L s,Inv L s→(∀i<seg.length,i∈L)→K s): ∀(n:Nat) (L:List Nat) (st:St),n+L.length=seg.length→L.Nodup→(∀x∈L,x<seg.length)→Inv L st→E3 P T ops seg pl n L st K
 |0,L,st,hl,hn,hx,hi=>hk L st hi fun i hi=>by
  refine Classical.byContradiction fun hm=> ?_
  have:=jbG seg.length (i::L) (List.nodup_cons.2 ⟨hm,hn⟩) (fun x hx'=>by
   rcases jzn.1 hx' with rfl|h
   ·exact hi
   ·exact hx x h)
  rw[List.length_cons]at this
  omega
 |n+1,L,st,hl,hn,hx,hi=>fun i o h1 h2 h3=>jkw (fun s hs'=>jbh Inv hs hk n (i::L) s (by rw[List.length_cons];omega) (List.nodup_cons.2 ⟨by simpa using h2,hn⟩) (fun x hx'=>by
   rcases jzn.1 hx' with rfl|h
   ·exact(jzg.1 h1).1
   ·exact hx x h) hs') (hs L st i o hi h1 h2 h3)
structure RInv (k:Int) (ns:List ByteArray) (S S':Ps) (pt:Int) (l:List Int) (L:List Nat) (s:St):Prop where
 t7:lk 7 s.t=some (vC (.ptr 20 0))
 t4:lk 4 s.t=some (vC (.ptr 4 0))
 t8:lk 8 s.t=some (vI .i64 l.length)
 b4:lk 4 s.h=some (.box [.d (.int .i64 k),Dg l,.d (.bool false),.nl,.nl])
 b20:lk 20 s.h=some (Hf (if 3∈L then S' else S) ns)
 h0:0∈L→lk 63 s.t=some (vC (.ptr 4 1))
 h1:1∈L→lk 64 s.t=some (vC (Dg l))
 h2:2∈L→lk 65 s.t=some (vC (.ptr 20 0))
 h3:3∈L→lk 66 s.t=some (vI .i64 pt)
 h4:4∈L→lk 67 s.t=some (vC (.sl 67 0 1))∧lk 67 s.h=some (.row 1 [.int .i64 pt] true)
 h5:5∈L→lk 68 s.t=some (vC (.sl 68 0 (l.length+1)))∧lk 68 s.h=some (.row 1 (l.map i64++[.int .i64 pt]) true)
 h9:5∉L→l≠[]→lk 901 s.h=some (.row 1 (l.map i64) true)
theorem VF(j d:Nat)(b:Blk)(s:St):lk j (s.new d b).t=(lk j s.t).map (V.on (Bm d)):=BN _ _ _
theorem VO(j d:Nat)(b:Blk)(s:St):lk j (s.new d b).h=if j=d then some (b.on (Bm d)) else (lk j s.h).map (Blk.on (Bm d)):=by
 simp only[St.new,St.blk,St.purge,St.on];by_cases e:j=d
 ·rw[if_pos e,e,Bt]
 ·rw[if_neg e,BD e,BR e,BR e,BN]
theorem jeB(d:Nat)(hd:d≠901)(l:List Int):(Dg l).on (Bm d)=Dg l:=by
 unfold Dg;split
 ·rfl
 ·simp only[C.on,Bm];rw[if_neg (Ne.symm hd)]
theorem TG:Dg []= .nl:=rfl
theorem Qa{l:List Int}(h:l≠[]):Dg l= .sl 901 0 l.length:=by unfold Dg;rw[if_neg h]
section
variable {k:Int} {ns:List ByteArray} {S S':Ps} {pt:Int} {l:List Int} {L:List Nat} {s:St} {ops:List Oper} {ty:TypeId} {pos:String} {af:Array Edge}
theorem r0(hI:RInv k ns S S' pt l L s):Ca Tryz.prog tb ops ⟨some 63,.fieldAddr 43 (.tmp 4) 1,ty,pos,af,none⟩ s (RInv k ns S S' pt l (0::L)):=by
 obtain⟨t,h⟩:=s
 obtain⟨q7,q4,q8,b4,b20,h0,h1,h2,h3,h4,h5,h9⟩:=hI
 simp -implicitDefEqProofs[jJ,-qA,-qB,q4];refine⟨?_,?_,?_,?_,?_,?_,?_,?_,?_,?_,?_,?_⟩<;>simp_all [lk,HK]
theorem r2(hI:RInv k ns S S' pt l L s):Ca Tryz.prog tb ops ⟨some 65,.move (.tmp 7),ty,pos,af,none⟩ s (RInv k ns S S' pt l (2::L)):=by
 obtain⟨t,h⟩:=s
 obtain⟨q7,q4,q8,b4,b20,h0,h1,h2,h3,h4,h5,h9⟩:=hI
 simp -implicitDefEqProofs[jJ,-qA,-qB,q7];refine⟨?_,?_,?_,?_,?_,?_,?_,?_,?_,?_,?_,?_⟩<;>simp_all [lk,HK]
theorem r1(hI:RInv k ns S S' pt l L s)(m0:0∈L):Ca Tryz.prog tb ops ⟨some 64,.load 35 (.tmp 63),ty,pos,af,none⟩ s (RInv k ns S S' pt l (1::L)):=by
 obtain⟨t,h⟩:=s
 obtain⟨q7,q4,q8,b4,b20,h0,h1,h2,h3,h4,h5,h9⟩:=hI
 have h0:=h0 m0;simp only at*;simp -implicitDefEqProofs[jJ,-qA,-qB,h0,b4];refine⟨?_,?_,?_,?_,?_,?_,?_,?_,?_,?_,?_,?_⟩<;>simp_all [lk,HK]
theorem r4(hI:RInv k ns S S' pt l L s)(m3:3∈L):Ca Tryz.prog tb ops ⟨some 67,.buildSlice 35 1 #[(0,.tmp 66)],ty,pos,af,none⟩ s (RInv k ns S S' pt l (4::L)):=by
 obtain⟨t,h⟩:=s
 obtain⟨q7,q4,q8,b4,b20,h0,h1,h2,h3,h4,h5,h9⟩:=hI
 have h3':=h3 m3;have hon:=jeB 67 (by decide) l
 have hb:Blk.on (Bm 67) (.box [.d (.int .i64 k),Dg l,.d (.bool false),.nl,.nl])= .box [.d (.int .i64 k),Dg l,.d (.bool false),.nl,.nl]:=congrArg (fun c=>Blk.box [.d (.int .i64 k),c,.d (.bool false),.nl,.nl]) hon
 have hp:(Hf (if 3∈L then S' else S) ns).on (Bm 67)=Hf (if 3∈L then S' else S) ns:=rfl
 simp only at*;simp -implicitDefEqProofs[jJ,-qA,-qB,h3',-St.new];refine⟨?_,?_,?_,?_,?_,?_,?_,?_,?_,?_,?_,?_⟩<;>simp only[jka,HK,VF,VO]
 ·simp[q7,vC,V.on,U.on,C.on,Bm]
 ·simp[q4,vC,V.on,U.on,C.on,Bm]
 ·simp[q8,vI,V.on,U.on,C.on]
 ·rw[if_neg (by decide),b4,Option.map_some,hb]
 ·rw[if_neg (by decide),b20,Option.map_some,hp];simp
 ·simp only[jzn,E8,Nat.reduceEqDiff,false_or];intro m;simp[h0 m,vC,V.on,U.on,C.on,Bm]
 ·simp only[jzn,E8,Nat.reduceEqDiff,false_or];intro m;simp[h1 m,vC,V.on,U.on,hon]
 ·simp only[jzn,E8,Nat.reduceEqDiff,false_or];intro m;simp[h2 m,vC,V.on,U.on,C.on,Bm]
 ·simp only[jzn,E8,Nat.reduceEqDiff,false_or];intro m;simp[h3 m,vI,V.on,U.on,C.on]
 ·intro _;simp[vC,Blk.on]
 ·simp only[jzn,E8,Nat.reduceEqDiff,false_or];intro m;simp[(h5 m).1,(h5 m).2,vC,V.on,U.on,C.on,Bm,Blk.on]
 ·simp only[jzn,E8,Nat.reduceEqDiff,false_or];intro m1 m2;simp[h9 m1 m2,Blk.on]
theorem r5(hl:l.length≤100)(hI:RInv k ns S S' pt l L s)(m1:1∈L)(m4:4∈L)(n5:5∉L):Ca Tryz.prog tb ops ⟨some 68,.call { callee:= .builtin .append,args:= #[.tmp 64,.tmp 67],argTypes:= #[35,35] },ty,pos,af,none⟩ s (RInv k ns S S' pt l (5::L)):=by
 obtain⟨t,h⟩:=s
 obtain⟨q7,q4,q8,b4,b20,h0,h1,h2,h3,h4,h5,h9⟩:=hI
 have h1':=h1 m1;obtain⟨h4a,h4b⟩:=h4 m4;have h9':=h9 n5;have hon:=jeB 68 (by decide) l
 have hb:Blk.on (Bm 68) (.box [.d (.int .i64 k),Dg l,.d (.bool false),.nl,.nl])= .box [.d (.int .i64 k),Dg l,.d (.bool false),.nl,.nl]:=congrArg (fun c=>Blk.box [.d (.int .i64 k),c,.d (.bool false),.nl,.nl]) hon
 have hp:(Hf (if 3∈L then S' else S) ns).on (Bm 68)=Hf (if 3∈L then S' else S) ns:=rfl
 have fin: ∀s1:St,s1.t=t→(∀j,j≠901→lk j s1.h=lk j h)→RInv k ns S S' pt l (5::L) ((s1.new 68 (.row 1 (l.map i64++[.int .i64 pt]) true)).put (some 68) (vC (.sl 68 0 (l.length+1)))):=fun s1 e1 e2=>by
  refine⟨?_,?_,?_,?_,?_,?_,?_,?_,?_,?_,?_,?_⟩<;>simp only[St.put,jka,HK,VF,VO,e1]
  ·simp[q7,vC,V.on,U.on,C.on,Bm]
  ·simp[q4,vC,V.on,U.on,C.on,Bm]
  ·simp[q8,vI,V.on,U.on,C.on]
  ·rw[if_neg (by decide),e2 4 (by decide),b4,Option.map_some,hb]
  ·rw[if_neg (by decide),e2 20 (by decide),b20,Option.map_some,hp];simp
  ·simp only[jzn,E8,Nat.reduceEqDiff,false_or];intro m;simp[h0 m,vC,V.on,U.on,C.on,Bm]
  ·simp only[jzn,E8,Nat.reduceEqDiff,false_or];intro m;simp[h1 m,vC,V.on,U.on,hon]
  ·simp only[jzn,E8,Nat.reduceEqDiff,false_or];intro m;simp[h2 m,vC,V.on,U.on,C.on,Bm]
  ·simp only[jzn,E8,Nat.reduceEqDiff,false_or];intro m;simp[h3 m,vI,V.on,U.on,C.on]
  ·intro _;simp[h4a,h4b,e2 67 (by decide),vC,V.on,U.on,C.on,Bm,Blk.on]
  ·intro _;simp[vC,Blk.on]
  ·intro m;exact absurd (List.mem_cons_self) m
 simp only at*;by_cases hn:l=[]
 ·subst hn;rw[TG]at h1';simp -implicitDefEqProofs[jJ,-qA,-qB,h1',h4a,h4b,-St.new,-St.put];exact fin ⟨t,h⟩ rfl (fun _ _=>rfl)
 ·rw[Qa hn]at h1'
  have h9':=h9' hn;simp -implicitDefEqProofs[jJ,-qA,-qB,h1',h4a,h4b,h9',-St.new,-St.put];exact⟨⟨by omega,by omega⟩,fin ⟨t,rm 901 h⟩ rfl (fun j hj=>BR hj h)⟩
theorem Xw(l:List Int):(Dg l).on (Fs [20] [] [.ptr 20 0] [.ptr 20 0])=Dg l:=by
 unfold Dg;split<;>rfl
theorem TE(j:Nat){d:Nat}(v:V)(s':Ps)(s:St):lk j (s.backH (some d) [20] [] [.ptr 20 0] [.ptr 20 0] (AQ s' ns) v).t=if j=d then some v else (lk j s.t).map (V.on (Fs [20] [] [.ptr 20 0] [.ptr 20 0])):=by
 simp only[St.backH,St.put,St.on];by_cases e:j=d
 ·rw[if_pos e,e,Bt]
 ·rw[if_neg e,BD e,BR e,BN]
theorem T4(j:Nat){d:Nat}(v:V)(s':Ps)(s:St):lk j (s.backH (some d) [20] [] [.ptr 20 0] [.ptr 20 0] (AQ s' ns) v).h=if j=20 then some (Hf s' ns) else (lk j s.h).map (Blk.on (Fs [20] [] [.ptr 20 0] [.ptr 20 0])):=by
 simp only[St.backH,St.put,St.on,AQ];by_cases e:j=20
 ·rw[if_pos e,e]
  rfl
 ·rw[if_neg e,List.singleton_append,BD e,FZ,if_neg (by simp;exact e),BN]
theorem r3{ats:Array TypeId}(kp:PC 177 [] ns S S' (.u (.c (.d (.int .i64 pt)))))(hI:RInv k ns S S' pt l L s)(m2:2∈L)(n3:3∉L):Ca Tryz.prog tb ops ⟨some 66,.call { callee:= .value (.func 177),args:= #[.tmp 65],argTypes:=ats },ty,pos,af,none⟩ s (RInv k ns S S' pt l (3::L)):=by
 obtain⟨t,h⟩:=s
 obtain⟨q7,q4,q8,b4,b20,h0,h1,h2,h3,h4,h5,h9⟩:=hI
 have h2':=h2 m2;rw[if_neg n3]at b20;have hb:Blk.on (Fs [20] [] [.ptr 20 0] [.ptr 20 0]) (.box [.d (.int .i64 k),Dg l,.d (.bool false),.nl,.nl])= .box [.d (.int .i64 k),Dg l,.d (.bool false),.nl,.nl]:=congrArg (fun c=>Blk.box [.d (.int .i64 k),c,.d (.bool false),.nl,.nl]) (Xw l)
 have hon:=Xw l;simp only at*;simp -implicitDefEqProofs[jJ,-qA,-qB,h2',-jeF];refine .inr (Dc kp rfl (fun x r e=>by cases e) b20 ?_)
 refine⟨?_,?_,?_,?_,?_,?_,?_,?_,?_,?_,?_,?_⟩<;>simp only[TE,T4]
 ·rw[if_neg (by decide),q7];rfl
 ·rw[if_neg (by decide),q4];rfl
 ·rw[if_neg (by decide),q8];rfl
 ·rw[if_neg (by decide),b4,Option.map_some,hb]
 ·simp
 ·simp only[jzn,E8,Nat.reduceEqDiff,false_or];intro m;rw[h0 m];rfl
 ·simp only[jzn,E8,Nat.reduceEqDiff,false_or];intro m;rw[if_neg (by decide),h1 m]
  exact congrArg (fun c=>some (vC c)) hon
 ·simp only[jzn,E8,Nat.reduceEqDiff,false_or];intro m;rw[h2 m];rfl
 ·intro _;rfl
 ·simp only[jzn,E8,Nat.reduceEqDiff,false_or];intro m;rw[(h4 m).1,(h4 m).2];exact⟨rfl,rfl⟩
 ·simp only[jzn,E8,Nat.reduceEqDiff,false_or];intro m;rw[(h5 m).1,(h5 m).2];exact⟨rfl,rfl⟩
 ·simp only[jzn,E8,Nat.reduceEqDiff,false_or];intro m1 m2;rw[if_neg (by decide),h9 m1 m2]
  rfl
theorem ja0{ats:Array TypeId}{ty0 ty1 ty2 ty3 ty4 ty5:TypeId}{pos0 pos1 pos2 pos3 pos4 pos5:String}{af0 af1 af2 af3 af4 af5:Array Edge}{K:St→Prop}(hl:l.length≤100)(kp:PC 177 [] ns S S' (.u (.c (.d (.int .i64 pt)))))
  (t7:lk 7 s.t=some (vC (.ptr 20 0))) (t4:lk 4 s.t=some (vC (.ptr 4 0))) (t8:lk 8 s.t=some (vI .i64 l.length)) (b4:lk 4 s.h=some (.box [.d (.int .i64 k),Dg l,.d (.bool false),.nl,.nl])) (b20:lk 20 s.h=some (Hf S ns)) (h9:l≠[]→lk 901 s.h=some (.row 1 (l.map i64) true))
  (hK: ∀s:St,St.le ⟨[(68,vC (.sl 68 0 (l.length+1))),(8,vI .i64 l.length),(7,vC (.ptr 20 0)),(4,vC (.ptr 4 0))],[(68,.row 1 (l.map i64++[.int .i64 pt]) true),(20,Hf S' ns),(4,.box [.d (.int .i64 k),Dg l,.d (.bool false),.nl,.nl])]⟩ s→K s):E3 Tryz.prog tb ops [⟨some 63,.fieldAddr 43 (.tmp 4) 1,ty0,pos0,af0,none⟩,⟨some 64,.load 35 (.tmp 63),ty1,pos1,af1,none⟩,⟨some 65,.move (.tmp 7),ty2,pos2,af2,none⟩,⟨some 66,.call { callee:= .value (.func 177),args:= #[.tmp 65],argTypes:=ats },ty3,pos3,af3,none⟩,⟨some 67,.buildSlice 35 1 #[(0,.tmp 66)],ty4,pos4,af4,none⟩,⟨some 68,.call { callee:= .builtin .append,args:= #[.tmp 64,.tmp 67],argTypes:= #[35,35] },ty5,pos5,af5,none⟩] [[],[0],[],[2],[3],[1,4]] 6 [] s K:=by
 refine jbh (RInv k ns S S' pt l) ?_ ?_ 6 [] _ rfl List.nodup_nil (by simp) ⟨t7,t4,t8,b4,b20,fun m=>(by cases m),fun m=>(by cases m),fun m=>(by cases m),fun m=>(by cases m),fun m=>(by cases m),fun m=>(by cases m),fun _ m=>h9 m⟩
 ·intro L s i o hI ho hc hr;rcases i with _|_|_|_|_|_|i
  ·cases ho;exact r0 hI
  ·cases ho;exact r1 hI (by simpa using hr)
  ·cases ho;exact r2 hI
  ·cases ho;exact r3 kp hI (by simpa using hr) (by simpa using hc)
  ·cases ho;exact r4 hI (by simpa using hr)
  ·cases ho;have hr:1∈L∧4∈L:=by simpa using hr
   exact r5 hl hI hr.1 hr.2 (by simpa using hc)
  ·cases ho
 ·intro L s hI hall;have m5:=hI.h5 (hall 5 (show 5<6 by decide))
  have m3:=hI.b20;rw[if_pos (hall 3 (show 3<6 by decide))]at m3
  exact hK s ⟨⟨m5.1,hI.t8,hI.t7,hI.t4,trivial⟩,⟨m5.2,m3,hI.b4,trivial⟩⟩
end
structure Tl (k:Int) (l:List Int) (S:Ps) (cs:List C) (ns:List ByteArray) (s:St):Prop where
 t7:lk 7 s.t=some (vC (.ptr 20 0))
 t4:lk 4 s.t=some (vC (.ptr 4 0))
 b4:lk 4 s.h=some (.box (.d (.int .i64 k)::Dg l::cs))
 b20:lk 20 s.h=some (Hf S ns)
 h9:l≠[]→lk 901 s.h=some (.row 1 (l.map i64) true)
section
variable {k:Int} {l:List Int} {S S':Ps} {cs:List C} {ns:List ByteArray} {t:List (Nat×V)} {h:List (Nat×Blk)} {st:St}
theorem Ta{f:FuncId}{us us':List U}{v:V}{d:Nat}{K:St→Prop}(h:PC f us' ns S S' v)(T:Tl k l S cs ns st)(hu:us.map (U.on (B1 [20]))= .c (.ptr 20 0)::us')(hv: ∀x r,v≠ .tr x r)
  (hc:cs.map (C.on (Fs [20] [] [.ptr 20 0] [.ptr 20 0]))=cs) (h4:(4=d)=False) (h7:(7=d)=False) (hk: ∀s2,Tl k l S' cs ns s2→lk d s2.t=some v→K s2):Kl Tryz.prog (some d) st K f [] us:=by
 obtain⟨t7,t4,b4,b20,h9⟩:=T
 refine Dc h hu hv b20 (hk _ ⟨?_,?_,?_,?_,?_⟩ ?_)
 ·rw[TE,if_neg (of_eq_false h7),t7];rfl
 ·rw[TE,if_neg (of_eq_false h4),t4];rfl
 ·rw[T4,if_neg (by decide),b4]
  exact congrArg some (congrArg Blk.box (by simp only[List.map_cons,Xw,hc];rfl))
 ·rw[T4,if_pos rfl]
 ·intro m;rw[T4,if_neg (by decide),h9 m];rfl
 ·rw[TE,if_pos rfl]
end
theorem X3{P:Program}{T:AH}{c r:Code}{st:St}{Q:Bk}(p:St→Prop)(h: ∀Q':Bk,(∀t h,p ⟨t,h⟩→Q' .normal ⟨t,h⟩)→Bl P T c st Q')(hr: ∀t h,p ⟨t,h⟩→Bl P T r ⟨t,h⟩ Q):Bl P T (.seq c r) st Q:=h _ fun t h hp=>hr t h hp
theorem UJ{α:Type}(p:Nat→Bool)(k:Nat): ∀l:List (Nat×α),lk k (l.filter fun e=>p e.1)=if p k=true then lk k l else none
 |[]=>by simp[lk]
 |(j,v)::r=>by
  rw[List.filter_cons]
  by_cases hp:p j=true
  ·rw[if_pos hp]
   by_cases e:k=j
   ·subst e;rw[Bt,if_pos hp,Bt]
   ·rw[BD e,UJ p k r,BD e]
  ·rw[if_neg hp,UJ p k r]
   by_cases e:k=j
   ·subst e;rw[if_neg hp,if_neg hp]
   ·rw[BD e]
theorem jc4(rd:List Nat)(k:Nat)(l:List (Nat×V)):lk k (selT rd l)=if rd.contains k=true then lk k l else none:=by
 rw[R1]
 exact UJ _ k l
theorem jbZ{α:Type}(a k:Nat)(l:List (Nat×α)):lk k (l.filter fun e=> !e.fst==a)=if k=a then none else lk k l:=by
 rw[UJ (fun x=> !x==a)]
 by_cases e:k=a<;>simp[e]
end Go.Va
namespace Go.Va
open Go
def blk:List UInt8→Bool
 |[]=>false
 |c::r=>if HX c then true else if Eb c then false else blk r
def Li:List UInt8→Bool
 |[]=>true
 |c::r=>(c !=32||blk r)&&Li r
theorem jcO: ∀{a:List UInt8} (b:List UInt8),blk a=true→blk (a++b)=true
 |c::r,b,h=>by
  rw[List.cons_append,blk]
  rw[blk]at h
  split
  ·rfl
  ·rename_i h1
   rw[if_neg h1]at h
   split
   ·rename_i h2;rw[if_pos h2]at h;cases h
   ·rename_i h2;rw[if_neg h2]at h;exact jcO b h
theorem jdN: ∀{v r:List UInt8},(∀c∈v,Eb c=false∧HX c=false)→blk r=true→(v++[32]).isPrefixOf r=false
 |[],c::r,_,h=>by
  rw[List.nil_append,List.isPrefixOf]
  simp only[Bool.and_eq_false_iff,beq_eq_false_iff_ne,ne_eq];refine .inl fun e=> ?_
  subst e;exact absurd h (by simp[blk,HX,Eb])
 |x::v,c::r,hv,h=>by
  rw[List.cons_append,List.isPrefixOf]
  simp only[Bool.and_eq_false_iff,beq_eq_false_iff_ne,ne_eq];by_cases e:x=c
  ·subst e;obtain⟨h1,h2⟩:=hv x (by simp)
   rw[blk,h1,h2]at h
   exact .inr (jdN (fun y hy=>hv y (by simp[hy])) (by simpa using h))
  ·exact .inl e
theorem jdG{v:List UInt8}(hv: ∀c∈v,Eb c=false∧HX c=false): ∀{a:List UInt8} (b:List UInt8),Li a=true→ ∀j,j<a.length→Lib.occAt (a++b) (32::v++[32]) j=false
 |c::r,b,h,0,_=>by
  rw[Li]at h
  simp only[AR,Bool.or_eq_true,bne_iff_ne,ne_eq]at h;unfold Lib.occAt;rw[List.drop_zero,List.cons_append,List.cons_append,List.isPrefixOf];simp only[Bool.and_eq_false_iff,beq_eq_false_iff_ne,ne_eq];by_cases e:(32:UInt8)=c
  ·rcases h.1 with h1|h1
   ·exact absurd e.symm h1
   ·exact .inr (jdN hv (jcO b h1))
  ·exact .inl e
 |c::r,b,h,j+1,hj=>by
  rw[Li]at h
  simp only[AR]at h;exact jdG hv b h.2 j (by simpa using hj)
theorem WE{a b sep:List UInt8}(h: ∀j,j<a.length→Lib.occAt (a++(sep++b)) sep j=false):Lib.cut (a++(sep++b)) sep=(a,b,true):=by
 have hi:=Lib.index_first (s:=a++(sep++b)) (sub:=sep) (i:=a.length) (by simp) (by unfold Lib.occAt;rw[List.drop_left];exact List.isPrefixOf_iff_prefix.2 (List.prefix_append _ _)) h
 unfold Lib.cut;rw[hi,if_pos (by omega)]
 simp only[Int.toNat_natCast,List.take_left];rw[←List.append_assoc,show a.length+sep.length=(a++sep).length by simp,List.drop_left]
theorem P8{s sep:List UInt8}(h:(Lib.cut s sep).2.2=true):(Lib.cut s sep).1++(sep++(Lib.cut s sep).2.1)=s:=by
 unfold Lib.cut at*;split at h
 ·rename_i h0
  rw[if_pos h0]
  obtain⟨i,hi⟩:=Int.eq_ofNat_of_zero_le h0
  rcases Lib.index_spec s sep with⟨h1,_⟩|⟨i',h1,h2,h3,_⟩
  ·omega
  ·have e:i'=i:=by omega
   subst e;simp only[hi,Int.toNat_natCast];unfold Lib.occAt at h3;obtain⟨t,ht⟩:=List.isPrefixOf_iff_prefix.1 h3;rw[←List.drop_drop,←ht,List.drop_left,ht,List.take_append_drop]
 ·cases h
theorem Vc: ∀{w:List UInt8} (r:List UInt8),(∀c∈w,Eb c=false∧HX c=false)→Li r=true→Li (w++r)=true
 |[],_,_,h=>h
 |c::w,r,hw,h=>by
  have hc:(c !=32)=true:=by
   rw[bne_iff_ne]
   intro e;subst e;exact absurd (hw 32 (by simp)).1 (by decide)
  rw[List.cons_append,Li,hc,Vc r (fun x hx=>hw x (by simp[hx])) h]
  rfl
theorem Yb: ∀{w:List UInt8} (c:UInt8) (r:List UInt8),(∀x∈w,Eb x=false∧HX x=false)→HX c=true→blk (w++c::r)=true
 |[],c,r,_,h=>by simp[blk,h]
 |x::w,c,r,hw,h=>by
  obtain⟨h1,h2⟩:=hw x (by simp)
  rw[List.cons_append,blk,h1,h2]
  simpa using Yb c r (fun y hy=>hw y (by simp[hy])) h
theorem jfx: ∀{l:List (List UInt8)},(∀w∈l,Pl w)→Li (Bc l++[41])=true∧(l≠[]→blk (Bc l++[41])=true)
 |[],_=>⟨by simp[Bc,Lib.join_nil,Li],fun h=>absurd rfl h⟩
 |[w],h=>by
  have hw:=(h w (by simp)).2
  rw[OR]
  exact⟨Vc _ hw (by decide),fun _=>Yb _ _ hw (by decide)⟩
 |x::y::r,h=>by
  have hw:=(h x (by simp)).2
  obtain⟨i1,i2⟩:=jfx (l:=y::r) fun w hw=>h w (by simp[hw])
  rw[Na,List.append_assoc,List.cons_append,List.cons_append]
  refine⟨Vc _ hw ?_,fun _=>Yb _ _ hw (by decide)⟩
  rw[Li,Li,i1,i2 (by simp)]
  rfl
theorem jgx{w:List UInt8}{l:List (List UInt8)}(hw:Pl w)(h: ∀w∈l,Pl w):Li (w++[40]++Bc l++[41])=true:=by
 rw[List.append_assoc,List.append_assoc]
 refine Vc _ hw.2 ?_;rw[List.singleton_append,Li,(jfx h).1];rfl
theorem jk4{w b sep:List UInt8}(hw: ∀c∈w,Eb c=false∧HX c=false): ∀j,j<w.length→Lib.occAt (w++b) (32::sep) j=false:=fun j hj=>by
 cases h:Lib.occAt (w++b) (32::sep) j with
 |false=>rfl
 |true=>
  have:=Lib.occAt_head rfl h
  rw[List.getElem?_append_left hj,AD hj]at this
  have:=hw _ (AZ hj)
  simp_all [Eb]
def Pq(s:List UInt8):List (List UInt8):=Lib.splitK [44,32] 0 (Lib.count s [44,32]) s
theorem Yh: ∀(k:Nat) (s:List UInt8),Bc (Lib.splitK [44,32] 0 k s)=s∧Lib.splitK [44,32] 0 k s≠[]
 |0,s=>⟨OR s,by simp[Lib.splitK]⟩
 |k+1,s=>by
  unfold Lib.splitK;split
  ·exact⟨OR s,by simp⟩
  ·rename_i h
   obtain⟨h1,h2⟩:=Yh k (s.drop ((Lib.index s [44,32]).toNat+([44,32]:List UInt8).length))
   refine⟨?_,by simp⟩
   cases hl:Lib.splitK [44,32] 0 k (s.drop ((Lib.index s [44,32]).toNat+([44,32]:List UInt8).length))with
   |nil=>exact absurd hl h2
   |cons y r=>
    rw[hl]at h1
    rw[Na,h1]
    rcases Lib.index_spec s [44,32]with⟨e,_⟩|⟨i,e,e2,e3,_⟩
    ·rw[e]at h;exact absurd rfl h
    ·rw[e]
     simp only[Int.toNat_natCast,Nat.add_zero];unfold Lib.occAt at e3;obtain⟨t,ht⟩:=List.isPrefixOf_iff_prefix.1 e3;have hd:s.drop (i+([44,32]:List UInt8).length)=t:=by rw[←List.drop_drop,←ht,List.drop_left]
     rw[hd]
     exact(congrArg (s.take i++ ·) ht).trans (List.take_append_drop i s)
theorem XV(s:List UInt8):Bc (Pq s)=s:=(Yh _ s).1
theorem XA: ∀{l:List (List UInt8)},l≠[]→(∀w∈l,∀c∈w,Eb c=false∧HX c=false)→Pq (Bc l)=l
 |[],h,_=>absurd rfl h
 |[w],_,h=>by
  rw[OR]
  have:Lib.index w [44,32]= -1:=Lib.index_none fun j hj=>by
   cases ho:Lib.occAt w [44,32] j with
   |false=>rfl
   |true=>
    have h1:=Lib.occAt_head rfl ho;obtain⟨hj,h2⟩:=jzg.1 h1;have:=(h w (by simp) 44 (h2 ▸ AZ hj)).2
    exact absurd this (by decide)
  unfold Pq;rw[Lib.count_miss this];rfl
 |x::y::r,_,h=>by
  have ih:=XA (l:=y::r) (by simp) fun w hw=>h w (by simp[hw])
  have hi:Lib.index (Bc (x::y::r)) [44,32]=x.length:=by
   rw[Na]
   refine Lib.index_first (by simp) (by unfold Lib.occAt;rw[List.drop_left];simp) fun j hj=> ?_
   cases ho:Lib.occAt (x++44::32::Bc (y::r)) [44,32] j with
   |false=>rfl
   |true=>
    have h1:=Lib.occAt_head rfl ho;rw[List.getElem?_append_left hj,AD hj]at h1;have:=(h x (by simp) _ (AZ hj)).2
    rw[Bi h1]at this
    exact absurd this (by decide)
  have hd:(Bc (x::y::r)).drop (x.length+([44,32]:List UInt8).length)=Bc (y::r):=by
   rw[Na,show x++44::32::Bc (y::r)=(x++[44,32])++Bc (y::r) by simp,show x.length+([44,32]:List UInt8).length=(x++[44,32]).length by simp,List.drop_left]
  unfold Pq at*;rw[Lib.count_hit (by simp) hi,hd,Nat.add_comm,Lib.splitK,hi,if_neg (by simp),Int.toNat_natCast,hd,ih,Na]
  rw[Nat.add_zero,List.take_left]
def Pn(m:Nat)(x:List UInt8):Option Nat:=(List.range m).find? fun n=>Lib.decDigits n==x
theorem jek{u v:Nat}(h:Lib.decDigits u=Lib.decDigits v):u=v:=by rw[←(Tk u).2.1,h,(Tk v).2.1]
theorem numR_some{m n:Nat}{x:List UInt8}:Pn m x=some n↔n<m∧x=Lib.decDigits n:=by
 unfold Pn
 constructor
 ·intro h;have h1:=List.find?_some h;have h2:=List.mem_of_find?_eq_some h;exact⟨List.mem_range.1 h2,(by simpa using h1:_=x).symm⟩
 ·rintro⟨h,rfl⟩
  cases hf:(List.range m).find? fun k=>Lib.decDigits k==Lib.decDigits n with
  |none=>
   have:=List.find?_eq_none.1 hf n (List.mem_range.2 h)
   simp at this
  |some k=>
   have:=List.find?_some hf
   rw[show k=n from jek (by simpa using this)]
def Pw(m:Nat)(s:List UInt8):Option (List Int):=(Pq s).mapM fun x=>(Pn m x).map fun(n:Nat)=>(n:Int)
def OD(n:Int):List UInt8:=if n<0 then 45::Lib.decDigits n.natAbs else Lib.decDigits n.toNat
theorem mapM_num{m:Nat}: ∀{l:List (List UInt8)} {ns:List Int},l.mapM (fun x=>(Pn m x).map fun(n:Nat)=>(n:Int))=some ns↔l=ns.map OD∧ ∀n∈ns,0≤n∧n<m
 |[],ns=>by
  simp only[List.mapM_nil,Option.pure_def,Option.some.injEq]
  constructor
  ·rintro rfl;simp
  ·rintro⟨h,_⟩;cases ns with
   |nil=>rfl
   |cons=>cases h
 |x::l,ns=>by
  rw[List.mapM_cons]
  cases hx:Pn m x with
  |none=>
   simp only[Option.map_none,Option.bind_eq_bind,Option.bind_none,reduceCtorEq,false_iff];rintro⟨h,hn⟩;cases ns with
   |nil=>cases h
   |cons n ns=>
    obtain⟨h0,h1⟩:=hn n (by simp)
    simp only[List.map_cons,List.cons.injEq]at h;have:Pn m x=some n.toNat:=numR_some.2 ⟨by omega,by rw[h.1];unfold OD;rw[if_neg (by omega)]⟩
    rw[hx]at this;cases this
  |some k=>
   obtain⟨hk,he⟩:=numR_some.1 hx
   simp only[Option.map_some,Option.bind_eq_bind,Option.bind_some,Option.pure_def];cases hl:l.mapM (fun x=>(Pn m x).map fun(n:Nat)=>(n:Int))with
   |none=>
    simp only[Option.bind_none,reduceCtorEq,false_iff];rintro⟨h,hn⟩;cases ns with
    |nil=>cases h
    |cons n ns=>
     simp only[List.map_cons,List.cons.injEq]at h;have:=(mapM_num (l:=l) (ns:=ns)).2 ⟨h.2,fun a ha=>hn a (by simp[ha])⟩
     rw[hl]at this;cases this
   |some r=>
    obtain⟨h1,h2⟩:=mapM_num.1 hl
    simp only[Option.bind_some,Option.some.injEq]
    constructor
    ·rintro rfl
     refine⟨by rw[List.map_cons,←h1,he];unfold OD;rw[if_neg (by omega)];rfl,fun n hn=> ?_⟩
     rcases jzn.1 hn with rfl|hn
     ·omega
     ·exact h2 n hn
    ·rintro⟨h,hn⟩
     cases ns with
     |nil=>cases h
     |cons n ns=>
      simp only[List.map_cons,List.cons.injEq]at h;have hn0:=hn n (by simp)
      have e1:(k:Int)=n:=by
       have:=h.1
       rw[he]at this
       unfold OD at this;rw[if_neg (by omega)]at this
       have:=jek this
       omega
      have:=(mapM_num (l:=l) (ns:=ns)).2 ⟨h.2,fun a ha=>hn a (by simp[ha])⟩
      rw[hl]at this
      rw[e1,Bi this]
theorem jmZ{n:Int}(h:0≤n): ∀c∈OD n,Eb c=false∧HX c=false:=fun c hc=>by
 unfold OD at hc;rw[if_neg (by omega)]at hc
 exact(RA (neg:=false) (by simpa using hc)).2
theorem fromR_iff{m:Nat}{s:List UInt8}{ns:List Int}:Pw m s=some ns↔ns≠[]∧s=Bc (ns.map OD)∧ ∀n∈ns,0≤n∧n<m:=by
 unfold Pw;rw[mapM_num]
 constructor
 ·rintro⟨h1,h2⟩
  have hj:=XV s;refine⟨fun e=> ?_,by rw[←h1,hj],h2⟩
  subst e;exact(Yh _ s).2 h1
 ·rintro⟨h0,rfl,h2⟩
  refine⟨XA (by simpa using h0) fun w hw=> ?_,h2⟩
  obtain⟨n,hn,rfl⟩:=jzk.1 hw
  exact jmZ (h2 n hn).1
def Md(n:Int):Int:=if n=0 then 0 else if (rulT n).name=[] then -1 else (rulT n).count
def ruleR(w:List UInt8):Int:=match (List.range 28).find? fun(n:Nat)=>Bp ((n+1:Nat):Int)==w with
 |some n=>(n+1:Nat)
 |none=>0
theorem X0: ∀n<28,Pl (Bp (n+1:Nat)):=by
 unfold Pl
 decide+kernel
theorem Vx: ∀n<28,ruleR (Bp (n+1:Nat))=(n+1:Nat):=by decide+kernel
theorem jk2{w:List UInt8}(h:ruleR w≠0):Bp (ruleR w)=w∧1≤ruleR w∧ruleR w≤28:=by
 unfold ruleR at*;cases hf:(List.range 28).find? fun(n:Nat)=>Bp ((n+1:Nat):Int)==w with
 |none=>rw[hf]at h;exact absurd rfl h
 |some n=>
  have h1:=List.find?_some hf;have h2:=List.mem_range.1 (List.mem_of_find?_eq_some hf);simp only;exact⟨by simpa using h1,by omega,by omega⟩
end Go.Va
