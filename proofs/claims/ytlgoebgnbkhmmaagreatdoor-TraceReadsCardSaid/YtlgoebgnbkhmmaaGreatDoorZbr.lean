/- a part of the proof -/
import Derived.Test.YtlgoebgnbkhmmaaGreatDoorZbk
import Derived.Test.YtlgoebgnbkhmmaaGreatDoorZak
import Derived.Test.YtlgoebgnbkhmmaaGreatDoorZbm
import Derived.Test.YtlgoebgnbkhmmaaGreatDoorZbn
import Derived.Test.YtlgoebgnbkhmmaaGreatDoorZbb
set_option linter.all false
set_option maxHeartbeats 4000000
set_option maxRecDepth 10000
namespace Go.Va
open Int renaming natCast_add → qA, natCast_mul → qB, natCast_emod → qC, natCast_ediv → qD, natCast_pow → qE
open List renaming reduceReplicate → qF
open Go.Proofs
def D3(l:List Int):C:=if l=[] then .nl else .sl 901 0 l.length
def KD(l:List Int):List (Nat×Blk):=if l=[] then [] else [(901,.row 1 (l.map i64) true)]
theorem jbG: ∀(k:Nat) (L:List Nat),L.Nodup→(∀x∈L,x<k)→L.length≤k
 |0,[],_,_=>AO _
 |0,x::_,_,h=>absurd (h x (by simp)) (Nat.not_lt_zero _)
 |k+1,L,hn,h=>by
  have h1:=jbG k (L.erase k) (hn.erase k) fun x hx=>by
   have:=h x (List.mem_of_mem_erase hx)
   have hne:x≠k:=fun e=>by
    subst e;exact(List.Nodup.not_mem_erase hn) hx
   omega
  have h2:L.length≤(L.erase k).length+1:=by
   rw[List.length_erase]
   split<;>omega
  omega
theorem jbh{P:Program}{T:AH}{ops seg:List Oper}{pl:List (List Nat)}(Inv:List Nat→St→Prop){K:St→Prop}(hs: ∀L s i o,Inv L s→seg[i]? =some o→L.contains i=false→(pl.getD i []).all (L.contains ·)=true→Ca P T ops o s (Inv (i::L)))
  (hk: ∀L s,Inv L s→(∀i<seg.length,i∈L)→K s): ∀(n:Nat) (L:List Nat) (st:St),n+L.length=seg.length→L.Nodup→(∀x∈L,x<seg.length)→Inv L st→E3 P T ops seg pl n L st K
 |0,L,st,hl,hn,hx,hi=>hk L st hi fun i hi=>by
  refine Classical.byContradiction fun hm=> ?_
  have:=jbG seg.length (i::L) (List.nodup_cons.2 ⟨hm,hn⟩) (fun x hx'=>by
   rcases jzn.1 hx' with rfl|h
   ·exact hi
   ·exact hx x h)
  rw[List.length_cons]at this
  omega
 |n+1,L,st,hl,hn,hx,hi=>fun i o h1 h2 h3=>jkw (fun s hs'=>jbh Inv hs hk n (i::L) s (by rw[List.length_cons];omega) (List.nodup_cons.2 ⟨by simpa using h2,hn⟩) (fun x hx'=>by
   rcases jzn.1 hx' with rfl|h
   ·exact(jzg.1 h1).1
   ·exact hx x h) hs') (hs L st i o hi h1 h2 h3)
structure RInv (k:Int) (ns:List ByteArray) (S S':Ps) (pt:Int) (l:List Int) (L:List Nat) (s:St):Prop where
 t7:lk 7 s.t=some (vC (.ptr 20 0))
 t4:lk 4 s.t=some (vC (.ptr 4 0))
 t8:lk 8 s.t=some (vI .i64 l.length)
 b4:lk 4 s.h=some (.box [.d (.int .i64 k),D3 l,.d (.bool false),.nl,.nl])
 b20:lk 20 s.h=some (Hf (if 3∈L then S' else S) ns)
 h0:0∈L→lk 63 s.t=some (vC (.ptr 4 1))
 h1:1∈L→lk 64 s.t=some (vC (D3 l))
 h2:2∈L→lk 65 s.t=some (vC (.ptr 20 0))
 h3:3∈L→lk 66 s.t=some (vI .i64 pt)
 h4:4∈L→lk 67 s.t=some (vC (.sl 67 0 1))∧lk 67 s.h=some (.row 1 [.int .i64 pt] true)
 h5:5∈L→lk 68 s.t=some (vC (.sl 68 0 (l.length+1)))∧lk 68 s.h=some (.row 1 (l.map i64++[.int .i64 pt]) true)
 h9:5∉L→l≠[]→lk 901 s.h=some (.row 1 (l.map i64) true)
theorem VF(j d:Nat)(b:Blk)(s:St):lk j (s.new d b).t=(lk j s.t).map (V.on (Bm d)):=BN _ _ _
theorem VO(j d:Nat)(b:Blk)(s:St):lk j (s.new d b).h=if j=d then some (b.on (Bm d)) else (lk j s.h).map (Blk.on (Bm d)):=by
 simp only[St.new,St.blk,St.purge,St.on];by_cases e:j=d
 ·rw[if_pos e,e,Bt]
 ·rw[if_neg e,BD e,BR e,BR e,BN]
theorem jeB(d:Nat)(hd:d≠901)(l:List Int):(D3 l).on (Bm d)=D3 l:=by
 unfold D3;split
 ·rfl
 ·simp only[C.on,Bm];rw[if_neg (Ne.symm hd)]
theorem TG:D3 []= .nl:=rfl
theorem Qa{l:List Int}(h:l≠[]):D3 l= .sl 901 0 l.length:=by unfold D3;rw[if_neg h]
section
variable {k:Int} {ns:List ByteArray} {S S':Ps} {pt:Int} {l:List Int} {L:List Nat} {s:St} {ops:List Oper} {ty:TypeId} {pos:String} {af:Array Edge}
theorem r0(hI:RInv k ns S S' pt l L s):Ca Tryz.prog tb ops ⟨some 63,.fieldAddr 50 (.tmp 4) 1,ty,pos,af,none⟩ s (RInv k ns S S' pt l (0::L)):=by
 obtain⟨t,h⟩:=s
 obtain⟨q7,q4,q8,b4,b20,h0,h1,h2,h3,h4,h5,h9⟩:=hI
 simp -implicitDefEqProofs[jJ,-qA,-qB,q4];refine⟨?_,?_,?_,?_,?_,?_,?_,?_,?_,?_,?_,?_⟩<;>simp_all [lk,HK]
theorem r2(hI:RInv k ns S S' pt l L s):Ca Tryz.prog tb ops ⟨some 65,.move (.tmp 7),ty,pos,af,none⟩ s (RInv k ns S S' pt l (2::L)):=by
 obtain⟨t,h⟩:=s
 obtain⟨q7,q4,q8,b4,b20,h0,h1,h2,h3,h4,h5,h9⟩:=hI
 simp -implicitDefEqProofs[jJ,-qA,-qB,q7];refine⟨?_,?_,?_,?_,?_,?_,?_,?_,?_,?_,?_,?_⟩<;>simp_all [lk,HK]
theorem r1(hI:RInv k ns S S' pt l L s)(m0:0∈L):Ca Tryz.prog tb ops ⟨some 64,.load 42 (.tmp 63),ty,pos,af,none⟩ s (RInv k ns S S' pt l (1::L)):=by
 obtain⟨t,h⟩:=s
 obtain⟨q7,q4,q8,b4,b20,h0,h1,h2,h3,h4,h5,h9⟩:=hI
 have h0:=h0 m0;simp only at*;simp -implicitDefEqProofs[jJ,-qA,-qB,h0,b4];refine⟨?_,?_,?_,?_,?_,?_,?_,?_,?_,?_,?_,?_⟩<;>simp_all [lk,HK]
theorem r4(hI:RInv k ns S S' pt l L s)(m3:3∈L):Ca Tryz.prog tb ops ⟨some 67,.buildSlice 42 1 #[(0,.tmp 66)],ty,pos,af,none⟩ s (RInv k ns S S' pt l (4::L)):=by
 obtain⟨t,h⟩:=s
 obtain⟨q7,q4,q8,b4,b20,h0,h1,h2,h3,h4,h5,h9⟩:=hI
 have h3':=h3 m3;have hon:=jeB 67 (by decide) l
 have hb:Blk.on (Bm 67) (.box [.d (.int .i64 k),D3 l,.d (.bool false),.nl,.nl])= .box [.d (.int .i64 k),D3 l,.d (.bool false),.nl,.nl]:=congrArg (fun c=>Blk.box [.d (.int .i64 k),c,.d (.bool false),.nl,.nl]) hon
 have hp:(Hf (if 3∈L then S' else S) ns).on (Bm 67)=Hf (if 3∈L then S' else S) ns:=rfl
 simp only at*;simp -implicitDefEqProofs[jJ,-qA,-qB,h3',-St.new];refine⟨?_,?_,?_,?_,?_,?_,?_,?_,?_,?_,?_,?_⟩<;>simp only[jka,HK,VF,VO]
 ·simp[q7,vC,V.on,U.on,C.on,Bm]
 ·simp[q4,vC,V.on,U.on,C.on,Bm]
 ·simp[q8,vI,V.on,U.on,C.on]
 ·rw[if_neg (by decide),b4,Option.map_some,hb]
 ·rw[if_neg (by decide),b20,Option.map_some,hp];simp
 ·simp only[jzn,E8,Nat.reduceEqDiff,false_or];intro m;simp[h0 m,vC,V.on,U.on,C.on,Bm]
 ·simp only[jzn,E8,Nat.reduceEqDiff,false_or];intro m;simp[h1 m,vC,V.on,U.on,hon]
 ·simp only[jzn,E8,Nat.reduceEqDiff,false_or];intro m;simp[h2 m,vC,V.on,U.on,C.on,Bm]
 ·simp only[jzn,E8,Nat.reduceEqDiff,false_or];intro m;simp[h3 m,vI,V.on,U.on,C.on]
 ·intro _;simp[vC,Blk.on]
 ·simp only[jzn,E8,Nat.reduceEqDiff,false_or];intro m;simp[(h5 m).1,(h5 m).2,vC,V.on,U.on,C.on,Bm,Blk.on]
 ·simp only[jzn,E8,Nat.reduceEqDiff,false_or];intro m1 m2;simp[h9 m1 m2,Blk.on]
theorem r5(hl:l.length≤100)(hI:RInv k ns S S' pt l L s)(m1:1∈L)(m4:4∈L)(n5:5∉L):Ca Tryz.prog tb ops ⟨some 68,.call { callee:= .builtin .append,args:= #[.tmp 64,.tmp 67],argTypes:= #[42,42] },ty,pos,af,none⟩ s (RInv k ns S S' pt l (5::L)):=by
 obtain⟨t,h⟩:=s
 obtain⟨q7,q4,q8,b4,b20,h0,h1,h2,h3,h4,h5,h9⟩:=hI
 have h1':=h1 m1;obtain⟨h4a,h4b⟩:=h4 m4;have h9':=h9 n5;have hon:=jeB 68 (by decide) l
 have hb:Blk.on (Bm 68) (.box [.d (.int .i64 k),D3 l,.d (.bool false),.nl,.nl])= .box [.d (.int .i64 k),D3 l,.d (.bool false),.nl,.nl]:=congrArg (fun c=>Blk.box [.d (.int .i64 k),c,.d (.bool false),.nl,.nl]) hon
 have hp:(Hf (if 3∈L then S' else S) ns).on (Bm 68)=Hf (if 3∈L then S' else S) ns:=rfl
 have fin: ∀s1:St,s1.t=t→(∀j,j≠901→lk j s1.h=lk j h)→RInv k ns S S' pt l (5::L) ((s1.new 68 (.row 1 (l.map i64++[.int .i64 pt]) true)).put (some 68) (vC (.sl 68 0 (l.length+1)))):=fun s1 e1 e2=>by
  refine⟨?_,?_,?_,?_,?_,?_,?_,?_,?_,?_,?_,?_⟩<;>simp only[St.put,jka,HK,VF,VO,e1]
  ·simp[q7,vC,V.on,U.on,C.on,Bm]
  ·simp[q4,vC,V.on,U.on,C.on,Bm]
  ·simp[q8,vI,V.on,U.on,C.on]
  ·rw[if_neg (by decide),e2 4 (by decide),b4,Option.map_some,hb]
  ·rw[if_neg (by decide),e2 20 (by decide),b20,Option.map_some,hp];simp
  ·simp only[jzn,E8,Nat.reduceEqDiff,false_or];intro m;simp[h0 m,vC,V.on,U.on,C.on,Bm]
  ·simp only[jzn,E8,Nat.reduceEqDiff,false_or];intro m;simp[h1 m,vC,V.on,U.on,hon]
  ·simp only[jzn,E8,Nat.reduceEqDiff,false_or];intro m;simp[h2 m,vC,V.on,U.on,C.on,Bm]
  ·simp only[jzn,E8,Nat.reduceEqDiff,false_or];intro m;simp[h3 m,vI,V.on,U.on,C.on]
  ·intro _;simp[h4a,h4b,e2 67 (by decide),vC,V.on,U.on,C.on,Bm,Blk.on]
  ·intro _;simp[vC,Blk.on]
  ·intro m;exact absurd (List.mem_cons_self) m
 simp only at*;by_cases hn:l=[]
 ·subst hn;rw[TG]at h1';simp -implicitDefEqProofs[jJ,-qA,-qB,h1',h4a,h4b,-St.new,-St.put];exact fin ⟨t,h⟩ rfl (fun _ _=>rfl)
 ·rw[Qa hn]at h1'
  have h9':=h9' hn;simp -implicitDefEqProofs[jJ,-qA,-qB,h1',h4a,h4b,h9',-St.new,-St.put];exact⟨⟨by omega,by omega⟩,fin ⟨t,rm 901 h⟩ rfl (fun j hj=>BR hj h)⟩
theorem Xw(l:List Int):(D3 l).on (Fs [20] [] [.ptr 20 0] [.ptr 20 0])=D3 l:=by
 unfold D3;split<;>rfl
theorem TE(j:Nat){d:Nat}(v:V)(s':Ps)(s:St):lk j (s.backH (some d) [20] [] [.ptr 20 0] [.ptr 20 0] (AQ s' ns) v).t=if j=d then some v else (lk j s.t).map (V.on (Fs [20] [] [.ptr 20 0] [.ptr 20 0])):=by
 simp only[St.backH,St.put,St.on];by_cases e:j=d
 ·rw[if_pos e,e,Bt]
 ·rw[if_neg e,BD e,BR e,BN]
theorem T4(j:Nat){d:Nat}(v:V)(s':Ps)(s:St):lk j (s.backH (some d) [20] [] [.ptr 20 0] [.ptr 20 0] (AQ s' ns) v).h=if j=20 then some (Hf s' ns) else (lk j s.h).map (Blk.on (Fs [20] [] [.ptr 20 0] [.ptr 20 0])):=by
 simp only[St.backH,St.put,St.on,AQ];by_cases e:j=20
 ·rw[if_pos e,e]
  rfl
 ·rw[if_neg e,List.singleton_append,BD e,FZ,if_neg (by simp;exact e),BN]
theorem r3{ats:Array TypeId}(kp:PC 176 [] ns S S' (.u (.c (.d (.int .i64 pt)))))(hI:RInv k ns S S' pt l L s)(m2:2∈L)(n3:3∉L):Ca Tryz.prog tb ops ⟨some 66,.call { callee:= .value (.func 176),args:= #[.tmp 65],argTypes:=ats },ty,pos,af,none⟩ s (RInv k ns S S' pt l (3::L)):=by
 obtain⟨t,h⟩:=s
 obtain⟨q7,q4,q8,b4,b20,h0,h1,h2,h3,h4,h5,h9⟩:=hI
 have h2':=h2 m2;rw[if_neg n3]at b20;have hb:Blk.on (Fs [20] [] [.ptr 20 0] [.ptr 20 0]) (.box [.d (.int .i64 k),D3 l,.d (.bool false),.nl,.nl])= .box [.d (.int .i64 k),D3 l,.d (.bool false),.nl,.nl]:=congrArg (fun c=>Blk.box [.d (.int .i64 k),c,.d (.bool false),.nl,.nl]) (Xw l)
 have hon:=Xw l;simp only at*;simp -implicitDefEqProofs[jJ,-qA,-qB,h2',-jeF];refine .inr (Dc kp rfl (fun x r e=>by cases e) b20 ?_)
 refine⟨?_,?_,?_,?_,?_,?_,?_,?_,?_,?_,?_,?_⟩<;>simp only[TE,T4]
 ·rw[if_neg (by decide),q7];rfl
 ·rw[if_neg (by decide),q4];rfl
 ·rw[if_neg (by decide),q8];rfl
 ·rw[if_neg (by decide),b4,Option.map_some,hb]
 ·simp
 ·simp only[jzn,E8,Nat.reduceEqDiff,false_or];intro m;rw[h0 m];rfl
 ·simp only[jzn,E8,Nat.reduceEqDiff,false_or];intro m;rw[if_neg (by decide),h1 m]
  exact congrArg (fun c=>some (vC c)) hon
 ·simp only[jzn,E8,Nat.reduceEqDiff,false_or];intro m;rw[h2 m];rfl
 ·intro _;rfl
 ·simp only[jzn,E8,Nat.reduceEqDiff,false_or];intro m;rw[(h4 m).1,(h4 m).2];exact⟨rfl,rfl⟩
 ·simp only[jzn,E8,Nat.reduceEqDiff,false_or];intro m;rw[(h5 m).1,(h5 m).2];exact⟨rfl,rfl⟩
 ·simp only[jzn,E8,Nat.reduceEqDiff,false_or];intro m1 m2;rw[if_neg (by decide),h9 m1 m2]
  rfl
theorem ja0{ats:Array TypeId}{ty0 ty1 ty2 ty3 ty4 ty5:TypeId}{pos0 pos1 pos2 pos3 pos4 pos5:String}{af0 af1 af2 af3 af4 af5:Array Edge}{K:St→Prop}(hl:l.length≤100)(kp:PC 176 [] ns S S' (.u (.c (.d (.int .i64 pt)))))
  (t7:lk 7 s.t=some (vC (.ptr 20 0))) (t4:lk 4 s.t=some (vC (.ptr 4 0))) (t8:lk 8 s.t=some (vI .i64 l.length)) (b4:lk 4 s.h=some (.box [.d (.int .i64 k),D3 l,.d (.bool false),.nl,.nl])) (b20:lk 20 s.h=some (Hf S ns)) (h9:l≠[]→lk 901 s.h=some (.row 1 (l.map i64) true))
  (hK: ∀s:St,St.le ⟨[(68,vC (.sl 68 0 (l.length+1))),(8,vI .i64 l.length),(7,vC (.ptr 20 0)),(4,vC (.ptr 4 0))],[(68,.row 1 (l.map i64++[.int .i64 pt]) true),(20,Hf S' ns),(4,.box [.d (.int .i64 k),D3 l,.d (.bool false),.nl,.nl])]⟩ s→K s):E3 Tryz.prog tb ops [⟨some 63,.fieldAddr 50 (.tmp 4) 1,ty0,pos0,af0,none⟩,⟨some 64,.load 42 (.tmp 63),ty1,pos1,af1,none⟩,⟨some 65,.move (.tmp 7),ty2,pos2,af2,none⟩,⟨some 66,.call { callee:= .value (.func 176),args:= #[.tmp 65],argTypes:=ats },ty3,pos3,af3,none⟩,⟨some 67,.buildSlice 42 1 #[(0,.tmp 66)],ty4,pos4,af4,none⟩,⟨some 68,.call { callee:= .builtin .append,args:= #[.tmp 64,.tmp 67],argTypes:= #[42,42] },ty5,pos5,af5,none⟩] [[],[0],[],[2],[3],[1,4]] 6 [] s K:=by
 refine jbh (RInv k ns S S' pt l) ?_ ?_ 6 [] _ rfl List.nodup_nil (by simp) ⟨t7,t4,t8,b4,b20,fun m=>(by cases m),fun m=>(by cases m),fun m=>(by cases m),fun m=>(by cases m),fun m=>(by cases m),fun m=>(by cases m),fun _ m=>h9 m⟩
 ·intro L s i o hI ho hc hr;rcases i with _|_|_|_|_|_|i
  ·cases ho;exact r0 hI
  ·cases ho;exact r1 hI (by simpa using hr)
  ·cases ho;exact r2 hI
  ·cases ho;exact r3 kp hI (by simpa using hr) (by simpa using hc)
  ·cases ho;exact r4 hI (by simpa using hr)
  ·cases ho;have hr:1∈L∧4∈L:=by simpa using hr
   exact r5 hl hI hr.1 hr.2 (by simpa using hc)
  ·cases ho
 ·intro L s hI hall;have m5:=hI.h5 (hall 5 (show 5<6 by decide))
  have m3:=hI.b20;rw[if_pos (hall 3 (show 3<6 by decide))]at m3
  exact hK s ⟨⟨m5.1,hI.t8,hI.t7,hI.t4,trivial⟩,⟨m5.2,m3,hI.b4,trivial⟩⟩
end
structure Tl (k:Int) (l:List Int) (S:Ps) (cs:List C) (ns:List ByteArray) (s:St):Prop where
 t7:lk 7 s.t=some (vC (.ptr 20 0))
 t4:lk 4 s.t=some (vC (.ptr 4 0))
 b4:lk 4 s.h=some (.box (.d (.int .i64 k)::D3 l::cs))
 b20:lk 20 s.h=some (Hf S ns)
 h9:l≠[]→lk 901 s.h=some (.row 1 (l.map i64) true)
section
variable {k:Int} {l:List Int} {S S':Ps} {cs:List C} {ns:List ByteArray} {t:List (Nat×V)} {h:List (Nat×Blk)} {st:St}
theorem Ta{f:FuncId}{us us':List U}{v:V}{d:Nat}{K:St→Prop}(h:PC f us' ns S S' v)(T:Tl k l S cs ns st)(hu:us.map (U.on (B1 [20]))= .c (.ptr 20 0)::us')(hv: ∀x r,v≠ .tr x r)
  (hc:cs.map (C.on (Fs [20] [] [.ptr 20 0] [.ptr 20 0]))=cs) (h4:(4=d)=False) (h7:(7=d)=False) (hk: ∀s2,Tl k l S' cs ns s2→lk d s2.t=some v→K s2):Kl Tryz.prog (some d) st K f [] us:=by
 obtain⟨t7,t4,b4,b20,h9⟩:=T
 refine Dc h hu hv b20 (hk _ ⟨?_,?_,?_,?_,?_⟩ ?_)
 ·rw[TE,if_neg (of_eq_false h7),t7];rfl
 ·rw[TE,if_neg (of_eq_false h4),t4];rfl
 ·rw[T4,if_neg (by decide),b4]
  exact congrArg some (congrArg Blk.box (by simp only[List.map_cons,Xw,hc];rfl))
 ·rw[T4,if_pos rfl]
 ·intro m;rw[T4,if_neg (by decide),h9 m];rfl
 ·rw[TE,if_pos rfl]
end
theorem X3{P:Program}{T:AH}{c r:Code}{st:St}{Q:Bk}(p:St→Prop)(h: ∀Q':Bk,(∀t h,p ⟨t,h⟩→Q' .normal ⟨t,h⟩)→Bl P T c st Q')(hr: ∀t h,p ⟨t,h⟩→Bl P T r ⟨t,h⟩ Q):Bl P T (.seq c r) st Q:=h _ fun t h hp=>hr t h hp
theorem UJ{α:Type}(p:Nat→Bool)(k:Nat): ∀l:List (Nat×α),lk k (l.filter fun e=>p e.1)=if p k=true then lk k l else none
 |[]=>by simp[lk]
 |(j,v)::r=>by
  rw[List.filter_cons]
  by_cases hp:p j=true
  ·rw[if_pos hp]
   by_cases e:k=j
   ·subst e;rw[Bt,if_pos hp,Bt]
   ·rw[BD e,UJ p k r,BD e]
  ·rw[if_neg hp,UJ p k r]
   by_cases e:k=j
   ·subst e;rw[if_neg hp,if_neg hp]
   ·rw[BD e]
theorem jc4(rd:List Nat)(k:Nat)(l:List (Nat×V)):lk k (selT rd l)=if rd.contains k=true then lk k l else none:=by
 rw[R1]
 exact UJ _ k l
theorem jbZ{α:Type}(a k:Nat)(l:List (Nat×α)):lk k (l.filter fun e=> !e.fst==a)=if k=a then none else lk k l:=by
 rw[UJ (fun x=> !x==a)]
 by_cases e:k=a<;>simp[e]
def Lb(es:List (Ky×Int)):List (Nat×Blk):=[(7,.box [.mp false 20]),(20,.mp (.mp es))]
theorem jeD(es:List (Ky×Int)): ∀i cs,lk i (Lb es)≠some (.gh cs):=fun i cs h=>by
 simp only[Lb,lk]at h;split at h
 ·cases h
 ·split at h<;>cases h
theorem Tm{rs:List ResultVar}{ids:List Nat}{st:St}{v:V}{es:List (Ky×Int)}{e:Exit}(he:e= .ret∨e= .normal)(hg:lk Cv (st.fin (some ids)).h=some (.gh [.ptr 7 0]))(h7:lk 7 (st.fin (some ids)).h=some (.box [.mp false 20]))(h20:lk 20 (st.fin (some ids)).h=some (.mp (.mp es)))
  (hr:(st.fin (some ids)).res tb rs=some v) (hv:v.on (B1 [7,20])=v):Lc tb rs [.ptr 7 0] (Lb es) v e st:=by
 refine⟨he,[],some ids,[.ptr 7 0],hg,rfl,.inr ⟨v,hr,hv.symm⟩,?_,?_,trivial⟩
 ·show lk 7 ((st.fin (some ids)).clean [7,20]).h=some _
  unfold St.clean St.on;simp only;rw[FZ,if_neg (by decide),BN,h7]
  rfl
 ·show lk 20 ((st.fin (some ids)).clean [7,20]).h=some _
  unfold St.clean St.on;simp only;rw[FZ,if_neg (by decide),BN,h20]
  rfl
theorem jmh{α:Type}{f:List UInt8→Option α}{l:List ByteArray}{i:Nat}(h:i<l.length){L:List α}(hL:((l.take i).map B).mapM f=some L):((l.take (i+1)).map B).mapM f=(f (B l[i])).map fun n=>L++[n]:=by
 rw[Cr h,List.map_append,R6,hL]
 simp only[List.map_cons,List.map_nil,List.mapM_cons,List.mapM_nil,Option.bind_some];cases f (B l[i])<;>rfl
theorem jmr{α:Type}{f:List UInt8→Option α}{l:List ByteArray}{i:Nat}(h:((l.take i).map B).mapM f=none):(l.map B).mapM f=none:=by
 rw[←List.take_append_drop i l,List.map_append,R6,h]
 rfl
def TY(o:Option Grd):V:=match o with
 |some g=> .tup [.agg [.d (.int .i64 g.kind),.d (AT g.args)],.c (.d (.bool true))]
 |none=> .tup [.agg [.d (.int .i64 0),.d (.slice 0 [])],.c (.d (.bool false))]
def PO(ns:List ByteArray)(x:List UInt8):Option Int:=(F2 (Ch x) ns).map fun(n:Nat)=>(n:Int)
theorem jg2(ns:List ByteArray)(es:List (Ky×Int))(he: ∀(a:Ky) (b:Int),(a,b)∈es→a.num=false)(hE: ∀x,B5 (.s x) es 0=(F2 x ns).map fun(i:Nat)=>(i,(i:Int)))(hN:ns.length≤60)(s:ByteArray)(hs:s.size≤100000):
  GJ Tryz.prog 16 [.c (.d (.str s)),.c (.ptr 7 0)] [.ptr 7 0] [.ptr 7 0] (Lb es) (Lb es) (TY (Nw ns (B s))):=by
 obtain⟨R,hR⟩: ∃R,R=Nw ns (B s):=⟨_,rfl⟩
 rw[←hR]
 unfold Nw at hR;refine Z3 [] (T:=tb) Ak mixed Tryz.func16 rfl (by decide) (Al rfl) (Al rfl) rfl rfl (jeD _) (jeD _) ?_;unfold St.initG St.initH
 unfold Lb;simp -implicitDefEqProofs[jJ,-qA,-qB];refine CE [] (fun k:Nat=>⟨[(5,vI .i64 k),(0,vC (.d (.str s))),(1,vC (.ptr 7 0)),(3,vC (.ptr 3 0))],[(3,.box [.d (.int .i64 0),.nl]),(7,.box [.mp false 20]),(20,.mp (.mp es)),(Cv,.gh [.ptr 7 0])]⟩)
  (fun k=>1≤k∧k≤4∧ ∀j:Nat,1≤j→j<k→Dj (B s) (A7 j++[40])=none) (fun k=>4 - k) 1
  (by simp[AW,lk,St.le,vI,vC]) ⟨by omega,by omega,fun j h1 h2=>by omega⟩ ?_
 rintro k ⟨h1,h2,h3⟩
 by_cases hk:k≤3
 ·have hkc:((k:Int)≤3):=by omega
  have kg:=TC (k:Int);have hk3:k=1∨k=2∨k=3:=by omega
  have n0:In k=grdN k∧2≤grdN k∧grdN k≤4:=by rcases hk3 with rfl|rfl|rfl<;>decide
  have hG: ∀t,Dj (B s) (A7 k++[40])=some t→R=OE ns k t:=fun t ht=>by
   rcases hk3 with rfl|rfl|rfl
   ·rw[hR,show Dj (B s) (A7 1++[40])=some t from ht]
    rfl
   ·rw[hR,show Dj (B s) (A7 1++[40])=none from h3 1 (by omega) (by omega),show Dj (B s) (A7 2++[40])=some t from ht]
    rfl
   ·rw[hR,show Dj (B s) (A7 1++[40])=none from h3 1 (by omega) (by omega),show Dj (B s) (A7 2++[40])=none from h3 2 (by omega) (by omega),show Dj (B s) (A7 3++[40])=some t from ht]
    rfl
  rw[n0.1]at kg
  have wl:=JO k;have k1:=VQ s (Ch (A7 k)++{ data:= #[40] });rw[show B (Ch (A7 k)++{ data:= #[40] })=A7 k++[40] from by rw[show({ data:= #[40] }:ByteArray)=Ch [40] from rfl,Ng];rfl]at k1
  have hb:G6 .add (Ch (A7 k)) { data:= #[40] }=some (vC (.d (.str (Ch (A7 k)++{ data:= #[40] })))):=by
   simp only[G6,Dz];rw[if_pos (by rw[Ja];show(A7 k).length+1≤_;omega)]
   rfl
  clear hR;cases hc:Dj (B s) (A7 k++[40])with
  |none=>
   rw[hc]at k1
   simp only[KZ]at k1;generalize Ch (A7 k)=W at*;simp -implicitDefEqProofs[jJ,-qA,-qB,hkc]
   (first|refine Ac kg ?_|refine Ae kg ?_)
   simp -implicitDefEqProofs[jJ,-qA,-qB,hb]
   (first|refine Ac k1 ?_|refine Ae k1 ?_)
   simp -implicitDefEqProofs[jJ,-qA,-qB];exact⟨by omega,⟨hk,fun j j1 j2=>by
    by_cases e:j=k
    ·rw[e];exact hc
    ·exact h3 j j1 (by omega)⟩,by omega⟩
  |some t=>
   have hR:=hG t hc;have lt:t.length≤100000:=by
    have:=congrArg List.length (cutP_some.1 hc)
    rw[Hg,List.length_append]at this
    omega
   have zt:(Ch t).size≤100000:=by rw[Ja];exact lt
   have k2:=jak (Ch t) { data:= #[41] } (by omega)
   rw[Mw,show B { data:= #[41] }=[41] from rfl]at k2
   rw[hc]at k1
   unfold OE at hR;simp only[KZ]at k1 k2;clear hG h3;cases hx:LI t [41]with
   |none=>
    rw[hx]at hR k2
    simp only at hR k2;subst hR;have k3:=Wj (Ch t) zt;generalize Ch (A7 k)=W at*;generalize Ch t=T at*;simp -implicitDefEqProofs[jJ,-qA,-qB,hkc]
    (first|refine Ac kg ?_|refine Ae kg ?_)
    simp -implicitDefEqProofs[jJ,-qA,-qB,hb]
    (first|refine Ac k1 ?_|refine Ae k1 ?_)
    simp -implicitDefEqProofs[jJ,-qA,-qB]
    (first|refine Ac k2 ?_|refine Ae k2 ?_)
    simp -implicitDefEqProofs[jJ,-qA,-qB]
    (first|refine Ac k3 ?_|refine Ae k3 ?_)
    simp -implicitDefEqProofs[jJ,-qA,-qB];exact Tm (ids:=[]) (.inl rfl) rfl rfl rfl rfl rfl
   |some u=>
    rw[hx]at hR k2
    simp only at hR k2;have lu:u.length≤100000:=by
     have:=congrArg List.length (cutX_some.1 hx)
     rw[List.length_append]at this
     omega
    have zu:(Ch u).size≤100000:=by rw[Ja];exact lu
    have k3:=Wj (Ch u) zu;have hp:=Wn (Ch u);have hpl:=VZ (Ch u);rw[Mw]at hp;rw[←hp,List.length_map]at hR;have hsl:=HR (pcsS (Ch u));generalize pcsS (Ch u)=l at*;have hlen:lenC (.d (.slice l.length (strsD l)))=some l.length:=rfl;generalize Ch (A7 k)=W at*;generalize Ch t=T at*;generalize Ch u=U0 at*;obtain⟨N,hN'⟩: ∃N,N=grdN k:=⟨_,rfl⟩;rw[←hN']at kg hR n0;by_cases hn:(l.length:Int)=N
    ·rw[if_neg (by simp[hn])]at hR
     simp -implicitDefEqProofs[jJ,-qA,-qB,hkc]
     (first|refine Ac kg ?_|refine Ae kg ?_)
     simp -implicitDefEqProofs[jJ,-qA,-qB,hb]
     (first|refine Ac k1 ?_|refine Ae k1 ?_)
     simp -implicitDefEqProofs[jJ,-qA,-qB]
     (first|refine Ac k2 ?_|refine Ae k2 ?_)
     simp -implicitDefEqProofs[jJ,-qA,-qB]
     (first|refine Ac k3 ?_|refine Ae k3 ?_)
     have hnT:((l.length:Int)=N)=True:=eq_true hn
     simp -implicitDefEqProofs[jJ,-qA,-qB,hlen,hnT];refine CE [(901,71)] (fun x:Nat×List Int=>⟨[(54,vI .i64 x.1),(53,vI .i64 l.length),(52,vC (.d (.slice l.length (strsD l)))),(11,vC (.ptr 11 0)),(1,vC (.ptr 7 0)),(3,vC (.ptr 3 0))],(11,.box [.d (.int .i64 k),D3 x.2])::(3,.box [.d (.int .i64 0),.nl])::(7,.box [.mp false 20])::(20,.mp (.mp es))::(Cv,.gh [.ptr 7 0])::KD x.2⟩)
      (fun x=>x.1≤l.length∧x.2.length=x.1∧((l.take x.1).map B).mapM (PO ns)=some x.2) (fun x=>l.length - x.1) (0,[])
      (by simp[AW,lk,St.le,vI,vC,D3,KD]) ⟨by omega,rfl,rfl⟩ ?_
     rintro⟨i,L⟩ ⟨i1,i2,i3⟩
     simp only at i1 i2 i3;have hR':R=((l.map B).mapM (PO ns)).map fun L=>⟨(k:Int),L⟩:=hR
     clear hR;by_cases hi:i<l.length
     ·have g0:l[i]? =some l[i]:=AD hi
      have hsl':(strsD l)[i]'(by rw[HR];exact hi)= .str l[i]:=by simp[strsD]
      have hnx:=jmh hi i3;have hfx:=hE l[i];have hkey:C.key? false (.d (.str l[i]))=some (.s l[i]):=rfl;cases hid:F2 l[i] ns with
      |none=>
       have hq:PO ns (B l[i])=none:=by unfold PO;rw[O9,hid];rfl
       rw[hq]at hnx
       rw[jmr hnx]at hR'
       have hR0:R=none:=hR'
       subst hR0;rw[hid]at hfx;have hf1:B5 (.s l[i]) es 0=none:=hfx;simp -implicitDefEqProofs[jJ,-qA,-qB,hi,g0,hsl',hf1,hkey];exact⟨he,Tm (ids:=[]) (.inl rfl) rfl rfl rfl rfl rfl⟩
      |some j=>
       have hq:PO ns (B l[i])=some (j:Int):=by unfold PO;rw[O9,hid];rfl
       rw[hq]at hnx
       rw[hid]at hfx
       have hf1:B5 (.s l[i]) es 0=some (j,(j:Int)):=hfx
       have fin:i+1≤l.length∧(L++[(j:Int)]).length=i+1∧List.mapM (PO ns) (List.take (i+1) (List.map B l))=some (L++[(j:Int)]):=⟨by omega,by rw[List.length_append,i2];rfl,by rw[←List.map_take];exact hnx⟩
       by_cases hL:L=[]
       ·subst hL;simp -implicitDefEqProofs[jJ,-qA,-qB,hi,g0,hsl',hf1,hkey,TG,KD];exact⟨he,by omega,i+1,[(j:Int)],⟨rfl,rfl,by simp[AW,lk,i64]⟩,fin,by omega⟩
       ·have hL0:0<L.length:=by
         cases L with
         |nil=>exact absurd rfl hL
         |cons=>simp
        have hh:KD L=[(901,.row 1 (L.map i64) true)]:=by unfold KD;rw[if_neg hL]
        have hL2:L++[(j:Int)]≠[]:=by simp
        simp -implicitDefEqProofs[jJ,-qA,-qB,hi,g0,hsl',hf1,hkey,Qa hL,hh];exact⟨he,⟨by omega,by omega⟩,by omega,i+1,L++[(j:Int)],⟨rfl,by rw[Qa hL2,List.length_append];rfl,by unfold KD;rw[if_neg hL2];simp[AW,lk,i64]⟩,fin,by omega⟩
     ·have hi2:i=l.length:=by omega
      subst hi2;rw[BM]at i3;rw[i3]at hR';have hL:L≠[]:=fun e=>by
       rw[e]at i2
       simp only[List.length_nil]at i2;omega
      have hh:KD L=[(901,.row 1 (L.map i64) true)]:=by unfold KD;rw[if_neg hL]
      rw[Qa hL,hh]
      have hR0:R=some ⟨(k:Int),L⟩:=hR'
      subst hR0;simp -implicitDefEqProofs[jJ,-qA,-qB];refine Tm (ids:=[901]) (.inl rfl) rfl rfl rfl ?_ rfl;have hc1:AP (0*1) (L.length*1) (L.map i64)=L.map i64:=by
       unfold AP;rw[Nat.mul_one,Nat.zero_mul,List.drop_zero];exact Ba (by simp)
      simp[St.fin,St.freeze,St.freezeK,St.on,Du,toD,lk,Ds,St.res,St.resU,Blk.on,C.on,V.on,U.on,Blk.dat,C.dat,hc1,TY,AT]
    ·rw[if_pos hn]at hR
     subst hR;simp -implicitDefEqProofs[jJ,-qA,-qB,hkc]
     (first|refine Ac kg ?_|refine Ae kg ?_)
     simp -implicitDefEqProofs[jJ,-qA,-qB,hb]
     (first|refine Ac k1 ?_|refine Ae k1 ?_)
     simp -implicitDefEqProofs[jJ,-qA,-qB]
     (first|refine Ac k2 ?_|refine Ae k2 ?_)
     simp -implicitDefEqProofs[jJ,-qA,-qB]
     (first|refine Ac k3 ?_|refine Ae k3 ?_)
     simp -implicitDefEqProofs[jJ,-qA,-qB,hlen,hn];exact Tm (ids:=[]) (.inl rfl) rfl rfl rfl rfl rfl
 ·have hk4:k=4:=by omega
  subst hk4;have hRn:R=none:=by
   rw[hR,show Dj (B s) (A7 1++[40])=none from h3 1 (by omega) (by omega),show Dj (B s) (A7 2++[40])=none from h3 2 (by omega) (by omega),show Dj (B s) (A7 3++[40])=none from h3 3 (by omega) (by omega)]
  subst hRn;simp -implicitDefEqProofs[jJ,-qA,-qB];exact Tm (ids:=[]) (.inl rfl) rfl rfl rfl rfl rfl
end Go.Va
