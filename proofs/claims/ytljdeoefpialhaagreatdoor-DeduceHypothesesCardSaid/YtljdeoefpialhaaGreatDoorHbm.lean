/- a part of the proof -/
import Derived.Shelf.Strings.BuilderK
import Derived.Shelf.Strconv.Itoa3
import Derived.Test.YtljdeoefpialhaaGreatDoorProg
import Derived.Test.YtljdeoefpialhaaGreatDoorHaa
import Derived.WalkKit
import Derived.BigCall
set_option linter.all false
set_option maxHeartbeats 4000000
set_option maxRecDepth 100000
namespace Go.Proofs
open Go.Shelf
def Tryz.laysWS_ren:Go.Shelf.Ren:=⟨fun|166=>88|240=>160|276=>234|n=>n,fun|0=>0|3=>3|4=>4|9=>9|20=>20|37=>58|70=>118|72=>120|75=>122|164=>236|80=>128|n=>n,fun|n=>n⟩
theorem Tryz.laysWS:Go.Proofs.Lays.n166 Tryz.prog Tryz.laysWS_ren:={
 mixed:=by kernel_rfl
 f166:=Tryz.func88.trans (congrArg some (by kernel_rfl))
 f240:=Tryz.func160.trans (congrArg some (by kernel_rfl))
 f276:=Tryz.func234.trans (congrArg some (by kernel_rfl))
 t0:=Tryz.underlying0
 a0:=Tryz.isAgg0
 z0:=Tryz.sizeOf0
 v0:=Tryz.zeroValue0
 t3:=Tryz.underlying3
 a3:=Tryz.isAgg3
 z3:=Tryz.sizeOf3
 v3:=Tryz.zeroValue3
 t4:=Tryz.underlying4
 a4:=Tryz.isAgg4
 z4:=Tryz.sizeOf4
 v4:=Tryz.zeroValue4
 t9:=Tryz.underlying9
 a9:=Tryz.isAgg9
 z9:=Tryz.sizeOf9
 v9:=Tryz.zeroValue9
 t20:=Tryz.underlying20
 a20:=Tryz.isAgg20
 z20:=Tryz.sizeOf20
 v20:=Tryz.zeroValue20
 t37:=Tryz.underlying58
 a37:=Tryz.isAgg58
 z37:=Tryz.sizeOf58
 v37:=Tryz.zeroValue58
 t70:=Tryz.underlying118
 a70:=Tryz.isAgg118
 z70:=Tryz.sizeOf118
 v70:=Tryz.zeroValue118
 t72:=Tryz.underlying120
 a72:=Tryz.isAgg120
 z72:=Tryz.sizeOf120
 v72:=Tryz.zeroValue120
 t75:=Tryz.underlying122
 a75:=Tryz.isAgg122
 z75:=Tryz.sizeOf122
 v75:=Tryz.zeroValue122
 t164:=Tryz.underlying236
 a164:=Tryz.isAgg236
 z164:=Tryz.sizeOf236
 v164:=Tryz.zeroValue236 }
theorem Tryz.extWS:Builder.Extra Tryz.prog Tryz.laysWS_ren where
 sizeBuilder:=by kernel_rfl
 liesBuilder:=by kernel_rfl
 t5:=Tryz.underlying5
 a5:=Tryz.isAgg5
 z5:=Tryz.sizeOf5
 v5:=Tryz.zeroValue5
 infoByte:=by kernel_rfl
 cellsByte:=by kernel_rfl
 sizeByte:=by kernel_rfl
 neB5:=by decide
def Tryz.laysBS_ren:Go.Shelf.Ren:=⟨fun|169=>92|n=>n,fun|70=>118|9=>9|0=>0|72=>120|37=>58|127=>182|3=>3|5=>5|n=>n,fun|n=>n⟩
theorem Tryz.extBS:Builder.Extra Tryz.prog Tryz.laysBS_ren where
 sizeBuilder:=by kernel_rfl
 liesBuilder:=by kernel_rfl
 t5:=Tryz.underlying5
 a5:=Tryz.isAgg5
 z5:=Tryz.sizeOf5
 v5:=Tryz.zeroValue5
 infoByte:=by kernel_rfl
 cellsByte:=by kernel_rfl
 sizeByte:=by kernel_rfl
 neB5:=by decide
def Tryz.laysLe_ren:Go.Shelf.Ren:=⟨fun|170=>238|n=>n,fun|70=>118|3=>3|0=>0|72=>120|37=>58|5=>5|n=>n,fun|n=>n⟩
theorem Tryz.laysLe:Go.Proofs.Lays.n170 Tryz.prog Tryz.laysLe_ren:={
 mixed:=by kernel_rfl
 f170:=Tryz.func238.trans (congrArg some (by kernel_rfl))
 t0:=Tryz.underlying0
 a0:=Tryz.isAgg0
 z0:=Tryz.sizeOf0
 v0:=Tryz.zeroValue0
 t3:=Tryz.underlying3
 a3:=Tryz.isAgg3
 z3:=Tryz.sizeOf3
 v3:=Tryz.zeroValue3
 t37:=Tryz.underlying58
 a37:=Tryz.isAgg58
 z37:=Tryz.sizeOf58
 v37:=Tryz.zeroValue58
 t70:=Tryz.underlying118
 a70:=Tryz.isAgg118
 z70:=Tryz.sizeOf118
 v70:=Tryz.zeroValue118
 t72:=Tryz.underlying120
 a72:=Tryz.isAgg120
 z72:=Tryz.sizeOf120
 v72:=Tryz.zeroValue120 }
def Tryz.laysIt_ren:Go.Shelf.Ren:=⟨fun|171=>89|243=>161|246=>235|283=>277|284=>278|285=>279|286=>280|129=>223|317=>328|318=>329|319=>330|320=>331|337=>344|338=>345|n=>n,fun|3=>3|9=>9|2=>2|4=>4|171=>276|0=>0|53=>142|37=>58|5=>5|173=>278|212=>309|51=>227|20=>20|213=>310|46=>162|232=>324|233=>325|n=>n,fun|17=>0|18=>1|19=>2|n=>n⟩
theorem Tryz.laysIt:Go.Proofs.Lays.n171 Tryz.prog Tryz.laysIt_ren:={
 mixed:=by kernel_rfl
 f129:=Tryz.func223.trans (congrArg some (by kernel_rfl))
 f171:=Tryz.func89.trans (congrArg some (by kernel_rfl))
 f243:=Tryz.func161.trans (congrArg some (by kernel_rfl))
 f246:=Tryz.func235.trans (congrArg some (by kernel_rfl))
 f283:=Tryz.func277.trans (congrArg some (by kernel_rfl))
 f284:=Tryz.func278.trans (congrArg some (by kernel_rfl))
 f285:=Tryz.func279.trans (congrArg some (by kernel_rfl))
 f286:=Tryz.func280.trans (congrArg some (by kernel_rfl))
 f317:=Tryz.func328.trans (congrArg some (by kernel_rfl))
 f318:=Tryz.func329.trans (congrArg some (by kernel_rfl))
 f319:=Tryz.func330.trans (congrArg some (by kernel_rfl))
 f320:=Tryz.func331.trans (congrArg some (by kernel_rfl))
 f337:=Tryz.func344.trans (congrArg some (by kernel_rfl))
 f338:=Tryz.func345.trans (congrArg some (by kernel_rfl))
 t0:=Tryz.underlying0
 a0:=Tryz.isAgg0
 z0:=Tryz.sizeOf0
 v0:=Tryz.zeroValue0
 t2:=Tryz.underlying2
 a2:=Tryz.isAgg2
 z2:=Tryz.sizeOf2
 v2:=Tryz.zeroValue2
 t3:=Tryz.underlying3
 a3:=Tryz.isAgg3
 z3:=Tryz.sizeOf3
 v3:=Tryz.zeroValue3
 t4:=Tryz.underlying4
 a4:=Tryz.isAgg4
 z4:=Tryz.sizeOf4
 v4:=Tryz.zeroValue4
 t5:=Tryz.underlying5
 a5:=Tryz.isAgg5
 z5:=Tryz.sizeOf5
 v5:=Tryz.zeroValue5
 t9:=Tryz.underlying9
 a9:=Tryz.isAgg9
 z9:=Tryz.sizeOf9
 v9:=Tryz.zeroValue9
 t20:=Tryz.underlying20
 a20:=Tryz.isAgg20
 z20:=Tryz.sizeOf20
 v20:=Tryz.zeroValue20
 t37:=Tryz.underlying58
 a37:=Tryz.isAgg58
 z37:=Tryz.sizeOf58
 v37:=Tryz.zeroValue58
 t46:=Tryz.underlying162
 a46:=Tryz.isAgg162
 z46:=Tryz.sizeOf162
 v46:=Tryz.zeroValue162
 t51:=Tryz.underlying227
 a51:=Tryz.isAgg227
 z51:=Tryz.sizeOf227
 v51:=Tryz.zeroValue227
 t53:=Tryz.underlying142
 a53:=Tryz.isAgg142
 z53:=Tryz.sizeOf142
 v53:=Tryz.zeroValue142
 t171:=Tryz.underlying276
 a171:=Tryz.isAgg276
 z171:=Tryz.sizeOf276
 v171:=Tryz.zeroValue276
 t173:=Tryz.underlying278
 a173:=Tryz.isAgg278
 z173:=Tryz.sizeOf278
 v173:=Tryz.zeroValue278
 t212:=Tryz.underlying309
 a212:=Tryz.isAgg309
 z212:=Tryz.sizeOf309
 v212:=Tryz.zeroValue309
 t213:=Tryz.underlying310
 a213:=Tryz.isAgg310
 z213:=Tryz.sizeOf310
 t232:=Tryz.underlying324
 a232:=Tryz.isAgg324
 z232:=Tryz.sizeOf324
 v232:=Tryz.zeroValue324
 t233:=Tryz.underlying325
 a233:=Tryz.isAgg325
 z233:=Tryz.sizeOf325
 v233:=Tryz.zeroValue325
 g17:=by kernel_rfl
 g18:=by kernel_rfl
 g19:=by kernel_rfl }
end Go.Proofs
namespace Go.Va
open Go.Proofs Go.RowKit
theorem jhp{p:Program}{w w':World}{a:Addr}{u:TypeId}{k:Addr}{v:Value}{b:Bool}{l:List Addr}(h:w.viewStore p a u k v b= .ok (w',l)):w'.drawn=w.drawn:=by
 unfold World.viewStore at h;simp only[bind,Except.bind,pure,Except.pure]at h
 repeat' split at h
 all_goals first
  |cases h;rfl
  |cases h
theorem Xp{p:Program}{w w':World}{a:Addr}{v:Value}{b:Bool}{l:List Addr}(h:w.farStore p a v b= .ok (w',l)):w'.drawn=w.drawn:=by
 unfold World.farStore at h;split at h
 ·split at h
  ·rename_i r hr
   cases h;exact jhp hr
  ·cases h
 ·cases h
theorem Mw{α:Type}: ∀(k:Ask α) (w:World),w.drawn≤(w.ask k).2.drawn
 | .done a,w=>AO _
 | .ask what range k,w=>by
  unfold World.ask;simp only;split
  ·exact Mw (k 0) w
  ·exact Nat.le_trans (Nat.le_succ _) (Mw _ { w with drawn:=w.drawn+1 })
theorem Tq(w:World)(a:Addr)(n:Nat):(w.freeze a n).drawn=w.drawn:=by
 unfold World.freeze;split<;>rfl
theorem SL{P:Program}{α:Type}: ∀(m:Sem α) (w:World) (v:α) (w':World),m.run P w= .ok v w'→w.drawn≤w'.drawn:=by
 intro m
 induction m with
 |pure a=>intro w v w' h;simp only[Sem.run,Result.ok.injEq]at h;rw[h.2];exact AO _
 |load m a k ih=>
  intro w v w' h;simp only[Sem.run]at h;split at h
  ·exact ih _ _ _ _ h
  ·split at h
   ·exact ih _ _ _ _ h
   ·cases h
 |store m a x k ih=>
  intro w v w' h;have go: ∀(r:Result α),r= .ok v w'→(r=(match w.cell? a with
    | some _ => if w.frozen? a then .halt (.unsupported (.unsafePointer "a write to bytes that a string shares")) w else k.run P (w.setCell a x)
    |none=>match w.farStore P a x (m== .atomic)with
     | .ok (w,_)=>k.run P w
     | .error h=> .halt h w))→w.drawn≤w'.drawn:=fun r hr e=>by
   rw[hr]at e
   split at e
   ·split at e
    ·cases e
    ·have q:=ih _ _ _ e.symm;exact q
   ·split at e
    ·rename_i w2 l hf
     have q:=ih _ _ _ e.symm
     rwa [Xp hf]at q
    ·cases e
  cases x with
  |agg c=>simp only[Sem.run]at h;cases h
  |tuple c=>simp only[Sem.run]at h;cases h
  |_=>exact go _ h (by simp only[Sem.run]<;>rfl)
 |new o k ih=>intro w v w' h;simp only[Sem.run]at h;have q:=ih _ _ _ _ h;exact q
 |shape r k ih=>intro w v w' h;simp only[Sem.run]at h;exact ih _ _ _ _ h
 |freeze a n k ih=>intro w v w' h;simp only[Sem.run]at h;have:=ih _ _ _ h;rwa [Tq]at this
 |frozen a k ih=>intro w v w' h;simp only[Sem.run]at h;exact ih _ _ _ _ h
 |getObj r k ih=>
  intro w v w' h;simp only[Sem.run]at h;split at h
  ·cases h
  ·exact ih _ _ _ _ h
  ·cases h
 |setObj r o k ih=>
  intro w v w' h;simp only[Sem.run]at h;split at h
  ·cases h
  ·have q:=ih _ _ _ h;exact q
  ·cases h
 |choose q k ih=>
  intro w v w' h;simp only[Sem.run]at h;split at h
  ·exact ih _ _ _ _ h
  ·exact Nat.le_trans (Nat.le_succ _) (ih _ _ _ _ h)
 |sys c k ih=>
  intro w v w' h;simp only[Sem.run]at h;refine Nat.le_trans ?_ (ih _ _ _ _ h);unfold World.sys;split
  ·exact AO _
  ·rename_i r os w2 _ he
   have:=Mw (Kernel.perform c w.os) w
   rw[he]at this
   exact this
 |program k ih=>intro w v w' h;simp only[Sem.run]at h;exact ih _ _ _ _ h
 |mark m k ih=>intro w v w' h;simp only[Sem.run]at h;exact ih _ _ _ h
 |halt h=>intro w v w' hh;simp only[Sem.run]at hh;cases hh
theorem Tm: ∃i0,Tryz.prog.info? 5=some i0∧i0.zero=some (.int .u8 0)∧i0.size=1∧i0.bytes=1:=by
 have h:=Tryz.extWS.infoByte;obtain⟨i0,hi,he⟩:=jze.1 h;simp only[Prod.mk.injEq]at he;exact⟨i0,hi,he.1,he.2.1,he.2.2⟩
def Bld(B b:Nat)(l:List UInt8)(w:World):Prop:=Lib.IsBuilderF 120 5 B b (Lib.byteCells l) w
def Ig(B b:Nat)(l:List UInt8)(w w':World):Prop:=Bld B b l w'∧Below B w w'∧Lib.OthersKept 5 (some b) w w'∧w.drawn≤w'.drawn
theorem U3(B b:Nat)(bs:List Value)(w:World)(h:Lib.IsBuilderF 120 5 B b bs w):
  Calls Tryz.prog 160 #[.pointer (some ⟨b,0,none⟩)] w fun e w'=>e= .returned (.tuple #[])∧(Lib.BuilderAtF 120 5 B b (.pointer (some ⟨b,0,none⟩)) bs w'∧Below B w w'∧Lib.OthersKept 5 (some b) w w'∧w.drawn≤w'.drawn):=by
 rcases h with h|h
 ·refine(Any.Builder_copyCheck_fresh { Tryz.laysWS with } Tryz.extWS.toX72 b w h.cell0 h.shape h.frozen0).mono ?_
  rintro e w' ⟨rfl,rfl⟩
  exact⟨rfl,h.used _,(Below.refl B w).setCell (p:=⟨b,0,none⟩) h.1 _,(Lib.OthersKept.refl _ _ w).setCell ⟨b,0,none⟩ rfl _,AO _⟩
 ·refine(Any.Builder_copyCheck_used { Tryz.laysWS with } Tryz.extWS.toX72 b w h.cell0).mono ?_
  rintro e w' ⟨rfl,rfl⟩
  exact⟨rfl,h,Below.refl B _,Lib.OthersKept.refl _ _ _,AO _⟩
theorem jhm{P:Program}{w:World}{ops:Array Oper}{rest:List Oper}{o:Oper}{a:Act}{Q:Exit→Act→World→Prop}(hgd:o.guard=none)(sl x:Operand)(t u:TypeId)
  (ho:o.op= .call { callee:= .builtin .append,args:= #[sl,x],argTypes:= #[t,u] })
  (base:Nat) (e:TypeId) (i:TypeInfo) (ht:P.underlying t=some (.slice e)) (hu:P.underlying u=some .string) (hi:P.info? e=some i) (hz:i.zero=some (.int .u8 0))
  (hsize:i.size=1) (hby:i.bytes=1)
  (v:Value) (n:Nat) (xs:List Value) (hs:a.eval sl=v) (hown:w.ownsRowF base e 1 v n xs) (s:ByteArray) (hx:a.eval x= .string s)
  (h63:n+s.size≤maxLen) (hbytes:n+s.size≤140737488355328) (hbase:base≤w.heap.size)
  (h: ∀v' w',w'.ownsRowF base e 1 v' (n+s.size) (xs++Lib.strCells s)→w.grownBy w' v.ownBlock→w.drawn≤w'.drawn→wpList P ops Q rest (a.put o.dst v') w'):wpList P ops Q (o::rest) a w:=by
 refine wpList_plain hgd fun K hK=> ?_
 obtain⟨v',w',hr,h2,h3,h4⟩:=Lib.run_append_own_stringF (P:=P) w base t u o.type e i ht hu hi hz hsize hby v n xs hown s h63 hbytes hbase
 unfold Oper.wp execOp;simp only[ho,resolve,invoke,builtin,Sem.run_bind,Sem.run_pure,Result.andThen_ok,List.map_toArray,List.map_cons,List.map_nil,hs,hx,hr];exact hK _ _ (h v' w' h2 h3 (SL _ _ _ _ hr))
theorem LE(B b:Nat)(l s:List UInt8)(w:World)(h:Bld B b l w)(hlen:l.length+s.length≤1000)(hBw:B≤w.heap.size):
  Calls Tryz.prog 88 #[.pointer (some ⟨b,0,none⟩),.string ⟨s.toArray⟩] w fun e w'=>e= .returned (.tuple #[.int .i64 s.length,.nilIface])∧Ig B b (l++s) w w':=by
 obtain⟨i0,hi,hz0,hz1,hz2⟩:=Tm
 go_enter Tryz.func88,Tryz.ntmps88
 go_wp2_with (go_at_call 160;refine(U3 B b _ _ h).mono ?_)
 rintro e w1 ⟨rfl,h1,hb1,hk1,hd1⟩
 obtain⟨hB,v,hbk,hown,hne⟩:=h1
 have c0:w1.cell? ⟨b,0,none⟩=some (.pointer (some ⟨b,0,none⟩)):=by rw[Lib.cell_of_heap hbk];rfl
 have c1:w1.cell? ⟨b,1,none⟩=some v:=by rw[Lib.cell_of_heap hbk];rfl
 go_wp2_with (at_builtin;refine jhm rfl _ _ 58 9 rfl B 5 i0 Tryz.underlying58 Tryz.underlying9 hi hz0 hz1 hz2 _ _ _ rfl hown ⟨s.toArray⟩ rfl ?c3 ?c4 ?c5 ?_)
 case c3=>have:=Lib.byteCells_length l;simp[ByteArray.size];unfold maxLen;omega
 case c4=>have:=Lib.byteCells_length l;simp[ByteArray.size];omega
 case c5=>have:=hb1.size;omega
 intro v' w2 hown' hgrow hd2;have hlt:b<w1.heap.size:=by
  rcases Nat.lt_or_ge b w1.heap.size with h'|h'
  ·exact h'
  ·simp[Array.getElem?_eq_none h']at hbk
 have hb2:w2.heap[b]? =some (.cells #[.pointer (some ⟨b,0,none⟩),v] 120 (0,0)):=by
  rw[hgrow.block b hlt (fun e=>hne e.symm)]
  exact hbk
 have d0:w2.cell? ⟨b,0,none⟩=some (.pointer (some ⟨b,0,none⟩)):=by rw[Lib.cell_of_heap hb2];rfl
 have d1:w2.cell? ⟨b,1,none⟩=some v:=by rw[Lib.cell_of_heap hb2];rfl
 have f1:w2.frozen? ⟨b,1,none⟩=false:=Lib.frozen_of_heap hb2 1
 obtain⟨ao,n',cap,rfl⟩: ∃ao n' cap,v'= .slice ao n' cap:=by
  rcases hown'.2 with⟨hv,_⟩|⟨g,cap,cur,fz,hv,_⟩
  ·exact⟨_,_,_,hv⟩
  ·exact⟨_,_,_,hv⟩
 go_wp2
 go_ret2
 refine⟨rfl,Or.inr ?_,?_,(hk1.grown hgrow (Lib.ownsRowF_kind hown)).setCell ⟨b,1,none⟩ rfl _,Nat.le_trans hd1 hd2⟩
 ·refine Lib.BuilderAtF.put (T:=120) (e:=5) hB hb2 (bs':=Lib.byteCells (l++s)) ?_ (by decide)
  have e1:Lib.byteCells (l++s)=Lib.byteCells l++Lib.strCells ⟨s.toArray⟩:=by rw[Lib.strCells_eq];simp[Lib.byteCells]
  rw[e1,List.length_append,Lib.strCells_length]
  exact hown'
 ·exact(hb1.grown hgrow (by have:=hb1.size;omega) (fun k hk=>(hown.lt k hk).1)).setCell (p:=⟨b,1,none⟩) hB _
theorem Zj{P:Program}{w:World}{ops:Array Oper}{rest:List Oper}{o:Oper}{a:Act}{Q:Exit→Act→World→Prop}(hgd:o.guard=none)(s x:Operand)(t:TypeId)
  (ho:o.op= .call { callee:= .builtin .append,args:= #[s,x],argTypes:= #[t,t] })
  (base:Nat) (e:TypeId) (i:TypeInfo) (z:Value) (size bytes:Nat) (ht:P.underlying t=some (.slice e)) (hi:P.info? e=some i) (hz:i.zero=some z)
  (hsize:i.size=size) (hby:i.bytes=bytes) (hzs:z.cells.size=size) (hsz:0<size)
  (v:Value) (n:Nat) (xs:List Value) (hs:a.eval s=v) (hown:w.ownsRowF base e size v n xs)
  (ad:Addr) (m c:Nat) (news:List Value) (hx:a.eval x= .slice (some ad) m c) (hl:news.length=m*size) (hnews: ∀j u,news[j]? =some u→w.cell? (ad.add j)=some u) (h1: ∀u∈news,u.oneCell'=true)
  (h63:n+m≤maxLen) (hbytes:(n+m)*bytes≤140737488355328) (hbase:base≤w.heap.size)
  (h: ∀v' w',w'.ownsRowF base e size v' (n+m) (xs++news)→w.grownBy w' v.ownBlock→w.drawn≤w'.drawn→wpList P ops Q rest (a.put o.dst v') w'):wpList P ops Q (o::rest) a w:=by
 refine wpList_plain hgd fun K hK=> ?_
 obtain⟨v',w',hr,h2,h3,h4⟩:=run_append_ownF (P:=P) w base t o.type e i z size bytes ht hi hz hsize hby hzs hsz v n xs hown ad m c news hl hnews h1 h63 hbytes hbase
 unfold Oper.wp execOp;simp only[ho,resolve,invoke,builtin,Sem.run_bind,Sem.run_pure,Result.andThen_ok,List.map_toArray,List.map_cons,List.map_nil,hs,hx,hr];exact hK _ _ (h v' w' h2 h3 (SL _ _ _ _ hr))
theorem NC(B b:Nat)(l:List UInt8)(x:UInt8)(w:World)(h:Bld B b l w)(hlen:l.length≤1000)(hBw:B≤w.heap.size):
  Calls Tryz.prog 90 #[.pointer (some ⟨b,0,none⟩),.int .u8 x.toNat] w fun e w'=>e= .returned .nilIface∧Ig B b (l++[x]) w w':=by
 obtain⟨i0,hi,hz0,hz1,hz2⟩:=Tm
 go_enter Tryz.func90,Tryz.ntmps90
 go_wp2_with (go_at_call 160;refine(U3 B b _ _ h).mono ?_)
 rintro e w1 ⟨rfl,h1,hb1,hk1,hd1⟩
 obtain⟨hB,v,hbk,hown,hne⟩:=h1
 have c0:w1.cell? ⟨b,0,none⟩=some (.pointer (some ⟨b,0,none⟩)):=by rw[Lib.cell_of_heap hbk];rfl
 have c1:w1.cell? ⟨b,1,none⟩=some v:=by rw[Lib.cell_of_heap hbk];rfl
 go_wp2_with (at_builtin;refine Zj rfl _ _ 58 rfl B 5 i0 (.int .u8 0) 1 1 Tryz.underlying58 hi hz0 hz1 hz2 rfl (by decide) _ _ _ rfl (hown.alloc _) ⟨w1.heap.size,0,none⟩ 1 1 [.int .u8 x.toNat] rfl rfl ?c1 ?c2 ?c3 ?c4 ?c5 ?_)
 case c1=>
  intro j u hj
  match j,hj with
  |0,hj=>simp at hj;subst hj;simp[Addr.add]
 case c2=>intro u hu;simp at hu;subst hu;rfl
 case c3=>have:=Lib.byteCells_length l;unfold maxLen;omega
 case c4=>have:=Lib.byteCells_length l;omega
 case c5=>have:=hb1.size;simp;omega
 intro v' w2 hown' hgrow hd2;have hlt:b<w1.heap.size:=by
  rcases Nat.lt_or_ge b w1.heap.size with h'|h'
  ·exact h'
  ·simp[Array.getElem?_eq_none h']at hbk
 have hb2:w2.heap[b]? =some (.cells #[.pointer (some ⟨b,0,none⟩),v] 120 (0,0)):=by
  rw[hgrow.block b (by simp;omega) (fun e=>hne e.symm),Lib.alloc_old w1 _ b hlt]
  exact hbk
 have d0:w2.cell? ⟨b,0,none⟩=some (.pointer (some ⟨b,0,none⟩)):=by rw[Lib.cell_of_heap hb2];rfl
 have d1:w2.cell? ⟨b,1,none⟩=some v:=by rw[Lib.cell_of_heap hb2];rfl
 have f1:w2.frozen? ⟨b,1,none⟩=false:=Lib.frozen_of_heap hb2 1
 obtain⟨g,cap,rfl⟩: ∃g cap,v'= .slice (some ⟨g,0,none⟩) ((Lib.byteCells l).length+1) cap:=by
  rcases hown'.2 with⟨_,h0⟩|⟨g,cap,cur,fz,hv,_⟩
  ·omega
  ·exact⟨g,cap,hv⟩
 go_wp2
 go_ret
 refine⟨rfl,Or.inr ?_,?_,((hk1.alloc _).grown hgrow (Lib.ownsRowF_kind (hown.alloc _))).setCell ⟨b,1,none⟩ rfl _,Nat.le_trans hd1 hd2⟩
 ·refine Lib.BuilderAtF.put (T:=120) (e:=5) hB hb2 (bs':=Lib.byteCells (l++[x])) ?_ (by decide)
  have e1:Lib.byteCells (l++[x])=Lib.byteCells l++[.int .u8 x.toNat]:=by simp[Lib.byteCells]
  rw[e1,List.length_append]
  exact hown'
 ·exact((hb1.alloc (by have:=hb1.size;omega) _).grown hgrow (by have:=hb1.size;simp;omega) (fun k hk=>(hown.lt k hk).1)).setCell (p:=⟨b,1,none⟩) hB _
theorem MT(B b:Nat)(l:List UInt8)(w:World)(h:Bld B b l w)(h0:l≠[])(hBw:B≤w.heap.size):
  Calls Tryz.prog 92 #[.pointer (some ⟨b,0,none⟩)] w fun e w'=>e= .returned (.string ⟨l.toArray⟩)∧Below B w w'∧w.drawn≤w'.drawn:=by
 obtain⟨p,hAt⟩: ∃p,Lib.BuilderAtF 120 5 B b p (Lib.byteCells l) w:=by
  rcases h with h|h
  ·exact⟨_,h⟩
  ·exact⟨_,h⟩
 obtain⟨hB,v,hbk,hown,hne⟩:=hAt
 have hl0:l.length≠0:=by simpa using h0
 rw[Lib.byteCells_length]at hown
 obtain⟨g,cap,cur,fz,rfl,hbg,hg,hfz,hnc,hcm,hcs,htake⟩: ∃g cap cur fz,v= .slice (some ⟨g,0,none⟩) l.length cap∧B≤g∧w.heap[g]? =some (.cells cur 5 fz)∧fz.2≤l.length*1∧l.length≤cap∧cap≤maxLen∧cur.size=cap*1∧cur.toList.take (l.length*1)=Lib.byteCells l:=by
  rcases hown.2 with⟨_,hz⟩|⟨g,cap,cur,fz,hv,r⟩
  ·exact absurd hz hl0
  ·exact⟨g,cap,cur,fz,hv,r⟩
 have c1:w.drew.cell? ⟨b,1,none⟩=some (.slice (some ⟨g,0,none⟩) l.length cap):=by
  have:w.drew.heap[b]? =some (.cells #[p,.slice (some ⟨g,0,none⟩) l.length cap] 120 (0,0)):=hbk
  rw[Lib.cell_of_heap this];rfl
 have hSD:(Builtin.unsafeSliceData_ #[58] 182 #[.slice (some ⟨g,0,none⟩) l.length cap]).run Tryz.prog w.drew= .ok (.pointer (some ⟨g,0,none⟩)) w.drew:=
  Lib.run_unsafeSliceData_row _ _ _ _ _ _ (by omega)
 have hUS:(Builtin.unsafeString_ #[182,3] 9 #[.pointer (some ⟨g,0,none⟩),.int .i64 l.length]).run Tryz.prog w.drew= .ok (.string ⟨l.toArray⟩) (w.drew.freeze ⟨g,0,none⟩ l.length):=by
  refine Lib.run_unsafeString_row w.drew 182 3 9 5 Tryz.underlying182 Tryz.extBS.cellsByte g cur.size (by have hg':w.drew.heap[g]? =some (.cells cur 5 fz):=hg;simp[World.shape?,hg']) l h0 (by omega) (by unfold maxLen at hcm;omega) ?_
  intro j x hx;have:=hown.cells (g:=g) rfl j (.int .u8 x.toNat) (by simp[Lib.byteCells,hx])
  exact this
 have hdr:w.drawn≤(w.drew.freeze ⟨g,0,none⟩ l.length).drawn:=by rw[Tq];exact Nat.le_succ _
 have mixed:Tryz.prog.follows .mixedOrders=true:=by kernel_rfl
 go_enter Tryz.func92,Tryz.ntmps92
 go_wp2
 go_region_o
 all_goals (go_wp2;go_ret;exact⟨rfl,Lib.below_freeze (Below.drew (Below.refl B w)) (p:=⟨g,0,none⟩) hbg _,hdr⟩)
theorem K7(B b:Nat)(l:List UInt8)(w:World)(h:Bld B b l w):Calls Tryz.prog 238 #[.pointer (some ⟨b,0,none⟩)] w fun e w'=>e= .returned (.int .i64 l.length)∧w'=w:=by
 refine(Any.Builder_Len_f Tryz.laysLe B b (Lib.byteCells l) w h).mono ?_
 rintro e w' ⟨rfl,rfl⟩
 rw[Lib.byteCells_length]
 exact⟨rfl,rfl⟩
theorem TY{i:Nat}(hi:i<100)(w:World):Calls Tryz.prog 89 #[.int .i64 i] w fun e w'=>e= .returned (.string ⟨(Lib.decDigits i).toArray⟩)∧w'=w:=Any.strconv_Itoa_small Tryz.laysIt i hi w
end Go.Va
