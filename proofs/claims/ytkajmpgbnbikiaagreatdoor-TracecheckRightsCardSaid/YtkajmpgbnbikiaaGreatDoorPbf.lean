/- a part of the proof -/
import Derived.Test.YtkajmpgbnbikiaaGreatDoorPbe
import Derived.Test.YtkajmpgbnbikiaaGreatDoorPbc
import Derived.WalkKit
import Derived.BigCall
import Derived.Test.YtkajmpgbnbikiaaGreatDoorPbd
set_option linter.all false
set_option maxHeartbeats 4000000
set_option maxRecDepth 100000
namespace Go.Va
open Go.Proofs Go.RowKit
def Fu(k x y z:Nat):List UInt8:=Lib.decDigits k++([32]++Lib.decDigits x)++([32]++Lib.decDigits y)++([32]++Lib.decDigits z)
theorem HF{u:Nat}(h:u<100):(Lib.decDigits u).length≤2:=by
 unfold Lib.decDigits;split
 ·simp
 ·unfold Lib.decDigits;split
  ·simp
  ·omega
theorem HJ{i:Nat}(hi:i<100)(w:World):Calls Tryz.prog 187 #[.int .i64 i] w fun e w'=>e= .returned (.string ⟨(Lib.decDigits i).toArray⟩)∧w'=w:=Any.strconv_Itoa_small Tryz.laysIt i hi w
structure Mid (B0:Nat) (bx:Array Value) (l:List UInt8) (w0 w:World):Prop where
 b:Hn B0 (B0+1) l w
 drawn:w0.drawn≤w.drawn
 below:Below B0 w0 w
 box:w.heap[B0]? =some (.cells bx 51 (0,0))
theorem Mid.cell{B0:Nat}{bx:Array Value}{l:List UInt8}{w0 w:World}(h:Mid B0 bx l w0 w){k:Nat}{v:Value}(hv:bx[k]? =some v):w.cell? ⟨B0,k,none⟩=some v:=by
 rw[Lib.cell_of_heap h.box];exact hv
theorem Mid.next{B0:Nat}{bx:Array Value}{l l':List UInt8}{w0 w w':World}(h:Mid B0 bx l w0 w)(hw:JV B0 (B0+1) l' w w'):Mid B0 bx l' w0 w' where
 b:=hw.1
 drawn:=Nat.le_trans h.drawn hw.2.2.2
 below:=h.below.trans hw.2.1
 box:=hw.2.2.1 B0 _ h.box (by simp) (fun c fz e=>by simp at e)
theorem Mid.arg{B0:Nat}{bx:Array Value}{l:List UInt8}{w0 w:World}(h:Mid B0 bx l w0 w)(hB:B0=w0.heap.size){p:Addr}{v:Value}(hv:w0.cell? p=some v):w.cell? p=some v:=by
 subst hB;exact(h.below.cell (World.block_lt_of_cell? _ _ hv)).trans hv
theorem jk1(w:World)(x:Obj):(w.alloc x).heap.size=w.heap.size+1:=by
 show(w.heap.push x).size=_
 simp
theorem jmt(w:World)(x y:Obj):((w.alloc x).alloc y).heap[w.heap.size+1]? =some y:=by
 show((w.heap.push x).push y)[w.heap.size+1]? =some y
 have h:w.heap.size+1=(w.heap.push x).size:=by simp
 rw[h,Array.getElem?_push_size]
theorem jic(w:World)(x y:Obj):((w.alloc x).alloc y).heap[w.heap.size]? =some x:=by
 show((w.heap.push x).push y)[w.heap.size]? =some x
 rw[Array.getElem?_push_lt (by simp)]
 simp
theorem jbb(k x y z:Nat)(hk:k<100)(h9:k≠9)(hx:x<100)(hy:y<100)(hz:z<100)(g o:Nat)(cap:Nat)(v2 v3 v4:Value)(w:World)
  (c0:w.cell? ⟨g,o,none⟩=some (.int .i64 x)) (c1:w.cell? ⟨g,o+1,none⟩=some (.int .i64 y)) (c2:w.cell? ⟨g,o+2,none⟩=some (.int .i64 z)):
  Calls Tryz.prog 118 #[.agg #[.int .i64 k,.slice (some ⟨g,o,none⟩) 3 cap,v2,v3,v4]] w fun e w'=>e= .returned (.string ⟨(Fu k x y z).toArray⟩)∧Below w.heap.size w w'∧w.drawn≤w'.drawn:=by
 have lk:=HF hk;have lx:=HF hx;have ly:=HF hy;have lz:=HF hz;have m0:Mid w.heap.size #[.int .i64 k,.slice (some ⟨g,o,none⟩) 3 cap,v2,v3,v4] [] w ((w.alloc (.cells #[.int .i64 k,.slice (some ⟨g,o,none⟩) 3 cap,v2,v3,v4] 51)).alloc (.cells #[.pointer none,.slice none 0 0] 226)):={
  b:= .inl ⟨by omega,.slice none 0 0,jmt w _ _,⟨rfl,.inl ⟨rfl,rfl⟩⟩,by simp[Value.ownBlock]⟩
  drawn:=At _
  below:=((Below.refl _ w).alloc (At _) _).alloc (by rw[jk1];omega) _
  box:=jic w _ _ }
 have kk: ¬((k:Int)=9):=by omega
 go_enter Tryz.func118,Tryz.ntmps118
 go_wp2_with (go_at_call 187;refine(HJ hk _).mono ?_;rintro e w' ⟨rfl,rfl⟩)
 refine(Iy w.heap.size (w.heap.size+1) [] (Lib.decDigits k) _ m0.b (by simp;omega) m0.below.size).mono ?_
 rintro e W1 ⟨rfl,p1⟩
 have m1:=m0.next p1;clear p1;have e1:W1.cell? ⟨w.heap.size,1,none⟩=some (.slice (some ⟨g,o,none⟩) 3 cap):=m1.cell rfl
 go_wp2
 refine wp_loop_rounds 4 ?_;rw[rounds_succ];have a0:=m1.arg rfl c0
 go_wp2_with (go_at_call 188;refine(Kj w.heap.size (w.heap.size+1) _ _ m1.b (by simp;omega) m1.below.size).mono ?_)
 rintro e W2 ⟨rfl,p1⟩
 have m2:=m1.next p1;clear p1 e1 a0 m0
 go_wp2_with (go_at_call 187;refine(HJ hx _).mono ?_;rintro e w' ⟨rfl,rfl⟩)
 refine(Iy w.heap.size (w.heap.size+1) _ (Lib.decDigits x) _ m2.b (by simp;omega) m2.below.size).mono ?_
 rintro e W3 ⟨rfl,p1⟩
 have m3:=m2.next p1;clear p1 m1 m2;have a1:=m3.arg rfl c1
 go_wp2
 rw[rounds_succ]
 go_wp2_with (go_at_call 188;refine(Kj w.heap.size (w.heap.size+1) _ _ m3.b (by simp;omega) m3.below.size).mono ?_)
 rintro e W4 ⟨rfl,p1⟩
 have m4:=m3.next p1;clear p1 a1
 go_wp2_with (go_at_call 187;refine(HJ hy _).mono ?_;rintro e w' ⟨rfl,rfl⟩)
 refine(Iy w.heap.size (w.heap.size+1) _ (Lib.decDigits y) _ m4.b (by simp;omega) m4.below.size).mono ?_
 rintro e W5 ⟨rfl,p1⟩
 have m5:=m4.next p1;clear p1 m3 m4;have a2:=m5.arg rfl c2
 go_wp2
 rw[rounds_succ]
 go_wp2_with (go_at_call 188;refine(Kj w.heap.size (w.heap.size+1) _ _ m5.b (by simp;omega) m5.below.size).mono ?_)
 rintro e W6 ⟨rfl,p1⟩
 have m6:=m5.next p1;clear p1 a2
 go_wp2_with (go_at_call 187;refine(HJ hz _).mono ?_;rintro e w' ⟨rfl,rfl⟩)
 refine(Iy w.heap.size (w.heap.size+1) _ (Lib.decDigits z) _ m6.b (by simp;omega) m6.below.size).mono ?_
 rintro e W7 ⟨rfl,p1⟩
 have m7:=m6.next p1;clear p1 m5 m6;have e0:W7.cell? ⟨w.heap.size,0,none⟩=some (.int .i64 k):=m7.cell rfl
 go_wp2
 rw[rounds_succ]
 go_wp2_with (go_at_call 190;refine(jiT w.heap.size (w.heap.size+1) _ _ m7.b (by simp) m7.below.size).mono ?_)
 rintro e W8 ⟨rfl,p2,p3⟩
 have b8:=m7.below.trans p2;have d8:=Nat.le_trans m7.drawn p3;clear p2 p3 m7 e0
 go_wp2
 go_ret
 exact⟨by simp[Fu],b8,d8⟩
theorem L3{k x y z:Nat}(hk:k<100)(h9:k≠9)(hx:x<100)(hy:y<100)(hz:z<100)(d1 d2 d3:D):
  CallsF Tryz.prog 118 [.agg [.int .i64 k,.slice 3 [.int .i64 x,.int .i64 y,.int .i64 z],d1,d2,d3]] (.u (.c (.d (.str ⟨(Fu k x y z).toArray⟩)))):=by
 refine⟨⟨Tryz.f118,Tryz.func118,rfl,by decide⟩,fun w Z vals hZ hvals=> ?_⟩
 obtain⟨hl,hv⟩:=hvals
 match vals,hl with
 |[v],_=>
  obtain⟨vs,rfl,hl2,hv2⟩:=hv 0 _ _ rfl rfl
  match vs,hl2 with
  |[a0,a1,a2,a3,a4],_=>
   have r0:=hv2 0 _ _ rfl rfl;have r1:=hv2 1 _ _ rfl rfl;cases r0;cases r1 with
   |slice n cs a c us hs hn hc h1 h2 h3=>
    obtain⟨g,o,sp⟩:=a
    have hsp:sp=none:=hs (by simp)
    subst hsp;have q0:=h1 0 _ rfl;have q1:=h1 1 _ rfl;have q2:=h1 2 _ rfl;have t0:=h3 0 _ rfl;have t1:=h3 1 _ rfl;have t2:=h3 2 _ rfl;generalize us 0=u0 at q0 t0;generalize us 1=u1 at q1 t1;generalize us 2=u2 at q2 t2;cases t0;cases t1;cases t2;refine(jbb k x y z hk h9 hx hy hz g o c a2 a3 a4 w q0 q1 q2).mono ?_;rintro e w' ⟨rfl,hb,hd⟩;refine⟨_,rfl,⟨hb,hd⟩,by simp[R.rows,RU.rows,RC.rows],⟨0,0,0,0,false,false,true⟩,fun ad h=>(by cases h.1),fun k=>⟨RepD.str _,⟨⟨fun i o hi=>(by cases hi),fun i i' o o' hi=>(by cases hi),fun i o hi=>(by cases hi)⟩,fun i b hb=>(by cases hb)⟩⟩⟩
end Go.Va
namespace Go.Va
open Go.Proofs
theorem jgC:Fu 5 3 1 2=[53,32,51,32,49,32,50]:=by simp[Fu,Lib.decDigits]
theorem Zt:CallsF Tryz.prog 118 [.agg [eI 5,.slice 3 [eI 3,eI 1,eI 2],eO,eN,eN]] (.u (.c (.d (.str ⟨#[53,32,51,32,49,32,50]⟩)))):=by
 have h:=L3 (k:=5) (x:=3) (y:=1) (z:=2) (by decide) (by decide) (by decide) (by decide) (by decide) eO eN eN
 rw[jgC]at h
 exact h
theorem jcX:Fu 5 4 0 2=[53,32,52,32,48,32,50]:=by simp[Fu,Lib.decDigits]
theorem jmJ:CallsF Tryz.prog 118 [.agg [eI 5,.slice 3 [eI 4,eI 0,eI 2],eO,eN,eN]] (.u (.c (.d (.str ⟨#[53,32,52,32,48,32,50]⟩)))):=by
 have h:=L3 (k:=5) (x:=4) (y:=0) (z:=2) (by decide) (by decide) (by decide) (by decide) (by decide) eO eN eN
 rw[jcX]at h
 exact h
theorem jeN:CallsF Tryz.prog 27 [.agg [eI 2,.slice 4 [eI 3,eI 4,eI 0,eI 1],eO,eN,eN]] (.u (.c (.d eO))):=Kq rG (by decide+kernel)
theorem jcM:CallsF Tryz.prog 27 [.agg [eI 5,.slice 3 [eI 3,eI 1,eI 2],eO,eN,eN]] (.u (.c (.d eO))):=Kq r0 (by decide+kernel)
theorem jmk:CallsF Tryz.prog 27 [.agg [eI 5,.slice 3 [eI 4,eI 0,eI 2],eO,eN,eN]] (.u (.c (.d eO))):=Kq r1 (by decide+kernel)
theorem jlB:CallsF Tryz.prog 30 [.agg [eI 1,.slice 3 [eI 0,eI 2,eI 4],eO,eN,eN],.agg [eI 2,.slice 4 [eI 3,eI 4,eI 0,eI 1],eO,eN,eN]] (.u (.c (.d eO))):=Dw r2 rG n2 nG false (by decide+kernel)
theorem jcN:CallsF Tryz.prog 30 [.agg [eI 1,.slice 3 [eI 1,eI 2,eI 3],eO,eN,eN],.agg [eI 2,.slice 4 [eI 3,eI 4,eI 0,eI 1],eO,eN,eN]] (.u (.c (.d eO))):=Dw r3 rG n3 nG false (by decide+kernel)
theorem joR:CallsF Tryz.prog 30 [.agg [eI 2,.slice 4 [eI 0,eI 1,eI 3,eI 4],eO,eN,eN],.agg [eI 2,.slice 4 [eI 3,eI 4,eI 0,eI 1],eO,eN,eN]] (.u (.c (.d (.bool true)))):=Dw r4 rG n4 nG true (by decide+kernel)
theorem jkb:CallsF Tryz.prog 30 [.agg [eI 5,.slice 3 [eI 3,eI 1,eI 2],eO,eN,eN],.agg [eI 2,.slice 4 [eI 3,eI 4,eI 0,eI 1],eO,eN,eN]] (.u (.c (.d eO))):=Dw r0 rG n0 nG false (by decide+kernel)
theorem jew:CallsF Tryz.prog 30 [.agg [eI 5,.slice 3 [eI 3,eI 1,eI 2],eO,eN,eN],.agg [eI 5,.slice 3 [eI 3,eI 0,eI 1],eO,eN,eN]] (.u (.c (.d eO))):=Dw r0 rB n0 nB false (by decide+kernel)
theorem jgq:CallsF Tryz.prog 30 [.agg [eI 5,.slice 3 [eI 3,eI 1,eI 2],eO,eN,eN],.agg [eI 5,.slice 3 [eI 3,eI 1,eI 2],eO,eN,eN]] (.u (.c (.d (.bool true)))):=Dw r0 r0 n0 n0 true (by decide+kernel)
theorem jf2:CallsF Tryz.prog 30 [.agg [eI 5,.slice 3 [eI 3,eI 1,eI 2],eO,eN,eN],.agg [eI 5,.slice 3 [eI 4,eI 0,eI 2],eO,eN,eN]] (.u (.c (.d eO))):=Dw r0 r1 n0 n1 false (by decide+kernel)
theorem YF:CallsF Tryz.prog 30 [.agg [eI 5,.slice 3 [eI 4,eI 0,eI 2],eO,eN,eN],.agg [eI 2,.slice 4 [eI 3,eI 4,eI 0,eI 1],eO,eN,eN]] (.u (.c (.d eO))):=Dw r1 rG n1 nG false (by decide+kernel)
theorem ZU:CallsF Tryz.prog 30 [.agg [eI 5,.slice 3 [eI 4,eI 0,eI 2],eO,eN,eN],.agg [eI 5,.slice 3 [eI 3,eI 0,eI 1],eO,eN,eN]] (.u (.c (.d eO))):=Dw r1 rB n1 nB false (by decide+kernel)
theorem jn2:CallsF Tryz.prog 30 [.agg [eI 5,.slice 3 [eI 4,eI 0,eI 2],eO,eN,eN],.agg [eI 5,.slice 3 [eI 4,eI 0,eI 2],eO,eN,eN]] (.u (.c (.d (.bool true)))):=Dw r1 r1 n1 n1 true (by decide+kernel)
theorem jpl:CallsF Tryz.prog 60 [.c (eI 5),.c (.slice 1 [eI 5,.slice 3 [eI 3,eI 1,eI 2],eO,eN,eN]),.agg [eI 1,.slice 3 [eI 1,eI 2,eI 3],eO,eN,eN]] (.tup [.c (.d eN),.c (.d (.bool true))]):=DA (ER r0) r3 (by decide) n3 (by decide) a0 (by decide+kernel) (by decide) (by decide)
theorem jn9:CallsF Tryz.prog 60 [.c (eI 5),.c (.slice 1 [eI 5,.slice 3 [eI 3,eI 1,eI 2],eO,eN,eN]),.agg [eI 4,.slice 4 [eI 1,eI 3,eI 2,eI 3],eO,eN,eN]] (.tup [.c (.d eN),.c (.d (.bool true))]):=DA (ER r0) r6 (by decide) n6 (by decide) a0 (by decide+kernel) (by decide) (by decide)
theorem jiu:CallsF Tryz.prog 60 [.c (eI 5),.c (.slice 1 [eI 5,.slice 3 [eI 3,eI 1,eI 2],eO,eN,eN]),.agg [eI 9,.slice 4 [eI 1,eI 2,eI 1,eI 3],eO,.slice 1 [.int .u16 4],.slice 1 [.int .u16 1]]] (.tup [.c (.d eN),.c (.d (.bool true))]):=DA (ER r0) Ym (by decide) jgv (by decide) a0 (by decide+kernel) (by decide) (by decide)
theorem jhW:CallsF Tryz.prog 60 [.c (eI 5),.c (.slice 1 [eI 5,.slice 3 [eI 3,eI 1,eI 2],eO,eN,eN]),.agg [eI 9,.slice 4 [eI 1,eI 2,eI 2,eI 3],eO,.slice 1 [.int .u16 4],.slice 1 [.int .u16 1]]] (.tup [.c (.d eN),.c (.d (.bool true))]):=DA (ER r0) jo7 (by decide) ja0 (by decide) a0 (by decide+kernel) (by decide) (by decide)
theorem jiO:CallsF Tryz.prog 60 [.c (eI 5),.c (.slice 1 [eI 5,.slice 3 [eI 4,eI 0,eI 2],eO,eN,eN]),.agg [eI 1,.slice 3 [eI 0,eI 2,eI 4],eO,eN,eN]] (.tup [.c (.d eN),.c (.d (.bool true))]):=DA (ER r1) r2 (by decide) n2 (by decide) a1 (by decide+kernel) (by decide) (by decide)
theorem jjV:CallsF Tryz.prog 60 [.c (eI 5),.c (.slice 1 [eI 5,.slice 3 [eI 4,eI 0,eI 2],eO,eN,eN]),.agg [eI 4,.slice 4 [eI 0,eI 4,eI 2,eI 4],eO,eN,eN]] (.tup [.c (.d eN),.c (.d (.bool true))]):=DA (ER r1) r5 (by decide) n5 (by decide) a1 (by decide+kernel) (by decide) (by decide)
theorem jjj:CallsF Tryz.prog 60 [.c (eI 5),.c (.slice 1 [eI 5,.slice 3 [eI 4,eI 0,eI 2],eO,eN,eN]),.agg [eI 9,.slice 4 [eI 0,eI 2,eI 0,eI 4],eO,.slice 1 [.int .u16 4],.slice 1 [.int .u16 1]]] (.tup [.c (.d eN),.c (.d (.bool true))]):=DA (ER r1) r8 (by decide) n8 (by decide) a1 (by decide+kernel) (by decide) (by decide)
theorem jiL:CallsF Tryz.prog 60 [.c (eI 5),.c (.slice 1 [eI 5,.slice 3 [eI 4,eI 0,eI 2],eO,eN,eN]),.agg [eI 9,.slice 4 [eI 0,eI 2,eI 2,eI 4],eO,.slice 1 [.int .u16 4],.slice 1 [.int .u16 1]]] (.tup [.c (.d eN),.c (.d (.bool true))]):=DA (ER r1) r9 (by decide) n9 (by decide) a1 (by decide+kernel) (by decide) (by decide)
theorem Yj:CallsF Tryz.prog 60 [.c (eI 6),.c (.slice 2 [eI 5,.slice 3 [eI 3,eI 1,eI 2],eO,eN,eN,eI 5,.slice 3 [eI 4,eI 0,eI 2],eO,eN,eN]),.agg [eI 2,.slice 4 [eI 0,eI 1,eI 3,eI 4],eO,eN,eN]] (.tup [.c (.d eN),.c (.d (.bool true))]):=DA (RG r0 r1) r4 (by decide) n4 (by decide) Xk (by decide+kernel) (by decide) (by decide)
theorem jlu:CallsF Tryz.prog 60 [.c (eI 6),.c (.slice 2 [eI 5,.slice 3 [eI 3,eI 1,eI 2],eO,eN,eN,eI 5,.slice 3 [eI 4,eI 0,eI 2],eO,eN,eN]),.agg [eI 9,.slice 4 [eI 0,eI 1,eI 3,eI 4],eO,.slice 1 [.int .u16 4],.slice 1 [.int .u16 1]]] (.tup [.c (.d eN),.c (.d (.bool true))]):=DA (RG r0 r1) r7 (by decide) n7 (by decide) Xk (by decide+kernel) (by decide) (by decide)
theorem jeb:CallsF Tryz.prog 72 [.agg [eI 5,.slice 3 [eI 3,eI 1,eI 2],eO,eN,eN]] (.u (.agg [.d (eI 5),.d (.slice 3 [eI 3,eI 1,eI 2]),.d eO,.d eN,.d eN])):=TO r0 n0
theorem jdg:CallsF Tryz.prog 72 [.agg [eI 5,.slice 3 [eI 4,eI 0,eI 2],eO,eN,eN]] (.u (.agg [.d (eI 5),.d (.slice 3 [eI 4,eI 0,eI 2]),.d eO,.d eN,.d eN])):=TO r1 n1
theorem jof:CallsF Tryz.prog 118 [.agg [eI 5,.slice 3 [eI 3,eI 1,eI 2],eO,eN,eN]] (.u (.c (.d (.str ⟨#[53,32,51,32,49,32,50]⟩)))):=Zt
theorem ZO:CallsF Tryz.prog 118 [.agg [eI 5,.slice 3 [eI 4,eI 0,eI 2],eO,eN,eN]] (.u (.c (.d (.str ⟨#[53,32,52,32,48,32,50]⟩)))):=jmJ
theorem Z9:CallsF Tryz.prog 124 [.agg [eO,.slice 1 [.int .u16 1],.slice 1 [.int .u16 2]],.agg [eO,.slice 1 [.int .u16 1],.slice 1 [.int .u16 2]]] (.u (.c (.d (.bool true)))):=MY false false [1] [2] [1] [2] (Gx rfl) (by decide) (Gx rfl) (by decide) (Gx rfl) (by decide) (Gx rfl) (by decide) (by decide) (by decide)
def XR:Tbl:=[(27,[([.agg [eI 2,.slice 4 [eI 3,eI 4,eI 0,eI 1],eO,eN,eN]],.u (.c (.d eO))),([.agg [eI 5,.slice 3 [eI 3,eI 1,eI 2],eO,eN,eN]],.u (.c (.d eO))),([.agg [eI 5,.slice 3 [eI 4,eI 0,eI 2],eO,eN,eN]],.u (.c (.d eO)))]),
 (30,[([.agg [eI 1,.slice 3 [eI 0,eI 2,eI 4],eO,eN,eN],.agg [eI 2,.slice 4 [eI 3,eI 4,eI 0,eI 1],eO,eN,eN]],.u (.c (.d eO))),([.agg [eI 1,.slice 3 [eI 1,eI 2,eI 3],eO,eN,eN],.agg [eI 2,.slice 4 [eI 3,eI 4,eI 0,eI 1],eO,eN,eN]],.u (.c (.d eO))),([.agg [eI 2,.slice 4 [eI 0,eI 1,eI 3,eI 4],eO,eN,eN],.agg [eI 2,.slice 4 [eI 3,eI 4,eI 0,eI 1],eO,eN,eN]],.u (.c (.d (.bool true)))),([.agg [eI 5,.slice 3 [eI 3,eI 1,eI 2],eO,eN,eN],.agg [eI 2,.slice 4 [eI 3,eI 4,eI 0,eI 1],eO,eN,eN]],.u (.c (.d eO))),([.agg [eI 5,.slice 3 [eI 3,eI 1,eI 2],eO,eN,eN],.agg [eI 5,.slice 3 [eI 3,eI 0,eI 1],eO,eN,eN]],.u (.c (.d eO))),([.agg [eI 5,.slice 3 [eI 3,eI 1,eI 2],eO,eN,eN],.agg [eI 5,.slice 3 [eI 3,eI 1,eI 2],eO,eN,eN]],.u (.c (.d (.bool true)))),([.agg [eI 5,.slice 3 [eI 3,eI 1,eI 2],eO,eN,eN],.agg [eI 5,.slice 3 [eI 4,eI 0,eI 2],eO,eN,eN]],.u (.c (.d eO))),([.agg [eI 5,.slice 3 [eI 4,eI 0,eI 2],eO,eN,eN],.agg [eI 2,.slice 4 [eI 3,eI 4,eI 0,eI 1],eO,eN,eN]],.u (.c (.d eO))),([.agg [eI 5,.slice 3 [eI 4,eI 0,eI 2],eO,eN,eN],.agg [eI 5,.slice 3 [eI 3,eI 0,eI 1],eO,eN,eN]],.u (.c (.d eO))),([.agg [eI 5,.slice 3 [eI 4,eI 0,eI 2],eO,eN,eN],.agg [eI 5,.slice 3 [eI 4,eI 0,eI 2],eO,eN,eN]],.u (.c (.d (.bool true))))]),
 (60,[([.c (eI 5),.c (.slice 1 [eI 5,.slice 3 [eI 3,eI 1,eI 2],eO,eN,eN]),.agg [eI 1,.slice 3 [eI 1,eI 2,eI 3],eO,eN,eN]],.tup [.c (.d eN),.c (.d (.bool true))]),([.c (eI 5),.c (.slice 1 [eI 5,.slice 3 [eI 3,eI 1,eI 2],eO,eN,eN]),.agg [eI 4,.slice 4 [eI 1,eI 3,eI 2,eI 3],eO,eN,eN]],.tup [.c (.d eN),.c (.d (.bool true))]),([.c (eI 5),.c (.slice 1 [eI 5,.slice 3 [eI 3,eI 1,eI 2],eO,eN,eN]),.agg [eI 9,.slice 4 [eI 1,eI 2,eI 1,eI 3],eO,.slice 1 [.int .u16 4],.slice 1 [.int .u16 1]]],.tup [.c (.d eN),.c (.d (.bool true))]),([.c (eI 5),.c (.slice 1 [eI 5,.slice 3 [eI 3,eI 1,eI 2],eO,eN,eN]),.agg [eI 9,.slice 4 [eI 1,eI 2,eI 2,eI 3],eO,.slice 1 [.int .u16 4],.slice 1 [.int .u16 1]]],.tup [.c (.d eN),.c (.d (.bool true))]),([.c (eI 5),.c (.slice 1 [eI 5,.slice 3 [eI 4,eI 0,eI 2],eO,eN,eN]),.agg [eI 1,.slice 3 [eI 0,eI 2,eI 4],eO,eN,eN]],.tup [.c (.d eN),.c (.d (.bool true))]),([.c (eI 5),.c (.slice 1 [eI 5,.slice 3 [eI 4,eI 0,eI 2],eO,eN,eN]),.agg [eI 4,.slice 4 [eI 0,eI 4,eI 2,eI 4],eO,eN,eN]],.tup [.c (.d eN),.c (.d (.bool true))]),([.c (eI 5),.c (.slice 1 [eI 5,.slice 3 [eI 4,eI 0,eI 2],eO,eN,eN]),.agg [eI 9,.slice 4 [eI 0,eI 2,eI 0,eI 4],eO,.slice 1 [.int .u16 4],.slice 1 [.int .u16 1]]],.tup [.c (.d eN),.c (.d (.bool true))]),([.c (eI 5),.c (.slice 1 [eI 5,.slice 3 [eI 4,eI 0,eI 2],eO,eN,eN]),.agg [eI 9,.slice 4 [eI 0,eI 2,eI 2,eI 4],eO,.slice 1 [.int .u16 4],.slice 1 [.int .u16 1]]],.tup [.c (.d eN),.c (.d (.bool true))]),([.c (eI 6),.c (.slice 2 [eI 5,.slice 3 [eI 3,eI 1,eI 2],eO,eN,eN,eI 5,.slice 3 [eI 4,eI 0,eI 2],eO,eN,eN]),.agg [eI 2,.slice 4 [eI 0,eI 1,eI 3,eI 4],eO,eN,eN]],.tup [.c (.d eN),.c (.d (.bool true))]),([.c (eI 6),.c (.slice 2 [eI 5,.slice 3 [eI 3,eI 1,eI 2],eO,eN,eN,eI 5,.slice 3 [eI 4,eI 0,eI 2],eO,eN,eN]),.agg [eI 9,.slice 4 [eI 0,eI 1,eI 3,eI 4],eO,.slice 1 [.int .u16 4],.slice 1 [.int .u16 1]]],.tup [.c (.d eN),.c (.d (.bool true))])]),
 (72,[([.agg [eI 5,.slice 3 [eI 3,eI 1,eI 2],eO,eN,eN]],.u (.agg [.d (eI 5),.d (.slice 3 [eI 3,eI 1,eI 2]),.d eO,.d eN,.d eN])),([.agg [eI 5,.slice 3 [eI 4,eI 0,eI 2],eO,eN,eN]],.u (.agg [.d (eI 5),.d (.slice 3 [eI 4,eI 0,eI 2]),.d eO,.d eN,.d eN]))]),
 (118,[([.agg [eI 5,.slice 3 [eI 3,eI 1,eI 2],eO,eN,eN]],.u (.c (.d (.str ⟨#[53,32,51,32,49,32,50]⟩)))),([.agg [eI 5,.slice 3 [eI 4,eI 0,eI 2],eO,eN,eN]],.u (.c (.d (.str ⟨#[53,32,52,32,48,32,50]⟩))))]),
 (124,[([.agg [eO,.slice 1 [.int .u16 1],.slice 1 [.int .u16 2]],.agg [eO,.slice 1 [.int .u16 1],.slice 1 [.int .u16 2]]],.u (.c (.d (.bool true))))])]
def ev0:Tb2:=⟨XR,[]⟩
theorem DO:ev0.Ok Tryz.prog:=⟨Tbl.ok_cons ⟨jeN,jcM,jmk,trivial⟩ (Tbl.ok_cons ⟨jlB,jcN,joR,jkb,jew,jgq,jf2,YF,ZU,jn2,trivial⟩ (Tbl.ok_cons ⟨jpl,jn9,jiu,jhW,jiO,jjV,jjj,jiL,Yj,jlu,trivial⟩ (Tbl.ok_cons ⟨jeb,jdg,trivial⟩ (Tbl.ok_cons ⟨jof,ZO,trivial⟩ (Tbl.ok_cons ⟨Z9,trivial⟩ (Tbl.ok_nil)))))),TblA.ok_nil⟩
end Go.Va
