/- a part of the proof -/
import Derived.Test.YtkajmpgbnbikiaaGreatDoorMbp
import Derived.Test.YtkajmpgbnbikiaaGreatDoorMbn
import Derived.WalkKit
import Derived.BigCall
import Derived.Test.YtkajmpgbnbikiaaGreatDoorMbo
set_option linter.all false
set_option maxHeartbeats 4000000
set_option maxRecDepth 1000000
namespace Go.Va
open Go.Proofs Go.RowKit
def GM(k x y z:Nat):List UInt8:=Lib.decDigits k++([32]++Lib.decDigits x)++([32]++Lib.decDigits y)++([32]++Lib.decDigits z)
theorem Kj{u:Nat}(h:u<100):(Lib.decDigits u).length≤2:=by
 unfold Lib.decDigits;split
 ·simp
 ·unfold Lib.decDigits;split
  ·simp
  ·omega
theorem J8{i:Nat}(hi:i<100)(w:World):Calls Tryz.prog 187 #[.int .i64 i] w fun e w'=>e= .returned (.string ⟨(Lib.decDigits i).toArray⟩)∧w'=w:=Any.strconv_Itoa_small Tryz.laysIt i hi w
structure Mid (B0:Nat) (bx:Array Value) (l:List UInt8) (w0 w:World):Prop where
 b:HP B0 (B0+1) l w
 drawn:w0.drawn≤w.drawn
 below:Below B0 w0 w
 box:w.heap[B0]? =some (.cells bx 51 (0,0))
theorem Mid.cell{B0:Nat}{bx:Array Value}{l:List UInt8}{w0 w:World}(h:Mid B0 bx l w0 w){k:Nat}{v:Value}(hv:bx[k]? =some v):w.cell? ⟨B0,k,none⟩=some v:=by
 rw[Lib.cell_of_heap h.box];exact hv
theorem Mid.next{B0:Nat}{bx:Array Value}{l l':List UInt8}{w0 w w':World}(h:Mid B0 bx l w0 w)(hw:Nz B0 (B0+1) l' w w'):Mid B0 bx l' w0 w' where
 b:=hw.1
 drawn:=Nat.le_trans h.drawn hw.2.2.2
 below:=h.below.trans hw.2.1
 box:=hw.2.2.1 B0 _ h.box (by simp) (fun c fz e=>by simp at e)
theorem Mid.arg{B0:Nat}{bx:Array Value}{l:List UInt8}{w0 w:World}(h:Mid B0 bx l w0 w)(hB:B0=w0.heap.size){p:Addr}{v:Value}(hv:w0.cell? p=some v):w.cell? p=some v:=by
 subst hB;exact(h.below.cell (World.block_lt_of_cell? _ _ hv)).trans hv
theorem jix(w:World)(x:Obj):(w.alloc x).heap.size=w.heap.size+1:=by
 show(w.heap.push x).size=_
 simp
theorem jcr(w:World)(x y:Obj):((w.alloc x).alloc y).heap[w.heap.size+1]? =some y:=by
 show((w.heap.push x).push y)[w.heap.size+1]? =some y
 have h:w.heap.size+1=(w.heap.push x).size:=by simp
 rw[h,Array.getElem?_push_size]
theorem jbr(w:World)(x y:Obj):((w.alloc x).alloc y).heap[w.heap.size]? =some x:=by
 show((w.heap.push x).push y)[w.heap.size]? =some x
 rw[Array.getElem?_push_lt (by simp)]
 simp
theorem jhZ(k x y z:Nat)(hk:k<100)(h9:k≠9)(hx:x<100)(hy:y<100)(hz:z<100)(g o:Nat)(cap:Nat)(v2 v3 v4:Value)(w:World)
  (c0:w.cell? ⟨g,o,none⟩=some (.int .i64 x)) (c1:w.cell? ⟨g,o+1,none⟩=some (.int .i64 y)) (c2:w.cell? ⟨g,o+2,none⟩=some (.int .i64 z)):
  Calls Tryz.prog 118 #[.agg #[.int .i64 k,.slice (some ⟨g,o,none⟩) 3 cap,v2,v3,v4]] w fun e w'=>e= .returned (.string ⟨(GM k x y z).toArray⟩)∧Below w.heap.size w w'∧w.drawn≤w'.drawn:=by
 have lk:=Kj hk;have lx:=Kj hx;have ly:=Kj hy;have lz:=Kj hz;have m0:Mid w.heap.size #[.int .i64 k,.slice (some ⟨g,o,none⟩) 3 cap,v2,v3,v4] [] w ((w.alloc (.cells #[.int .i64 k,.slice (some ⟨g,o,none⟩) 3 cap,v2,v3,v4] 51)).alloc (.cells #[.pointer none,.slice none 0 0] 226)):={
  b:= .inl ⟨by omega,.slice none 0 0,jcr w _ _,⟨rfl,.inl ⟨rfl,rfl⟩⟩,by simp[Value.ownBlock]⟩
  drawn:=Az _
  below:=((Below.refl _ w).alloc (Az _) _).alloc (by rw[jix];omega) _
  box:=jbr w _ _ }
 have kk: ¬((k:Int)=9):=by omega
 go_enter Tryz.func118,Tryz.ntmps118
 go_wp2_with (go_at_call 187;refine(J8 hk _).mono ?_;rintro e w' ⟨rfl,rfl⟩)
 refine(J7 w.heap.size (w.heap.size+1) [] (Lib.decDigits k) _ m0.b (by simp;omega) m0.below.size).mono ?_
 rintro e W1 ⟨rfl,p1⟩
 have m1:=m0.next p1;clear p1;have e1:W1.cell? ⟨w.heap.size,1,none⟩=some (.slice (some ⟨g,o,none⟩) 3 cap):=m1.cell rfl
 go_wp2
 refine wp_loop_rounds 4 ?_;rw[rounds_succ];have a0:=m1.arg rfl c0
 go_wp2_with (go_at_call 188;refine(MP w.heap.size (w.heap.size+1) _ _ m1.b (by simp;omega) m1.below.size).mono ?_)
 rintro e W2 ⟨rfl,p1⟩
 have m2:=m1.next p1;clear p1 e1 a0 m0
 go_wp2_with (go_at_call 187;refine(J8 hx _).mono ?_;rintro e w' ⟨rfl,rfl⟩)
 refine(J7 w.heap.size (w.heap.size+1) _ (Lib.decDigits x) _ m2.b (by simp;omega) m2.below.size).mono ?_
 rintro e W3 ⟨rfl,p1⟩
 have m3:=m2.next p1;clear p1 m1 m2;have a1:=m3.arg rfl c1
 go_wp2
 rw[rounds_succ]
 go_wp2_with (go_at_call 188;refine(MP w.heap.size (w.heap.size+1) _ _ m3.b (by simp;omega) m3.below.size).mono ?_)
 rintro e W4 ⟨rfl,p1⟩
 have m4:=m3.next p1;clear p1 a1
 go_wp2_with (go_at_call 187;refine(J8 hy _).mono ?_;rintro e w' ⟨rfl,rfl⟩)
 refine(J7 w.heap.size (w.heap.size+1) _ (Lib.decDigits y) _ m4.b (by simp;omega) m4.below.size).mono ?_
 rintro e W5 ⟨rfl,p1⟩
 have m5:=m4.next p1;clear p1 m3 m4;have a2:=m5.arg rfl c2
 go_wp2
 rw[rounds_succ]
 go_wp2_with (go_at_call 188;refine(MP w.heap.size (w.heap.size+1) _ _ m5.b (by simp;omega) m5.below.size).mono ?_)
 rintro e W6 ⟨rfl,p1⟩
 have m6:=m5.next p1;clear p1 a2
 go_wp2_with (go_at_call 187;refine(J8 hz _).mono ?_;rintro e w' ⟨rfl,rfl⟩)
 refine(J7 w.heap.size (w.heap.size+1) _ (Lib.decDigits z) _ m6.b (by simp;omega) m6.below.size).mono ?_
 rintro e W7 ⟨rfl,p1⟩
 have m7:=m6.next p1;clear p1 m5 m6;have e0:W7.cell? ⟨w.heap.size,0,none⟩=some (.int .i64 k):=m7.cell rfl
 go_wp2
 rw[rounds_succ]
 go_wp2_with (go_at_call 190;refine(jg7 w.heap.size (w.heap.size+1) _ _ m7.b (by simp) m7.below.size).mono ?_)
 rintro e W8 ⟨rfl,p2,p3⟩
 have b8:=m7.below.trans p2;have d8:=Nat.le_trans m7.drawn p3;clear p2 p3 m7 e0
 go_wp2
 go_ret
 exact⟨by simp[GM],b8,d8⟩
theorem P2{k x y z:Nat}(hk:k<100)(h9:k≠9)(hx:x<100)(hy:y<100)(hz:z<100)(d1 d2 d3:D):
  CallsF Tryz.prog 118 [.agg [.int .i64 k,.slice 3 [.int .i64 x,.int .i64 y,.int .i64 z],d1,d2,d3]] (.u (.c (.d (.str ⟨(GM k x y z).toArray⟩)))):=by
 refine⟨⟨Tryz.f118,Tryz.func118,rfl,by decide⟩,fun w Z vals hZ hvals=> ?_⟩
 obtain⟨hl,hv⟩:=hvals
 match vals,hl with
 |[v],_=>
  obtain⟨vs,rfl,hl2,hv2⟩:=hv 0 _ _ rfl rfl
  match vs,hl2 with
  |[a0,a1,a2,a3,a4],_=>
   have r0:=hv2 0 _ _ rfl rfl;have r1:=hv2 1 _ _ rfl rfl;cases r0;cases r1 with
   |slice n cs a c us hs hn hc h1 h2 h3=>
    obtain⟨g,o,sp⟩:=a
    have hsp:sp=none:=hs (by simp)
    subst hsp;have q0:=h1 0 _ rfl;have q1:=h1 1 _ rfl;have q2:=h1 2 _ rfl;have t0:=h3 0 _ rfl;have t1:=h3 1 _ rfl;have t2:=h3 2 _ rfl;generalize us 0=u0 at q0 t0;generalize us 1=u1 at q1 t1;generalize us 2=u2 at q2 t2;cases t0;cases t1;cases t2;refine(jhZ k x y z hk h9 hx hy hz g o c a2 a3 a4 w q0 q1 q2).mono ?_;rintro e w' ⟨rfl,hb,hd⟩;refine⟨_,rfl,⟨hb,hd⟩,by simp[R.rows,RU.rows,RC.rows],⟨0,0,0,0,false,false,true⟩,fun ad h=>(by cases h.1),fun k=>⟨RepD.str _,⟨⟨fun i o hi=>(by cases hi),fun i i' o o' hi=>(by cases hi),fun i o hi=>(by cases hi)⟩,fun i b hb=>(by cases hb)⟩⟩⟩
end Go.Va
namespace Go.Va
open Go.Proofs
theorem jc1:GM 5 3 1 2=[53,32,51,32,49,32,50]:=by simp[GM,Lib.decDigits]
theorem jae:CallsF Tryz.prog 118 [.agg [eI 5,.slice 3 [eI 3,eI 1,eI 2],eO,eN,eN]] (.u (.c (.d (.str ⟨#[53,32,51,32,49,32,50]⟩)))):=by
 have h:=P2 (k:=5) (x:=3) (y:=1) (z:=2) (by decide) (by decide) (by decide) (by decide) (by decide) eO eN eN
 rw[jc1]at h
 exact h
theorem Yk:GM 5 4 0 2=[53,32,52,32,48,32,50]:=by simp[GM,Lib.decDigits]
theorem Wd:CallsF Tryz.prog 118 [.agg [eI 5,.slice 3 [eI 4,eI 0,eI 2],eO,eN,eN]] (.u (.c (.d (.str ⟨#[53,32,52,32,48,32,50]⟩)))):=by
 have h:=P2 (k:=5) (x:=4) (y:=0) (z:=2) (by decide) (by decide) (by decide) (by decide) (by decide) eO eN eN
 rw[Yk]at h
 exact h
theorem Xz:CallsF Tryz.prog 27 [.agg [eI 2,.slice 4 [eI 3,eI 4,eI 0,eI 1],eO,eN,eN]] (.u (.c (.d eO))):=LY rG (by decide+kernel)
theorem Zl:CallsF Tryz.prog 27 [.agg [eI 5,.slice 3 [eI 3,eI 1,eI 2],eO,eN,eN]] (.u (.c (.d eO))):=LY r0 (by decide+kernel)
theorem VZ:CallsF Tryz.prog 27 [.agg [eI 5,.slice 3 [eI 4,eI 0,eI 2],eO,eN,eN]] (.u (.c (.d eO))):=LY r1 (by decide+kernel)
theorem Z4:CallsF Tryz.prog 30 [.agg [eI 1,.slice 3 [eI 0,eI 2,eI 4],eO,eN,eN],.agg [eI 2,.slice 4 [eI 3,eI 4,eI 0,eI 1],eO,eN,eN]] (.u (.c (.d eO))):=El r2 rG n2 nG false (by decide+kernel)
theorem ZY:CallsF Tryz.prog 30 [.agg [eI 1,.slice 3 [eI 1,eI 2,eI 3],eO,eN,eN],.agg [eI 2,.slice 4 [eI 3,eI 4,eI 0,eI 1],eO,eN,eN]] (.u (.c (.d eO))):=El r3 rG n3 nG false (by decide+kernel)
theorem Wk:CallsF Tryz.prog 30 [.agg [eI 2,.slice 4 [eI 0,eI 1,eI 3,eI 4],eO,eN,eN],.agg [eI 2,.slice 4 [eI 3,eI 4,eI 0,eI 1],eO,eN,eN]] (.u (.c (.d (.bool true)))):=El r4 rG n4 nG true (by decide+kernel)
theorem YX:CallsF Tryz.prog 30 [.agg [eI 5,.slice 3 [eI 3,eI 1,eI 2],eO,eN,eN],.agg [eI 2,.slice 4 [eI 3,eI 4,eI 0,eI 1],eO,eN,eN]] (.u (.c (.d eO))):=El r0 rG n0 nG false (by decide+kernel)
theorem jau:CallsF Tryz.prog 30 [.agg [eI 5,.slice 3 [eI 3,eI 1,eI 2],eO,eN,eN],.agg [eI 5,.slice 3 [eI 3,eI 0,eI 1],eO,eN,eN]] (.u (.c (.d eO))):=El r0 rB n0 nB false (by decide+kernel)
theorem jhL:CallsF Tryz.prog 30 [.agg [eI 5,.slice 3 [eI 3,eI 1,eI 2],eO,eN,eN],.agg [eI 5,.slice 3 [eI 3,eI 1,eI 2],eO,eN,eN]] (.u (.c (.d (.bool true)))):=El r0 r0 n0 n0 true (by decide+kernel)
theorem jii:CallsF Tryz.prog 30 [.agg [eI 5,.slice 3 [eI 3,eI 1,eI 2],eO,eN,eN],.agg [eI 5,.slice 3 [eI 4,eI 0,eI 2],eO,eN,eN]] (.u (.c (.d eO))):=El r0 r1 n0 n1 false (by decide+kernel)
theorem jcW:CallsF Tryz.prog 30 [.agg [eI 5,.slice 3 [eI 4,eI 0,eI 2],eO,eN,eN],.agg [eI 2,.slice 4 [eI 3,eI 4,eI 0,eI 1],eO,eN,eN]] (.u (.c (.d eO))):=El r1 rG n1 nG false (by decide+kernel)
theorem jh4:CallsF Tryz.prog 30 [.agg [eI 5,.slice 3 [eI 4,eI 0,eI 2],eO,eN,eN],.agg [eI 5,.slice 3 [eI 3,eI 0,eI 1],eO,eN,eN]] (.u (.c (.d eO))):=El r1 rB n1 nB false (by decide+kernel)
theorem jfX:CallsF Tryz.prog 30 [.agg [eI 5,.slice 3 [eI 4,eI 0,eI 2],eO,eN,eN],.agg [eI 5,.slice 3 [eI 4,eI 0,eI 2],eO,eN,eN]] (.u (.c (.d (.bool true)))):=El r1 r1 n1 n1 true (by decide+kernel)
theorem jcc:CallsF Tryz.prog 60 [.c (eI 5),.c (.slice 1 [eI 5,.slice 3 [eI 3,eI 1,eI 2],eO,eN,eN]),.agg [eI 1,.slice 3 [eI 1,eI 2,eI 3],eO,eN,eN]] (.tup [.c (.d eN),.c (.d (.bool true))]):=Ey (Fl r0) r3 (by decide) n3 (by decide) a0 (by decide+kernel) (by decide) (by decide)
theorem jhV:CallsF Tryz.prog 60 [.c (eI 5),.c (.slice 1 [eI 5,.slice 3 [eI 3,eI 1,eI 2],eO,eN,eN]),.agg [eI 4,.slice 4 [eI 1,eI 3,eI 2,eI 3],eO,eN,eN]] (.tup [.c (.d eN),.c (.d (.bool true))]):=Ey (Fl r0) r6 (by decide) n6 (by decide) a0 (by decide+kernel) (by decide) (by decide)
theorem jfL:CallsF Tryz.prog 60 [.c (eI 5),.c (.slice 1 [eI 5,.slice 3 [eI 3,eI 1,eI 2],eO,eN,eN]),.agg [eI 9,.slice 4 [eI 1,eI 2,eI 1,eI 3],eO,.slice 1 [.int .u16 4],.slice 1 [.int .u16 1]]] (.tup [.c (.d eN),.c (.d (.bool true))]):=Ey (Fl r0) jgS (by decide) Vi (by decide) a0 (by decide+kernel) (by decide) (by decide)
theorem Ys:CallsF Tryz.prog 60 [.c (eI 5),.c (.slice 1 [eI 5,.slice 3 [eI 3,eI 1,eI 2],eO,eN,eN]),.agg [eI 9,.slice 4 [eI 1,eI 2,eI 2,eI 3],eO,.slice 1 [.int .u16 4],.slice 1 [.int .u16 1]]] (.tup [.c (.d eN),.c (.d (.bool true))]):=Ey (Fl r0) jgE (by decide) jhF (by decide) a0 (by decide+kernel) (by decide) (by decide)
theorem jbU:CallsF Tryz.prog 60 [.c (eI 5),.c (.slice 1 [eI 5,.slice 3 [eI 4,eI 0,eI 2],eO,eN,eN]),.agg [eI 1,.slice 3 [eI 0,eI 2,eI 4],eO,eN,eN]] (.tup [.c (.d eN),.c (.d (.bool true))]):=Ey (Fl r1) r2 (by decide) n2 (by decide) a1 (by decide+kernel) (by decide) (by decide)
theorem jjA:CallsF Tryz.prog 60 [.c (eI 5),.c (.slice 1 [eI 5,.slice 3 [eI 4,eI 0,eI 2],eO,eN,eN]),.agg [eI 4,.slice 4 [eI 0,eI 4,eI 2,eI 4],eO,eN,eN]] (.tup [.c (.d eN),.c (.d (.bool true))]):=Ey (Fl r1) r5 (by decide) n5 (by decide) a1 (by decide+kernel) (by decide) (by decide)
theorem jjQ:CallsF Tryz.prog 60 [.c (eI 5),.c (.slice 1 [eI 5,.slice 3 [eI 4,eI 0,eI 2],eO,eN,eN]),.agg [eI 9,.slice 4 [eI 0,eI 2,eI 0,eI 4],eO,.slice 1 [.int .u16 4],.slice 1 [.int .u16 1]]] (.tup [.c (.d eN),.c (.d (.bool true))]):=Ey (Fl r1) r8 (by decide) n8 (by decide) a1 (by decide+kernel) (by decide) (by decide)
theorem XP:CallsF Tryz.prog 60 [.c (eI 5),.c (.slice 1 [eI 5,.slice 3 [eI 4,eI 0,eI 2],eO,eN,eN]),.agg [eI 9,.slice 4 [eI 0,eI 2,eI 2,eI 4],eO,.slice 1 [.int .u16 4],.slice 1 [.int .u16 1]]] (.tup [.c (.d eN),.c (.d (.bool true))]):=Ey (Fl r1) r9 (by decide) n9 (by decide) a1 (by decide+kernel) (by decide) (by decide)
theorem jif:CallsF Tryz.prog 60 [.c (eI 6),.c (.slice 2 [eI 5,.slice 3 [eI 3,eI 1,eI 2],eO,eN,eN,eI 5,.slice 3 [eI 4,eI 0,eI 2],eO,eN,eN]),.agg [eI 2,.slice 4 [eI 0,eI 1,eI 3,eI 4],eO,eN,eN]] (.tup [.c (.d eN),.c (.d (.bool true))]):=Ey (N1 r0 r1) r4 (by decide) n4 (by decide) NP (by decide+kernel) (by decide) (by decide)
theorem jhK:CallsF Tryz.prog 60 [.c (eI 6),.c (.slice 2 [eI 5,.slice 3 [eI 3,eI 1,eI 2],eO,eN,eN,eI 5,.slice 3 [eI 4,eI 0,eI 2],eO,eN,eN]),.agg [eI 9,.slice 4 [eI 0,eI 1,eI 3,eI 4],eO,.slice 1 [.int .u16 4],.slice 1 [.int .u16 1]]] (.tup [.c (.d eN),.c (.d (.bool true))]):=Ey (N1 r0 r1) r7 (by decide) n7 (by decide) NP (by decide+kernel) (by decide) (by decide)
theorem Zm:CallsF Tryz.prog 72 [.agg [eI 5,.slice 3 [eI 3,eI 1,eI 2],eO,eN,eN]] (.u (.agg [.d (eI 5),.d (.slice 3 [eI 3,eI 1,eI 2]),.d eO,.d eN,.d eN])):=P8 r0 n0
theorem jiH:CallsF Tryz.prog 72 [.agg [eI 5,.slice 3 [eI 4,eI 0,eI 2],eO,eN,eN]] (.u (.agg [.d (eI 5),.d (.slice 3 [eI 4,eI 0,eI 2]),.d eO,.d eN,.d eN])):=P8 r1 n1
theorem jf3:CallsF Tryz.prog 118 [.agg [eI 5,.slice 3 [eI 3,eI 1,eI 2],eO,eN,eN]] (.u (.c (.d (.str ⟨#[53,32,51,32,49,32,50]⟩)))):=jae
theorem Yt:CallsF Tryz.prog 118 [.agg [eI 5,.slice 3 [eI 4,eI 0,eI 2],eO,eN,eN]] (.u (.c (.d (.str ⟨#[53,32,52,32,48,32,50]⟩)))):=Wd
theorem jaq:CallsF Tryz.prog 124 [.agg [eO,.slice 1 [.int .u16 1],.slice 1 [.int .u16 2]],.agg [eO,.slice 1 [.int .u16 1],.slice 1 [.int .u16 2]]] (.u (.c (.d (.bool true)))):=MY false false [1] [2] [1] [2] (Hg rfl) (by decide) (Hg rfl) (by decide) (Hg rfl) (by decide) (Hg rfl) (by decide) (by decide) (by decide)
def X7:Tbl:=[(27,[([.agg [eI 2,.slice 4 [eI 3,eI 4,eI 0,eI 1],eO,eN,eN]],.u (.c (.d eO))),([.agg [eI 5,.slice 3 [eI 3,eI 1,eI 2],eO,eN,eN]],.u (.c (.d eO))),([.agg [eI 5,.slice 3 [eI 4,eI 0,eI 2],eO,eN,eN]],.u (.c (.d eO)))]),
 (30,[([.agg [eI 1,.slice 3 [eI 0,eI 2,eI 4],eO,eN,eN],.agg [eI 2,.slice 4 [eI 3,eI 4,eI 0,eI 1],eO,eN,eN]],.u (.c (.d eO))),([.agg [eI 1,.slice 3 [eI 1,eI 2,eI 3],eO,eN,eN],.agg [eI 2,.slice 4 [eI 3,eI 4,eI 0,eI 1],eO,eN,eN]],.u (.c (.d eO))),([.agg [eI 2,.slice 4 [eI 0,eI 1,eI 3,eI 4],eO,eN,eN],.agg [eI 2,.slice 4 [eI 3,eI 4,eI 0,eI 1],eO,eN,eN]],.u (.c (.d (.bool true)))),([.agg [eI 5,.slice 3 [eI 3,eI 1,eI 2],eO,eN,eN],.agg [eI 2,.slice 4 [eI 3,eI 4,eI 0,eI 1],eO,eN,eN]],.u (.c (.d eO))),([.agg [eI 5,.slice 3 [eI 3,eI 1,eI 2],eO,eN,eN],.agg [eI 5,.slice 3 [eI 3,eI 0,eI 1],eO,eN,eN]],.u (.c (.d eO))),([.agg [eI 5,.slice 3 [eI 3,eI 1,eI 2],eO,eN,eN],.agg [eI 5,.slice 3 [eI 3,eI 1,eI 2],eO,eN,eN]],.u (.c (.d (.bool true)))),([.agg [eI 5,.slice 3 [eI 3,eI 1,eI 2],eO,eN,eN],.agg [eI 5,.slice 3 [eI 4,eI 0,eI 2],eO,eN,eN]],.u (.c (.d eO))),([.agg [eI 5,.slice 3 [eI 4,eI 0,eI 2],eO,eN,eN],.agg [eI 2,.slice 4 [eI 3,eI 4,eI 0,eI 1],eO,eN,eN]],.u (.c (.d eO))),([.agg [eI 5,.slice 3 [eI 4,eI 0,eI 2],eO,eN,eN],.agg [eI 5,.slice 3 [eI 3,eI 0,eI 1],eO,eN,eN]],.u (.c (.d eO))),([.agg [eI 5,.slice 3 [eI 4,eI 0,eI 2],eO,eN,eN],.agg [eI 5,.slice 3 [eI 4,eI 0,eI 2],eO,eN,eN]],.u (.c (.d (.bool true))))]),
 (60,[([.c (eI 5),.c (.slice 1 [eI 5,.slice 3 [eI 3,eI 1,eI 2],eO,eN,eN]),.agg [eI 1,.slice 3 [eI 1,eI 2,eI 3],eO,eN,eN]],.tup [.c (.d eN),.c (.d (.bool true))]),([.c (eI 5),.c (.slice 1 [eI 5,.slice 3 [eI 3,eI 1,eI 2],eO,eN,eN]),.agg [eI 4,.slice 4 [eI 1,eI 3,eI 2,eI 3],eO,eN,eN]],.tup [.c (.d eN),.c (.d (.bool true))]),([.c (eI 5),.c (.slice 1 [eI 5,.slice 3 [eI 3,eI 1,eI 2],eO,eN,eN]),.agg [eI 9,.slice 4 [eI 1,eI 2,eI 1,eI 3],eO,.slice 1 [.int .u16 4],.slice 1 [.int .u16 1]]],.tup [.c (.d eN),.c (.d (.bool true))]),([.c (eI 5),.c (.slice 1 [eI 5,.slice 3 [eI 3,eI 1,eI 2],eO,eN,eN]),.agg [eI 9,.slice 4 [eI 1,eI 2,eI 2,eI 3],eO,.slice 1 [.int .u16 4],.slice 1 [.int .u16 1]]],.tup [.c (.d eN),.c (.d (.bool true))]),([.c (eI 5),.c (.slice 1 [eI 5,.slice 3 [eI 4,eI 0,eI 2],eO,eN,eN]),.agg [eI 1,.slice 3 [eI 0,eI 2,eI 4],eO,eN,eN]],.tup [.c (.d eN),.c (.d (.bool true))]),([.c (eI 5),.c (.slice 1 [eI 5,.slice 3 [eI 4,eI 0,eI 2],eO,eN,eN]),.agg [eI 4,.slice 4 [eI 0,eI 4,eI 2,eI 4],eO,eN,eN]],.tup [.c (.d eN),.c (.d (.bool true))]),([.c (eI 5),.c (.slice 1 [eI 5,.slice 3 [eI 4,eI 0,eI 2],eO,eN,eN]),.agg [eI 9,.slice 4 [eI 0,eI 2,eI 0,eI 4],eO,.slice 1 [.int .u16 4],.slice 1 [.int .u16 1]]],.tup [.c (.d eN),.c (.d (.bool true))]),([.c (eI 5),.c (.slice 1 [eI 5,.slice 3 [eI 4,eI 0,eI 2],eO,eN,eN]),.agg [eI 9,.slice 4 [eI 0,eI 2,eI 2,eI 4],eO,.slice 1 [.int .u16 4],.slice 1 [.int .u16 1]]],.tup [.c (.d eN),.c (.d (.bool true))]),([.c (eI 6),.c (.slice 2 [eI 5,.slice 3 [eI 3,eI 1,eI 2],eO,eN,eN,eI 5,.slice 3 [eI 4,eI 0,eI 2],eO,eN,eN]),.agg [eI 2,.slice 4 [eI 0,eI 1,eI 3,eI 4],eO,eN,eN]],.tup [.c (.d eN),.c (.d (.bool true))]),([.c (eI 6),.c (.slice 2 [eI 5,.slice 3 [eI 3,eI 1,eI 2],eO,eN,eN,eI 5,.slice 3 [eI 4,eI 0,eI 2],eO,eN,eN]),.agg [eI 9,.slice 4 [eI 0,eI 1,eI 3,eI 4],eO,.slice 1 [.int .u16 4],.slice 1 [.int .u16 1]]],.tup [.c (.d eN),.c (.d (.bool true))])]),
 (72,[([.agg [eI 5,.slice 3 [eI 3,eI 1,eI 2],eO,eN,eN]],.u (.agg [.d (eI 5),.d (.slice 3 [eI 3,eI 1,eI 2]),.d eO,.d eN,.d eN])),([.agg [eI 5,.slice 3 [eI 4,eI 0,eI 2],eO,eN,eN]],.u (.agg [.d (eI 5),.d (.slice 3 [eI 4,eI 0,eI 2]),.d eO,.d eN,.d eN]))]),
 (118,[([.agg [eI 5,.slice 3 [eI 3,eI 1,eI 2],eO,eN,eN]],.u (.c (.d (.str ⟨#[53,32,51,32,49,32,50]⟩)))),([.agg [eI 5,.slice 3 [eI 4,eI 0,eI 2],eO,eN,eN]],.u (.c (.d (.str ⟨#[53,32,52,32,48,32,50]⟩))))]),
 (124,[([.agg [eO,.slice 1 [.int .u16 1],.slice 1 [.int .u16 2]],.agg [eO,.slice 1 [.int .u16 1],.slice 1 [.int .u16 2]]],.u (.c (.d (.bool true))))])]
def ev0:Tb2:=⟨X7,[]⟩
theorem Eu:ev0.Ok Tryz.prog:=⟨Tbl.ok_cons ⟨Xz,Zl,VZ,trivial⟩ (Tbl.ok_cons ⟨Z4,ZY,Wk,YX,jau,jhL,jii,jcW,jh4,jfX,trivial⟩ (Tbl.ok_cons ⟨jcc,jhV,jfL,Ys,jbU,jjA,jjQ,XP,jif,jhK,trivial⟩ (Tbl.ok_cons ⟨Zm,jiH,trivial⟩ (Tbl.ok_cons ⟨jf3,Yt,trivial⟩ (Tbl.ok_cons ⟨jaq,trivial⟩ (Tbl.ok_nil)))))),TblA.ok_nil⟩
def ev1_t:Tb2:=⟨[(100,[([.agg [eO,eN,eN]],.u (.c (.d (.bool true))))]),(103,[([.c Ae],.u (.c (.d (.bool true)))),([.c Al],.u (.c (.d (.bool true))))]),(104,[([.c Ae,.c Ae],.u (.c (.d (.bool true))))]),(106,[([.c (.int .u64 0)],.u (.c (.own 1 0 []))),([.c (.int .u64 1)],.u (.c (.own 1 1 [.int .u16 1]))),([.c (.int .u64 2)],.u (.c (.own 1 1 [.int .u16 2]))),([.c (.int .u64 4)],.u (.c (.own 1 1 [.int .u16 4])))]),(110,[([.c B7,.c (eI 0)],.u (.c (.d (eI 0)))),([.c B7,.c (eI 1)],.u (.c (.d (eI 0)))),([.c B7,.c (eI 2)],.u (.c (.d (eI 0))))]),(153,[([.c (.slice 2 [eI 0,eI 1,eI 3,eI 4])],.u (.c (.own 1 4 [eI 0,eI 1,eI 3,eI 4])))])],[]⟩
theorem Za:ev1_t.Ok Tryz.prog:=AN Eu (by decide+kernel)
def ev2_t:Tb2:=⟨[(157,[([.agg [eI 2,AL,eO,eN,eN],.agg [eI 2,AL,eO,eN,eN]],.u (.c (.d (eI 0)))),([.agg [eI 5,Be,eO,eN,eN],.agg [eI 5,Dk,eO,eN,eN]],.u (.c (.d (eI (-1))))),([.agg [eI 5,Bf,eO,eN,eN],.agg [eI 5,Dt,eO,eN,eN]],.u (.c (.d (eI (-1)))))]),(159,[([.c (eI 10),.c AB],.u (.c (.own 7 0 []))),([.c (eI 11),.c AB],.u (.c (.own 7 0 [])))])],[]⟩
theorem jd6:ev2_t.Ok Tryz.prog:=AN Eu (by decide+kernel)
def ev3_t:Tb2:=⟨[(159,[([.c (eI 12),.c AB],.u (.c (.own 7 0 []))),([.c (eI 13),.c AB],.u (.c (.own 7 0 []))),([.c (eI 14),.c AB],.u (.c (.own 7 0 [])))])],[]⟩
theorem ji4:ev3_t.Ok Tryz.prog:=AN Eu (by decide+kernel)
def ev4_t:Tb2:=⟨[(159,[([.c (eI 15),.c AB],.u (.c (.own 7 0 []))),([.c (eI 16),.c AB],.u (.c (.own 7 0 [])))])],[]⟩
theorem jjl:ev4_t.Ok Tryz.prog:=AN Eu (by decide+kernel)
def ev5_t:Tb2:=⟨[(159,[([.c (eI 18),.c AB],.u (.c (.own 7 0 []))),([.c (eI 19),.c AB],.u (.c (.own 7 0 [])))])],[]⟩
theorem jeX:ev5_t.Ok Tryz.prog:=AN Eu (by decide+kernel)
def ev6_t:Tb2:=⟨[(159,[([.c (eI 20),.c AB],.u (.c (.own 7 0 []))),([.c (eI 21),.c AB],.u (.c (.own 7 0 []))),([.c (eI 22),.c AB],.u (.c (.own 7 0 [])))])],[]⟩
theorem jkf:ev6_t.Ok Tryz.prog:=AN Eu (by decide+kernel)
def ev7_t:Tb2:=⟨[(159,[([.c (eI 28),.c AB],.u (.c (.own 7 0 []))),([.c (eI 3),.c AB],.u (.c (.own 7 0 [])))]),(161,[([.c Ae],.u (.c (.d (.bool true)))),([.c AJ],.u (.c (.d eO)))]),(163,[([.c (eI 5)],.u (.agg [.d (.str ⟨#[109,105,100,112,111,105,110,116]⟩),.d PE,.d Og,.d eN,.d (eI 0),.d (.nilFn)]))]),(166,[([.c Ae],.u (.c (.own 1 1 [.int .u16 1]))),([.c AJ],.u (.c (.own 1 1 [.int .u16 2]))),([.c Al],.u (.c (.own 1 1 [.int .u16 4]))),([.c (.slice 3 [.int .u16 1,.int .u16 0,.int .u16 0])],.u (.c (.own 1 1 [.int .u16 1]))),([.c (.slice 3 [.int .u16 4,.int .u16 0,.int .u16 0])],.u (.c (.own 1 1 [.int .u16 4])))]),(177,[([.agg [eO,eN,eN]],.u (.c (.d (.bool true))))]),(201,[([.c (eI 2)],.u (.agg [.d eO,.d AJ]))]),(220,[([.agg [eI 5,Be,eO,eN,eN],.c (eI 2)],.u (.c (.own 1 0 []))),([.agg [eI 5,Bf,eO,eN,eN],.c (eI 2)],.u (.c (.own 1 0 [])))])],[]⟩
theorem jjU:ev7_t.Ok Tryz.prog:=AN Eu (by decide+kernel)
def ev8_t:Tb2:=⟨[(48,[([.c (eI 4)],.u (.c (.d (eI 4)))),([.c (eI 5)],.u (.c (.d (eI 3)))),([.c (eI 9)],.u (.c (.d (eI 4))))]),(50,[([.agg [eO,eN,eN]],.u (.c (.d (.bool true))))]),(222,[([.c (.str ⟨#[109,97,98]⟩),.c Be,.agg [.int .i16 (-1),.int .i16 (-1),.int .i16 (-1),.int .i16 (-1),.int .i16 (-1),.int .i16 (-1),.int .i16 (-1),.int .i16 (-1),.int .i16 (-1),.int .i16 (-1),.int .i16 (-1),.int .i16 (-1),.int .i16 (-1),.int .i16 (-1),.int .i16 (-1),.int .i16 (-1),.int .i16 (-1),.int .i16 (-1),.int .i16 (-1),.int .i16 (-1),.int .i16 (-1),.int .i16 (-1),.int .i16 (-1),.int .i16 (-1),.int .i16 (-1),.int .i16 (-1)]],.tup [.agg [.d (.int .i16 1),.d (.int .i16 2),.d (.int .i16 (-1)),.d (.int .i16 (-1)),.d (.int .i16 (-1)),.d (.int .i16 (-1)),.d (.int .i16 (-1)),.d (.int .i16 (-1)),.d (.int .i16 (-1)),.d (.int .i16 (-1)),.d (.int .i16 (-1)),.d (.int .i16 (-1)),.d (.int .i16 3),.d (.int .i16 (-1)),.d (.int .i16 (-1)),.d (.int .i16 (-1)),.d (.int .i16 (-1)),.d (.int .i16 (-1)),.d (.int .i16 (-1)),.d (.int .i16 (-1)),.d (.int .i16 (-1)),.d (.int .i16 (-1)),.d (.int .i16 (-1)),.d (.int .i16 (-1)),.d (.int .i16 (-1)),.d (.int .i16 (-1))],.c (.d (.bool true))]),([.c (.str ⟨#[109,97,98]⟩),.c Dk,.agg [.int .i16 (-1),.int .i16 (-1),.int .i16 (-1),.int .i16 (-1),.int .i16 (-1),.int .i16 (-1),.int .i16 (-1),.int .i16 (-1),.int .i16 (-1),.int .i16 (-1),.int .i16 (-1),.int .i16 (-1),.int .i16 (-1),.int .i16 (-1),.int .i16 (-1),.int .i16 (-1),.int .i16 (-1),.int .i16 (-1),.int .i16 (-1),.int .i16 (-1),.int .i16 (-1),.int .i16 (-1),.int .i16 (-1),.int .i16 (-1),.int .i16 (-1),.int .i16 (-1)]],.tup [.agg [.d (.int .i16 2),.d (.int .i16 1),.d (.int .i16 (-1)),.d (.int .i16 (-1)),.d (.int .i16 (-1)),.d (.int .i16 (-1)),.d (.int .i16 (-1)),.d (.int .i16 (-1)),.d (.int .i16 (-1)),.d (.int .i16 (-1)),.d (.int .i16 (-1)),.d (.int .i16 (-1)),.d (.int .i16 3),.d (.int .i16 (-1)),.d (.int .i16 (-1)),.d (.int .i16 (-1)),.d (.int .i16 (-1)),.d (.int .i16 (-1)),.d (.int .i16 (-1)),.d (.int .i16 (-1)),.d (.int .i16 (-1)),.d (.int .i16 (-1)),.d (.int .i16 (-1)),.d (.int .i16 (-1)),.d (.int .i16 (-1)),.d (.int .i16 (-1))],.c (.d (.bool true))]),([.c (.str ⟨#[109,97,98]⟩),.c Bf,.agg [.int .i16 (-1),.int .i16 (-1),.int .i16 (-1),.int .i16 (-1),.int .i16 (-1),.int .i16 (-1),.int .i16 (-1),.int .i16 (-1),.int .i16 (-1),.int .i16 (-1),.int .i16 (-1),.int .i16 (-1),.int .i16 (-1),.int .i16 (-1),.int .i16 (-1),.int .i16 (-1),.int .i16 (-1),.int .i16 (-1),.int .i16 (-1),.int .i16 (-1),.int .i16 (-1),.int .i16 (-1),.int .i16 (-1),.int .i16 (-1),.int .i16 (-1),.int .i16 (-1)]],.tup [.agg [.d (.int .i16 0),.d (.int .i16 2),.d (.int .i16 (-1)),.d (.int .i16 (-1)),.d (.int .i16 (-1)),.d (.int .i16 (-1)),.d (.int .i16 (-1)),.d (.int .i16 (-1)),.d (.int .i16 (-1)),.d (.int .i16 (-1)),.d (.int .i16 (-1)),.d (.int .i16 (-1)),.d (.int .i16 4),.d (.int .i16 (-1)),.d (.int .i16 (-1)),.d (.int .i16 (-1)),.d (.int .i16 (-1)),.d (.int .i16 (-1)),.d (.int .i16 (-1)),.d (.int .i16 (-1)),.d (.int .i16 (-1)),.d (.int .i16 (-1)),.d (.int .i16 (-1)),.d (.int .i16 (-1)),.d (.int .i16 (-1)),.d (.int .i16 (-1))],.c (.d (.bool true))]),([.c (.str ⟨#[109,97,98]⟩),.c Dt,.agg [.int .i16 (-1),.int .i16 (-1),.int .i16 (-1),.int .i16 (-1),.int .i16 (-1),.int .i16 (-1),.int .i16 (-1),.int .i16 (-1),.int .i16 (-1),.int .i16 (-1),.int .i16 (-1),.int .i16 (-1),.int .i16 (-1),.int .i16 (-1),.int .i16 (-1),.int .i16 (-1),.int .i16 (-1),.int .i16 (-1),.int .i16 (-1),.int .i16 (-1),.int .i16 (-1),.int .i16 (-1),.int .i16 (-1),.int .i16 (-1),.int .i16 (-1),.int .i16 (-1)]],.tup [.agg [.d (.int .i16 2),.d (.int .i16 0),.d (.int .i16 (-1)),.d (.int .i16 (-1)),.d (.int .i16 (-1)),.d (.int .i16 (-1)),.d (.int .i16 (-1)),.d (.int .i16 (-1)),.d (.int .i16 (-1)),.d (.int .i16 (-1)),.d (.int .i16 (-1)),.d (.int .i16 (-1)),.d (.int .i16 4),.d (.int .i16 (-1)),.d (.int .i16 (-1)),.d (.int .i16 (-1)),.d (.int .i16 (-1)),.d (.int .i16 (-1)),.d (.int .i16 (-1)),.d (.int .i16 (-1)),.d (.int .i16 (-1)),.d (.int .i16 (-1)),.d (.int .i16 (-1)),.d (.int .i16 (-1)),.d (.int .i16 (-1)),.d (.int .i16 (-1))],.c (.d (.bool true))])]),(229,[([.c Ae,.c (eI 0)],.u (.c (.d (eI 1)))),([.c Al,.c (eI 0)],.u (.c (.d (eI 4))))]),(236,[([.c (.int .u64 1)],.u (.c (.own 1 1 [.int .u16 1])))]),(252,[([.c Ae],.u (.c (.d (.int .u64 1)))),([.c AJ],.u (.c (.d (.int .u64 2)))),([.c Al],.u (.c (.d (.int .u64 4))))]),(255,[([.c Ae,.c AJ],.u (.c (.own 1 1 [.int .u16 2])))]),(260,[([.c (.int .u8 65)],.u (.c (.d (eI 2)))),([.c (.int .u8 66)],.u (.c (.d (eI 2)))),([.c (.int .u8 67)],.u (.c (.d (eI 2)))),([.c (.int .u8 77)],.u (.c (.d (eI 2)))),([.c (.int .u8 78)],.u (.c (.d (eI 2))))]),(263,[([.c Tq,.c (.fn 180 [.ref [eI 2,.str ⟨#[78]⟩,Il,eO,Ae,AJ]])],.u (.c (.d (eI (-1)))))]),(298,[([.c Ae],.u (.c (.d Ae))),([.c AJ],.u (.c (.d AJ)))]),(300,[([.c Aq,.c (eI 1)],.u (.c (.d eO))),([.c AE,.c (eI 0)],.u (.c (.d eO)))]),(331,[([.c eN,.agg [eI 5,Be,eO,eN,eN]],.u (.c (.own 5 1 [eI 5,Be,eO,eN,eN]))),([.c eN,.agg [eI 5,Bf,eO,eN,eN]],.u (.c (.own 5 1 [eI 5,Bf,eO,eN,eN])))])],[]⟩
theorem jgp:ev8_t.Ok Tryz.prog:=AN Eu (by decide+kernel)
def ev9_t:Tb2:=⟨[],[(233,[(⟨7,0,[],[.agg [.str ⟨#[116,104,97,108,101,115]⟩,.slice 2 [eI 5,.str ⟨#[111,97,98]⟩,eO,eI 0,eI 4,.str ⟨#[111,97,111,99]⟩,eO,eI 0],.slice 1 [eI 3,.str ⟨#[99,97,99,98]⟩,eO,eI 0],eN],.c (.slice 2 [Gn,eN]),.c AB,.c eN,.agg [.int .i16 (-1),.int .i16 (-1),.int .i16 (-1),.int .i16 (-1),.int .i16 (-1),.int .i16 (-1),.int .i16 (-1),.int .i16 (-1),.int .i16 (-1),.int .i16 (-1),.int .i16 (-1),.int .i16 (-1),.int .i16 (-1),.int .i16 (-1),.int .i16 (-1),.int .i16 (-1),.int .i16 (-1),.int .i16 (-1),.int .i16 (-1),.int .i16 (-1),.int .i16 (-1),.int .i16 (-1),.int .i16 (-1),.int .i16 (-1),.int .i16 (-1),.int .i16 (-1)]]⟩,(0,[]))])]⟩
theorem jb1:ev9_t.Ok Tryz.prog:=AN Eu (by decide+kernel)
def evL0:Tb2:=(ev1_t.app (ev2_t.app (ev3_t.app (ev4_t.app (ev5_t.app (ev6_t.app (ev7_t.app (ev8_t.app (ev9_t.app ev0)))))))))
theorem F8:evL0.Ok Tryz.prog:=(Tb2.ok_app Za (Tb2.ok_app jd6 (Tb2.ok_app ji4 (Tb2.ok_app jjl (Tb2.ok_app jeX (Tb2.ok_app jkf (Tb2.ok_app jjU (Tb2.ok_app jgp (Tb2.ok_app jb1 Eu)))))))))
end Go.Va
