/-
  The types of the program, as the walk knows them.
-/
import Derived.Test.YtdjgdhbeikdojaaGreatWa
import Derived.Test.YtdjgdhbeikdojaaGreatProg
set_option linter.all false

namespace Go.Va
open Go.Proofs
set_option maxRecDepth 20000

def ti1 : TI := { size := 1, bytes := 8, zero := [.d .nilFn] }
def ti2 : TI := { size := 1, bytes := 8, zero := [.d (.int .i64 0)] }
def ti3 : TI := { size := 1, bytes := 8, zero := [.d (.int .i64 0)] }
def ti4 : TI := { size := 1, bytes := 1, zero := [.d (.bool false)] }
def ti5 : TI := { size := 1, bytes := 1, zero := [.d (.int .u8 0)] }
def ti6 : TI := { size := 1, bytes := 1, zero := [.d (.int .u8 0)] }
def ti7 : TI := { agg := true, size := 4, bytes := 24, zero := [.d (.int .i64 0), .d (.int .i64 0), .d (.bool false), .d (.int .u8 0)], flds := [(0, 2), (1, 3), (2, 4), (3, 6)], flat := true }
def ti8 : TI := { agg := true, size := 4, bytes := 24, zero := [.d (.int .i64 0), .d (.int .i64 0), .d (.bool false), .d (.int .u8 0)], flds := [(0, 2), (1, 3), (2, 4), (3, 6)], flat := true }
def ti9 : TI := { size := 1, bytes := 16, zero := [.d (.str ByteArray.empty)] }
def ti10 : TI := { size := 1, bytes := 16, zero := [.d (.str ByteArray.empty)] }
def ti11 : TI := { size := 1, bytes := 16, zero := [.d (.str ByteArray.empty)] }
def ti12 : TI := { size := 1, bytes := 8, zero := [.d (.int .u64 0)] }
def ti13 : TI := { agg := true, size := 2, bytes := 24, zero := [.d (.str ByteArray.empty), .d (.int .u64 0)], flds := [(0, 9), (1, 12)] }
def ti14 : TI := { agg := true, size := 2, bytes := 24, zero := [.d (.str ByteArray.empty), .d (.int .u64 0)], flds := [(0, 9), (1, 12)] }
def ti15 : TI := { size := 1, bytes := 8, zero := [.d .nilPtr] }
def ti16 : TI := { size := 1, bytes := 8, zero := [.d .nilPtr] }
def ti17 : TI := { size := 1, bytes := 8, zero := [.d .nilPtr] }
def ti18 : TI := { agg := true, size := 1, bytes := 8, zero := [.d .nilPtr], flds := [(0, 17)] }
def ti19 : TI := { agg := true, size := 1, bytes := 8, zero := [.d .nilPtr], flds := [(0, 17)] }
def ti21 : TI := { size := 1, bytes := 4, zero := [.d (.int .i32 0)] }
def ti22 : TI := { size := 1, bytes := 24, zero := [.nl], sl := some 3 }
def ti23 : TI := { size := 1, bytes := 24, zero := [.nl], sl := some 119 }
def ti24 : TI := { size := 1, bytes := 24, zero := [.nl], sl := some 119 }
def ti25 : TI := { agg := true, size := 2, bytes := 32, zero := [.d (.bool false), .nl], flds := [(0, 4), (1, 24)] }
def ti26 : TI := { agg := true, size := 2, bytes := 32, zero := [.d (.bool false), .nl], flds := [(0, 4), (1, 24)] }
def ti27 : TI := { agg := true, size := 3, bytes := 56, zero := [.d (.bool false), .nl, .nl], flds := [(0, 26), (2, 24)] }
def ti28 : TI := { agg := true, size := 3, bytes := 56, zero := [.d (.bool false), .nl, .nl], flds := [(0, 26), (2, 24)] }
def ti29 : TI := { agg := true, size := 5, bytes := 88, zero := [.d (.int .i64 0), .nl, .d (.bool false), .nl, .nl], flds := [(0, 3), (1, 22), (2, 28)] }
def ti30 : TI := { agg := true, size := 5, bytes := 88, zero := [.d (.int .i64 0), .nl, .d (.bool false), .nl, .nl], flds := [(0, 3), (1, 22), (2, 28)] }
def ti31 : TI := { size := 1, bytes := 8, zero := [.d .nilFn] }
def ti32 : TI := { size := 1, bytes := 8, zero := [.d .nilFn] }
def ti33 : TI := { size := 1, bytes := 8, zero := [.d .nilFn] }
def ti34 : TI := { size := 1, bytes := 8, zero := [.d .nilFn] }
def ti35 : TI := { size := 1, bytes := 8, zero := [.d .nilFn] }
def ti36 : TI := { size := 1, bytes := 8, zero := [.d .nilFn] }
def ti37 : TI := { size := 1, bytes := 24, zero := [.nl], sl := some 30 }
def ti38 : TI := { size := 1, bytes := 8, zero := [.d .nilFn] }
def ti39 : TI := { size := 1, bytes := 8, zero := [.d .nilFn] }
def ti40 : TI := { size := 1, bytes := 8, zero := [.d (.int .i64 0)] }
def ti42 : TI := { size := 1, bytes := 8, zero := [.d .nilFn] }
def ti43 : TI := { size := 1, bytes := 8, zero := [.d .nilFn] }
def ti44 : TI := { size := 1, bytes := 8, zero := [.d .nilFn] }
def ti45 : TI := { size := 1, bytes := 8, zero := [.d .nilFn] }
def ti46 : TI := { size := 1, bytes := 8, zero := [.d .nilFn] }
def ti47 : TI := { agg := true, size := 1, bytes := 8, zero := [.d .nilFn], flds := [(0, 34)] }
def ti48 : TI := { agg := true, size := 1, bytes := 8, zero := [.d .nilFn], flds := [(0, 34)] }
def ti49 : TI := { size := 1, bytes := 8, zero := [.d .nilFn] }
def ti50 : TI := { size := 1, bytes := 8, zero := [.d .nilFn] }
def ti51 : TI := { agg := true, size := 2, bytes := 16, zero := [.d (.int .i64 0), .d (.int .i64 0)], flds := [(0, 3), (1, 3)], flat := true }
def ti52 : TI := { agg := true, size := 2, bytes := 16, zero := [.d (.int .i64 0), .d (.int .i64 0)], flds := [(0, 3), (1, 3)], flat := true }
def ti53 : TI := { size := 1, bytes := 8, zero := [.d .nilFn] }
def ti54 : TI := { size := 1, bytes := 8, zero := [.d .nilFn] }
def ti55 : TI := { size := 1, bytes := 8, zero := [.d .nilFn] }
def ti56 : TI := { size := 1, bytes := 8, zero := [.d .nilFn] }
def ti57 : TI := { size := 1, bytes := 24, zero := [.nl], sl := some 60 }
def ti58 : TI := { size := 1, bytes := 8, zero := [.d .nilFn] }
def ti59 : TI := { agg := true, size := 2, bytes := 16, zero := [.d (.int .i64 0), .d (.int .i64 0)], arr := some (2, 3), flat := true }
def ti60 : TI := { agg := true, size := 2, bytes := 16, zero := [.d (.int .i64 0), .d (.int .i64 0)], arr := some (2, 3), flat := true }
def ti61 : TI := { size := 1, bytes := 8, zero := [.d .nilFn] }
def ti62 : TI := { size := 1, bytes := 8, zero := [.d .nilFn] }
def ti63 : TI := { size := 1, bytes := 8, zero := [.d .nilFn] }
def ti64 : TI := { size := 1, bytes := 8, zero := [.d .nilFn] }
def ti65 : TI := { size := 1, bytes := 8, zero := [.d .nilFn] }
def ti66 : TI := { size := 1, bytes := 8, zero := [.d .nilFn] }
def ti67 : TI := { size := 1, bytes := 8, zero := [.d .nilFn] }
def ti68 : TI := { size := 1, bytes := 8, zero := [.d .nilFn] }
def ti69 : TI := { size := 1, bytes := 8, zero := [.d .nilFn] }
def ti70 : TI := { size := 1, bytes := 24, zero := [.nl], sl := some 73 }
def ti71 : TI := { size := 1, bytes := 8, zero := [.d .nilFn] }
def ti72 : TI := { agg := true, size := 2, bytes := 32, zero := [.nl, .d (.bool false)], flds := [(0, 22), (1, 4)] }
def ti73 : TI := { agg := true, size := 2, bytes := 32, zero := [.nl, .d (.bool false)], flds := [(0, 22), (1, 4)] }
def ti74 : TI := { size := 1, bytes := 8, zero := [.d .nilFn] }
def ti75 : TI := { size := 1, bytes := 8, zero := [.d .nilFn] }
def ti76 : TI := { size := 1, bytes := 8, zero := [.d .nilFn] }
def ti77 : TI := { size := 1, bytes := 8, zero := [.d .nilFn] }
def ti78 : TI := { size := 1, bytes := 8, zero := [.d .nilFn] }
def ti79 : TI := { size := 1, bytes := 8, zero := [.d .nilFn] }
def ti80 : TI := { size := 1, bytes := 8, zero := [.d .nilFn] }
def ti82 : TI := { size := 1, bytes := 8, zero := [.d .nilFn] }
def ti83 : TI := { size := 1, bytes := 8, zero := [.d .nilFn] }
def ti84 : TI := { size := 1, bytes := 8, zero := [.d .nilFn] }
def ti85 : TI := { size := 1, bytes := 8, zero := [.d .nilFn] }
def ti86 : TI := { size := 1, bytes := 8, zero := [.d .nilFn] }
def ti87 : TI := { size := 1, bytes := 8, zero := [.d (.int .u64 0)] }
def ti88 : TI := { size := 1, bytes := 8, zero := [.d .nilFn] }
def ti89 : TI := { size := 1, bytes := 8, zero := [.d .nilFn] }
def ti91 : TI := { size := 1, bytes := 8, zero := [.d .nilFn] }
def ti92 : TI := { size := 1, bytes := 8, zero := [.d .nilFn] }
def ti93 : TI := { size := 1, bytes := 8, zero := [.d .nilFn] }
def ti94 : TI := { size := 1, bytes := 8, zero := [.d .nilFn] }
def ti95 : TI := { size := 1, bytes := 8, zero := [.d .nilFn] }
def ti96 : TI := { size := 1, bytes := 8, zero := [.d .nilFn] }
def ti97 : TI := { size := 1, bytes := 8, zero := [.d .nilFn] }
def ti98 : TI := { size := 1, bytes := 8, zero := [.d .nilFn] }
def ti99 : TI := { size := 1, bytes := 8, zero := [.d .nilFn] }
def ti100 : TI := { size := 1, bytes := 8, zero := [.d .nilFn] }
def ti101 : TI := { size := 1, bytes := 8, zero := [.d .nilFn] }
def ti102 : TI := { size := 1, bytes := 8, zero := [.d .nilFn] }
def ti104 : TI := { size := 1, bytes := 8, zero := [.d .nilFn] }
def ti105 : TI := { size := 1, bytes := 8, zero := [.d .nilFn] }
def ti106 : TI := { size := 1, bytes := 8, zero := [.d .nilFn] }
def ti107 : TI := { size := 1, bytes := 8, zero := [.d .nilFn] }
def ti108 : TI := { size := 1, bytes := 8, zero := [.d .nilFn] }
def ti109 : TI := { size := 1, bytes := 8, zero := [.d .nilFn] }
def ti110 : TI := { size := 1, bytes := 8, zero := [.d .nilFn] }
def ti111 : TI := { size := 1, bytes := 8, zero := [.d (.int .u64 0)] }
def ti112 : TI := { agg := true, size := 4, bytes := 32, zero := [.d (.int .i64 0), .d (.int .i64 0), .d (.int .i64 0), .d (.int .i64 0)], arr := some (4, 3), flat := true }
def ti113 : TI := { agg := true, size := 32, bytes := 256, zero := List.replicate 32 (.d (.int .i64 0)), arr := some (8, 112) }
def ti114 : TI := { size := 1, bytes := 8, zero := [.d .nilFn] }
def ti115 : TI := { size := 1, bytes := 8, zero := [.d .nilFn] }
def ti116 : TI := { size := 1, bytes := 8, zero := [.d .nilFn] }
def ti118 : TI := { size := 1, bytes := 8, zero := [.d .nilFn] }
def ti119 : TI := { size := 1, bytes := 2, zero := [.d (.int .u16 0)] }
def ti120 : TI := { size := 1, bytes := 8, zero := [.d .nilFn] }
def ti121 : TI := { size := 1, bytes := 8, zero := [.d .nilFn] }
def ti122 : TI := { agg := true, size := 4, bytes := 32, zero := [.d (.int .i64 0), .d (.int .i64 0), .d (.int .i64 0), .d (.int .i64 0)], arr := some (2, 60) }
def ti123 : TI := { size := 1, bytes := 8, zero := [.d .nilPtr] }
def ti124 : TI := { size := 1, bytes := 24, zero := [.nl], sl := some 123 }
def ti125 : TI := { size := 1, bytes := 8, zero := [.d .nilFn] }
def ti126 : TI := { size := 1, bytes := 24, zero := [.nl], sl := some 52 }
def ti127 : TI := { size := 1, bytes := 8, zero := [.d .nilFn] }
def ti128 : TI := { size := 1, bytes := 8, zero := [.d .nilFn] }
def ti129 : TI := { size := 1, bytes := 8, zero := [.d .nilFn] }
def ti130 : TI := { size := 1, bytes := 8, zero := [.d .nilFn] }
def ti131 : TI := { size := 1, bytes := 8, zero := [.d .nilFn] }
def ti132 : TI := { size := 1, bytes := 8, zero := [.d (.int .i64 0)] }
def ti134 : TI := { size := 1, bytes := 8, zero := [.d .nilFn] }
def ti135 : TI := { size := 1, bytes := 8, zero := [.d .nilFn] }
def ti136 : TI := { size := 1, bytes := 8, zero := [.d .nilFn] }
def ti137 : TI := { size := 1, bytes := 8, zero := [.d .nilFn] }
def ti138 : TI := { size := 1, bytes := 8, zero := [.d .nilFn] }
def ti139 : TI := { size := 1, bytes := 4, zero := [.d (.int .u32 0)] }
def ti140 : TI := { size := 1, bytes := 8, zero := [.d .nilFn] }
def ti141 : TI := { size := 1, bytes := 8, zero := [.d .nilFn] }
def ti142 : TI := { size := 1, bytes := 8, zero := [.d .nilFn] }
def ti143 : TI := { size := 1, bytes := 8, zero := [.d .nilFn] }
def ti145 : TI := { size := 1, bytes := 8, zero := [.d .nilFn] }
def ti146 : TI := { size := 1, bytes := 8, zero := [.d .nilFn] }
def ti147 : TI := { size := 1, bytes := 8, zero := [.d .nilFn] }
def ti148 : TI := { size := 1, bytes := 8, zero := [.d (.int .u64 0)] }
def ti149 : TI := { size := 1, bytes := 8, zero := [.d .nilFn] }
def ti150 : TI := { size := 1, bytes := 8, zero := [.d .nilFn] }
def ti151 : TI := { size := 1, bytes := 8, zero := [.d .nilFn] }
def ti152 : TI := { size := 1, bytes := 8, zero := [.d .nilPtr] }
def ti153 : TI := { size := 1, bytes := 8, zero := [.d .nilFn] }
def ti154 : TI := { agg := true, size := 2, bytes := 16, zero := [.d (.int .i64 0), .d (.int .u16 0)], flds := [(0, 3), (1, 119)], flat := true }
def ti155 : TI := { agg := true, size := 2, bytes := 16, zero := [.d (.int .i64 0), .d (.int .u16 0)], flds := [(0, 3), (1, 119)], flat := true }
def ti157 : TI := { size := 1, bytes := 8, zero := [.d .nilFn] }
def ti158 : TI := { size := 1, bytes := 8, zero := [.d .nilFn] }
def ti159 : TI := { size := 1, bytes := 8, zero := [.d .nilFn] }
def ti160 : TI := { size := 1, bytes := 8, zero := [.d .nilFn] }
def ti161 : TI := { size := 1, bytes := 8, zero := [.d .nilFn] }
def ti162 : TI := { size := 1, bytes := 8, zero := [.d .nilFn] }
def ti163 : TI := { size := 1, bytes := 8, zero := [.d .nilFn] }
def ti164 : TI := { size := 1, bytes := 8, zero := [.d .nilPtr] }
def ti166 : TI := { size := 1, bytes := 8, zero := [.d .nilFn] }
def ti168 : TI := { size := 1, bytes := 8, zero := [.d .nilFn] }
def ti169 : TI := { size := 1, bytes := 8, zero := [.d .nilFn] }
def ti170 : TI := { size := 1, bytes := 8, zero := [.d .nilFn] }
def ti171 : TI := { size := 1, bytes := 8, zero := [.d .nilFn] }
def ti172 : TI := { size := 1, bytes := 8, zero := [.d .nilFn] }
def ti173 : TI := { size := 1, bytes := 8, zero := [.d .nilFn] }
def ti174 : TI := { size := 1, bytes := 8, zero := [.d .nilFn] }
def ti175 : TI := { size := 1, bytes := 8, zero := [.d .nilFn] }
def ti176 : TI := { agg := true, size := 4, bytes := 40, zero := [.d .nilPtr, .d .nilPtr, .d .nilPtr, .d (.str ByteArray.empty)], flds := [(0, 17), (1, 17), (2, 17), (3, 9)] }
def ti177 : TI := { agg := true, size := 4, bytes := 40, zero := [.d .nilPtr, .d .nilPtr, .d .nilPtr, .d (.str ByteArray.empty)], flds := [(0, 17), (1, 17), (2, 17), (3, 9)] }
def ti178 : TI := { agg := true, size := 0, bytes := 0, zero := [], arr := some (0, 16) }
def ti179 : TI := { agg := true, size := 0, bytes := 0, zero := [], flds := [(0, 178)] }
def ti180 : TI := { agg := true, size := 0, bytes := 0, zero := [], flds := [(0, 178)] }
def ti181 : TI := { size := 1, bytes := 8, zero := [.d .nilFn] }
def ti182 : TI := { size := 1, bytes := 1, zero := [.d (.int .u8 0)] }
def ti183 : TI := { size := 1, bytes := 1, zero := [.d (.int .u8 0)] }
def ti184 : TI := { size := 1, bytes := 8, zero := [.d .nilFn] }
def ti185 : TI := { size := 1, bytes := 8, zero := [.d .nilPtr] }
def ti186 : TI := { size := 1, bytes := 4, zero := [.d (.int .i32 0)] }
def ti187 : TI := { size := 1, bytes := 4, zero := [.d (.int .i32 0)] }
def ti188 : TI := { agg := true, size := 11, bytes := 48, zero := [.d (.int .u64 0), .d (.int .u64 0), .d (.int .u32 0), .d (.int .u8 0), .d (.int .u8 0), .d (.int .u8 0), .d (.int .u8 0), .d .nilFn, .d .nilPtr, .d (.int .i32 0), .d (.int .i32 0)], flds := [(0, 12), (1, 12), (2, 139), (3, 182), (4, 5), (5, 5), (6, 183), (7, 184), (8, 185), (9, 186), (10, 187)] }
def ti189 : TI := { agg := true, size := 11, bytes := 48, zero := [.d (.int .u64 0), .d (.int .u64 0), .d (.int .u32 0), .d (.int .u8 0), .d (.int .u8 0), .d (.int .u8 0), .d (.int .u8 0), .d .nilFn, .d .nilPtr, .d (.int .i32 0), .d (.int .i32 0)], flds := [(0, 12), (1, 12), (2, 139), (3, 182), (4, 5), (5, 5), (6, 183), (7, 184), (8, 185), (9, 186), (10, 187)] }
def tbl : List (Option TI) := [none, some ti1, some ti2, some ti3, some ti4, some ti5, some ti6, some ti7, some ti8, some ti9, some ti10, some ti11, some ti12, some ti13, some ti14, some ti15, some ti16, some ti17, some ti18, some ti19, none, some ti21, some ti22, some ti23, some ti24, some ti25, some ti26, some ti27, some ti28, some ti29, some ti30, some ti31, some ti32, some ti33, some ti34, some ti35, some ti36, some ti37, some ti38, some ti39, some ti40, none, some ti42, some ti43, some ti44, some ti45, some ti46, some ti47, some ti48, some ti49, some ti50, some ti51, some ti52, some ti53, some ti54, some ti55, some ti56, some ti57, some ti58, some ti59, some ti60, some ti61, some ti62, some ti63, some ti64, some ti65, some ti66, some ti67, some ti68, some ti69, some ti70, some ti71, some ti72, some ti73, some ti74, some ti75, some ti76, some ti77, some ti78, some ti79, some ti80, none, some ti82, some ti83, some ti84, some ti85, some ti86, some ti87, some ti88, some ti89, none, some ti91, some ti92, some ti93, some ti94, some ti95, some ti96, some ti97, some ti98, some ti99, some ti100, some ti101, some ti102, none, some ti104, some ti105, some ti106, some ti107, some ti108, some ti109, some ti110, some ti111, some ti112, some ti113, some ti114, some ti115, some ti116, none, some ti118, some ti119, some ti120, some ti121, some ti122, some ti123, some ti124, some ti125, some ti126, some ti127, some ti128, some ti129, some ti130, some ti131, some ti132, none, some ti134, some ti135, some ti136, some ti137, some ti138, some ti139, some ti140, some ti141, some ti142, some ti143, none, some ti145, some ti146, some ti147, some ti148, some ti149, some ti150, some ti151, some ti152, some ti153, some ti154, some ti155, none, some ti157, some ti158, some ti159, some ti160, some ti161, some ti162, some ti163, some ti164, none, some ti166, none, some ti168, some ti169, some ti170, some ti171, some ti172, some ti173, some ti174, some ti175, some ti176, some ti177, some ti178, some ti179, some ti180, some ti181, some ti182, some ti183, some ti184, some ti185, some ti186, some ti187, some ti188, some ti189, none]
/-- What is known of the types. -/
def tb : Tab := fun t => (tbl[t]?).join
/-- All rows of the table are so. -/
def tblB (P : Program) : Nat → List (Option TI) → Bool
  | _, [] => true
  | k, o :: r => (match o with | some i => tyB P k i | none => true) && tblB P (k + 1) r
theorem tblB_ok {P : Program} : ∀ (l : List (Option TI)) (k : Nat), tblB P k l = true → ∀ t i, l[t]? = some (some i) → tyB P (k + t) i = true
  | [], _, _, _, _, h => by simp at h
  | o :: r, k, hb, 0, i, h => by
    simp only [List.getElem?_cons_zero, Option.some.injEq] at h
    subst h
    unfold tblB at hb
    simpa using (Bool.and_eq_true _ _ ▸ hb).1
  | o :: r, k, hb, t + 1, i, h => by
    unfold tblB at hb
    have := tblB_ok r (k + 1) (by simpa using (Bool.and_eq_true _ _ ▸ hb).2) t i (by simpa using h)
    rwa [show k + 1 + t = k + (t + 1) by omega] at this
theorem tbl_ok : tblB Tryz.prog 0 tbl = true := by kernel_rfl
theorem tab_ok : TabOk Tryz.prog tb := fun t i h => by
  have := tblB_ok tbl 0 tbl_ok t i (by unfold tb at h; cases hx : tbl[t]? <;> simp [hx] at h; rw [h])
  rwa [Nat.zero_add] at this
theorem mixed : Tryz.prog.follows .mixedOrders = true := by kernel_rfl

@[simp] theorem tb_1 : tb 1 = some { size := 1, bytes := 8, zero := [.d .nilFn] } := rfl
@[simp] theorem tb_2 : tb 2 = some { size := 1, bytes := 8, zero := [.d (.int .i64 0)] } := rfl
@[simp] theorem tb_3 : tb 3 = some { size := 1, bytes := 8, zero := [.d (.int .i64 0)] } := rfl
@[simp] theorem tb_4 : tb 4 = some { size := 1, bytes := 1, zero := [.d (.bool false)] } := rfl
@[simp] theorem tb_5 : tb 5 = some { size := 1, bytes := 1, zero := [.d (.int .u8 0)] } := rfl
@[simp] theorem tb_6 : tb 6 = some { size := 1, bytes := 1, zero := [.d (.int .u8 0)] } := rfl
@[simp] theorem tb_7 : tb 7 = some { agg := true, size := 4, bytes := 24, zero := [.d (.int .i64 0), .d (.int .i64 0), .d (.bool false), .d (.int .u8 0)], flds := [(0, 2), (1, 3), (2, 4), (3, 6)], flat := true } := rfl
@[simp] theorem tb_8 : tb 8 = some { agg := true, size := 4, bytes := 24, zero := [.d (.int .i64 0), .d (.int .i64 0), .d (.bool false), .d (.int .u8 0)], flds := [(0, 2), (1, 3), (2, 4), (3, 6)], flat := true } := rfl
@[simp] theorem tb_9 : tb 9 = some { size := 1, bytes := 16, zero := [.d (.str ByteArray.empty)] } := rfl
@[simp] theorem tb_10 : tb 10 = some { size := 1, bytes := 16, zero := [.d (.str ByteArray.empty)] } := rfl
@[simp] theorem tb_11 : tb 11 = some { size := 1, bytes := 16, zero := [.d (.str ByteArray.empty)] } := rfl
@[simp] theorem tb_12 : tb 12 = some { size := 1, bytes := 8, zero := [.d (.int .u64 0)] } := rfl
@[simp] theorem tb_13 : tb 13 = some { agg := true, size := 2, bytes := 24, zero := [.d (.str ByteArray.empty), .d (.int .u64 0)], flds := [(0, 9), (1, 12)] } := rfl
@[simp] theorem tb_14 : tb 14 = some { agg := true, size := 2, bytes := 24, zero := [.d (.str ByteArray.empty), .d (.int .u64 0)], flds := [(0, 9), (1, 12)] } := rfl
@[simp] theorem tb_15 : tb 15 = some { size := 1, bytes := 8, zero := [.d .nilPtr] } := rfl
@[simp] theorem tb_16 : tb 16 = some { size := 1, bytes := 8, zero := [.d .nilPtr] } := rfl
@[simp] theorem tb_17 : tb 17 = some { size := 1, bytes := 8, zero := [.d .nilPtr] } := rfl
@[simp] theorem tb_18 : tb 18 = some { agg := true, size := 1, bytes := 8, zero := [.d .nilPtr], flds := [(0, 17)] } := rfl
@[simp] theorem tb_19 : tb 19 = some { agg := true, size := 1, bytes := 8, zero := [.d .nilPtr], flds := [(0, 17)] } := rfl
@[simp] theorem tb_21 : tb 21 = some { size := 1, bytes := 4, zero := [.d (.int .i32 0)] } := rfl
@[simp] theorem tb_22 : tb 22 = some { size := 1, bytes := 24, zero := [.nl], sl := some 3 } := rfl
@[simp] theorem tb_23 : tb 23 = some { size := 1, bytes := 24, zero := [.nl], sl := some 119 } := rfl
@[simp] theorem tb_24 : tb 24 = some { size := 1, bytes := 24, zero := [.nl], sl := some 119 } := rfl
@[simp] theorem tb_25 : tb 25 = some { agg := true, size := 2, bytes := 32, zero := [.d (.bool false), .nl], flds := [(0, 4), (1, 24)] } := rfl
@[simp] theorem tb_26 : tb 26 = some { agg := true, size := 2, bytes := 32, zero := [.d (.bool false), .nl], flds := [(0, 4), (1, 24)] } := rfl
@[simp] theorem tb_27 : tb 27 = some { agg := true, size := 3, bytes := 56, zero := [.d (.bool false), .nl, .nl], flds := [(0, 26), (2, 24)] } := rfl
@[simp] theorem tb_28 : tb 28 = some { agg := true, size := 3, bytes := 56, zero := [.d (.bool false), .nl, .nl], flds := [(0, 26), (2, 24)] } := rfl
@[simp] theorem tb_29 : tb 29 = some { agg := true, size := 5, bytes := 88, zero := [.d (.int .i64 0), .nl, .d (.bool false), .nl, .nl], flds := [(0, 3), (1, 22), (2, 28)] } := rfl
@[simp] theorem tb_30 : tb 30 = some { agg := true, size := 5, bytes := 88, zero := [.d (.int .i64 0), .nl, .d (.bool false), .nl, .nl], flds := [(0, 3), (1, 22), (2, 28)] } := rfl
@[simp] theorem tb_31 : tb 31 = some { size := 1, bytes := 8, zero := [.d .nilFn] } := rfl
@[simp] theorem tb_32 : tb 32 = some { size := 1, bytes := 8, zero := [.d .nilFn] } := rfl
@[simp] theorem tb_33 : tb 33 = some { size := 1, bytes := 8, zero := [.d .nilFn] } := rfl
@[simp] theorem tb_34 : tb 34 = some { size := 1, bytes := 8, zero := [.d .nilFn] } := rfl
@[simp] theorem tb_35 : tb 35 = some { size := 1, bytes := 8, zero := [.d .nilFn] } := rfl
@[simp] theorem tb_36 : tb 36 = some { size := 1, bytes := 8, zero := [.d .nilFn] } := rfl
@[simp] theorem tb_37 : tb 37 = some { size := 1, bytes := 24, zero := [.nl], sl := some 30 } := rfl
@[simp] theorem tb_38 : tb 38 = some { size := 1, bytes := 8, zero := [.d .nilFn] } := rfl
@[simp] theorem tb_39 : tb 39 = some { size := 1, bytes := 8, zero := [.d .nilFn] } := rfl
@[simp] theorem tb_40 : tb 40 = some { size := 1, bytes := 8, zero := [.d (.int .i64 0)] } := rfl
@[simp] theorem tb_42 : tb 42 = some { size := 1, bytes := 8, zero := [.d .nilFn] } := rfl
@[simp] theorem tb_43 : tb 43 = some { size := 1, bytes := 8, zero := [.d .nilFn] } := rfl
@[simp] theorem tb_44 : tb 44 = some { size := 1, bytes := 8, zero := [.d .nilFn] } := rfl
@[simp] theorem tb_45 : tb 45 = some { size := 1, bytes := 8, zero := [.d .nilFn] } := rfl
@[simp] theorem tb_46 : tb 46 = some { size := 1, bytes := 8, zero := [.d .nilFn] } := rfl
@[simp] theorem tb_47 : tb 47 = some { agg := true, size := 1, bytes := 8, zero := [.d .nilFn], flds := [(0, 34)] } := rfl
@[simp] theorem tb_48 : tb 48 = some { agg := true, size := 1, bytes := 8, zero := [.d .nilFn], flds := [(0, 34)] } := rfl
@[simp] theorem tb_49 : tb 49 = some { size := 1, bytes := 8, zero := [.d .nilFn] } := rfl
@[simp] theorem tb_50 : tb 50 = some { size := 1, bytes := 8, zero := [.d .nilFn] } := rfl
@[simp] theorem tb_51 : tb 51 = some { agg := true, size := 2, bytes := 16, zero := [.d (.int .i64 0), .d (.int .i64 0)], flds := [(0, 3), (1, 3)], flat := true } := rfl
@[simp] theorem tb_52 : tb 52 = some { agg := true, size := 2, bytes := 16, zero := [.d (.int .i64 0), .d (.int .i64 0)], flds := [(0, 3), (1, 3)], flat := true } := rfl
@[simp] theorem tb_53 : tb 53 = some { size := 1, bytes := 8, zero := [.d .nilFn] } := rfl
@[simp] theorem tb_54 : tb 54 = some { size := 1, bytes := 8, zero := [.d .nilFn] } := rfl
@[simp] theorem tb_55 : tb 55 = some { size := 1, bytes := 8, zero := [.d .nilFn] } := rfl
@[simp] theorem tb_56 : tb 56 = some { size := 1, bytes := 8, zero := [.d .nilFn] } := rfl
@[simp] theorem tb_57 : tb 57 = some { size := 1, bytes := 24, zero := [.nl], sl := some 60 } := rfl
@[simp] theorem tb_58 : tb 58 = some { size := 1, bytes := 8, zero := [.d .nilFn] } := rfl
@[simp] theorem tb_59 : tb 59 = some { agg := true, size := 2, bytes := 16, zero := [.d (.int .i64 0), .d (.int .i64 0)], arr := some (2, 3), flat := true } := rfl
@[simp] theorem tb_60 : tb 60 = some { agg := true, size := 2, bytes := 16, zero := [.d (.int .i64 0), .d (.int .i64 0)], arr := some (2, 3), flat := true } := rfl
@[simp] theorem tb_61 : tb 61 = some { size := 1, bytes := 8, zero := [.d .nilFn] } := rfl
@[simp] theorem tb_62 : tb 62 = some { size := 1, bytes := 8, zero := [.d .nilFn] } := rfl
@[simp] theorem tb_63 : tb 63 = some { size := 1, bytes := 8, zero := [.d .nilFn] } := rfl
@[simp] theorem tb_64 : tb 64 = some { size := 1, bytes := 8, zero := [.d .nilFn] } := rfl
@[simp] theorem tb_65 : tb 65 = some { size := 1, bytes := 8, zero := [.d .nilFn] } := rfl
@[simp] theorem tb_66 : tb 66 = some { size := 1, bytes := 8, zero := [.d .nilFn] } := rfl
@[simp] theorem tb_67 : tb 67 = some { size := 1, bytes := 8, zero := [.d .nilFn] } := rfl
@[simp] theorem tb_68 : tb 68 = some { size := 1, bytes := 8, zero := [.d .nilFn] } := rfl
@[simp] theorem tb_69 : tb 69 = some { size := 1, bytes := 8, zero := [.d .nilFn] } := rfl
@[simp] theorem tb_70 : tb 70 = some { size := 1, bytes := 24, zero := [.nl], sl := some 73 } := rfl
@[simp] theorem tb_71 : tb 71 = some { size := 1, bytes := 8, zero := [.d .nilFn] } := rfl
@[simp] theorem tb_72 : tb 72 = some { agg := true, size := 2, bytes := 32, zero := [.nl, .d (.bool false)], flds := [(0, 22), (1, 4)] } := rfl
@[simp] theorem tb_73 : tb 73 = some { agg := true, size := 2, bytes := 32, zero := [.nl, .d (.bool false)], flds := [(0, 22), (1, 4)] } := rfl
@[simp] theorem tb_74 : tb 74 = some { size := 1, bytes := 8, zero := [.d .nilFn] } := rfl
@[simp] theorem tb_75 : tb 75 = some { size := 1, bytes := 8, zero := [.d .nilFn] } := rfl
@[simp] theorem tb_76 : tb 76 = some { size := 1, bytes := 8, zero := [.d .nilFn] } := rfl
@[simp] theorem tb_77 : tb 77 = some { size := 1, bytes := 8, zero := [.d .nilFn] } := rfl
@[simp] theorem tb_78 : tb 78 = some { size := 1, bytes := 8, zero := [.d .nilFn] } := rfl
@[simp] theorem tb_79 : tb 79 = some { size := 1, bytes := 8, zero := [.d .nilFn] } := rfl
@[simp] theorem tb_80 : tb 80 = some { size := 1, bytes := 8, zero := [.d .nilFn] } := rfl
@[simp] theorem tb_82 : tb 82 = some { size := 1, bytes := 8, zero := [.d .nilFn] } := rfl
@[simp] theorem tb_83 : tb 83 = some { size := 1, bytes := 8, zero := [.d .nilFn] } := rfl
@[simp] theorem tb_84 : tb 84 = some { size := 1, bytes := 8, zero := [.d .nilFn] } := rfl
@[simp] theorem tb_85 : tb 85 = some { size := 1, bytes := 8, zero := [.d .nilFn] } := rfl
@[simp] theorem tb_86 : tb 86 = some { size := 1, bytes := 8, zero := [.d .nilFn] } := rfl
@[simp] theorem tb_87 : tb 87 = some { size := 1, bytes := 8, zero := [.d (.int .u64 0)] } := rfl
@[simp] theorem tb_88 : tb 88 = some { size := 1, bytes := 8, zero := [.d .nilFn] } := rfl
@[simp] theorem tb_89 : tb 89 = some { size := 1, bytes := 8, zero := [.d .nilFn] } := rfl
@[simp] theorem tb_91 : tb 91 = some { size := 1, bytes := 8, zero := [.d .nilFn] } := rfl
@[simp] theorem tb_92 : tb 92 = some { size := 1, bytes := 8, zero := [.d .nilFn] } := rfl
@[simp] theorem tb_93 : tb 93 = some { size := 1, bytes := 8, zero := [.d .nilFn] } := rfl
@[simp] theorem tb_94 : tb 94 = some { size := 1, bytes := 8, zero := [.d .nilFn] } := rfl
@[simp] theorem tb_95 : tb 95 = some { size := 1, bytes := 8, zero := [.d .nilFn] } := rfl
@[simp] theorem tb_96 : tb 96 = some { size := 1, bytes := 8, zero := [.d .nilFn] } := rfl
@[simp] theorem tb_97 : tb 97 = some { size := 1, bytes := 8, zero := [.d .nilFn] } := rfl
@[simp] theorem tb_98 : tb 98 = some { size := 1, bytes := 8, zero := [.d .nilFn] } := rfl
@[simp] theorem tb_99 : tb 99 = some { size := 1, bytes := 8, zero := [.d .nilFn] } := rfl
@[simp] theorem tb_100 : tb 100 = some { size := 1, bytes := 8, zero := [.d .nilFn] } := rfl
@[simp] theorem tb_101 : tb 101 = some { size := 1, bytes := 8, zero := [.d .nilFn] } := rfl
@[simp] theorem tb_102 : tb 102 = some { size := 1, bytes := 8, zero := [.d .nilFn] } := rfl
@[simp] theorem tb_104 : tb 104 = some { size := 1, bytes := 8, zero := [.d .nilFn] } := rfl
@[simp] theorem tb_105 : tb 105 = some { size := 1, bytes := 8, zero := [.d .nilFn] } := rfl
@[simp] theorem tb_106 : tb 106 = some { size := 1, bytes := 8, zero := [.d .nilFn] } := rfl
@[simp] theorem tb_107 : tb 107 = some { size := 1, bytes := 8, zero := [.d .nilFn] } := rfl
@[simp] theorem tb_108 : tb 108 = some { size := 1, bytes := 8, zero := [.d .nilFn] } := rfl
@[simp] theorem tb_109 : tb 109 = some { size := 1, bytes := 8, zero := [.d .nilFn] } := rfl
@[simp] theorem tb_110 : tb 110 = some { size := 1, bytes := 8, zero := [.d .nilFn] } := rfl
@[simp] theorem tb_111 : tb 111 = some { size := 1, bytes := 8, zero := [.d (.int .u64 0)] } := rfl
@[simp] theorem tb_112 : tb 112 = some { agg := true, size := 4, bytes := 32, zero := [.d (.int .i64 0), .d (.int .i64 0), .d (.int .i64 0), .d (.int .i64 0)], arr := some (4, 3), flat := true } := rfl
@[simp] theorem tb_113 : tb 113 = some { agg := true, size := 32, bytes := 256, zero := List.replicate 32 (.d (.int .i64 0)), arr := some (8, 112) } := rfl
@[simp] theorem tb_114 : tb 114 = some { size := 1, bytes := 8, zero := [.d .nilFn] } := rfl
@[simp] theorem tb_115 : tb 115 = some { size := 1, bytes := 8, zero := [.d .nilFn] } := rfl
@[simp] theorem tb_116 : tb 116 = some { size := 1, bytes := 8, zero := [.d .nilFn] } := rfl
@[simp] theorem tb_118 : tb 118 = some { size := 1, bytes := 8, zero := [.d .nilFn] } := rfl
@[simp] theorem tb_119 : tb 119 = some { size := 1, bytes := 2, zero := [.d (.int .u16 0)] } := rfl
@[simp] theorem tb_120 : tb 120 = some { size := 1, bytes := 8, zero := [.d .nilFn] } := rfl
@[simp] theorem tb_121 : tb 121 = some { size := 1, bytes := 8, zero := [.d .nilFn] } := rfl
@[simp] theorem tb_122 : tb 122 = some { agg := true, size := 4, bytes := 32, zero := [.d (.int .i64 0), .d (.int .i64 0), .d (.int .i64 0), .d (.int .i64 0)], arr := some (2, 60) } := rfl
@[simp] theorem tb_123 : tb 123 = some { size := 1, bytes := 8, zero := [.d .nilPtr] } := rfl
@[simp] theorem tb_124 : tb 124 = some { size := 1, bytes := 24, zero := [.nl], sl := some 123 } := rfl
@[simp] theorem tb_125 : tb 125 = some { size := 1, bytes := 8, zero := [.d .nilFn] } := rfl
@[simp] theorem tb_126 : tb 126 = some { size := 1, bytes := 24, zero := [.nl], sl := some 52 } := rfl
@[simp] theorem tb_127 : tb 127 = some { size := 1, bytes := 8, zero := [.d .nilFn] } := rfl
@[simp] theorem tb_128 : tb 128 = some { size := 1, bytes := 8, zero := [.d .nilFn] } := rfl
@[simp] theorem tb_129 : tb 129 = some { size := 1, bytes := 8, zero := [.d .nilFn] } := rfl
@[simp] theorem tb_130 : tb 130 = some { size := 1, bytes := 8, zero := [.d .nilFn] } := rfl
@[simp] theorem tb_131 : tb 131 = some { size := 1, bytes := 8, zero := [.d .nilFn] } := rfl
@[simp] theorem tb_132 : tb 132 = some { size := 1, bytes := 8, zero := [.d (.int .i64 0)] } := rfl
@[simp] theorem tb_134 : tb 134 = some { size := 1, bytes := 8, zero := [.d .nilFn] } := rfl
@[simp] theorem tb_135 : tb 135 = some { size := 1, bytes := 8, zero := [.d .nilFn] } := rfl
@[simp] theorem tb_136 : tb 136 = some { size := 1, bytes := 8, zero := [.d .nilFn] } := rfl
@[simp] theorem tb_137 : tb 137 = some { size := 1, bytes := 8, zero := [.d .nilFn] } := rfl
@[simp] theorem tb_138 : tb 138 = some { size := 1, bytes := 8, zero := [.d .nilFn] } := rfl
@[simp] theorem tb_139 : tb 139 = some { size := 1, bytes := 4, zero := [.d (.int .u32 0)] } := rfl
@[simp] theorem tb_140 : tb 140 = some { size := 1, bytes := 8, zero := [.d .nilFn] } := rfl
@[simp] theorem tb_141 : tb 141 = some { size := 1, bytes := 8, zero := [.d .nilFn] } := rfl
@[simp] theorem tb_142 : tb 142 = some { size := 1, bytes := 8, zero := [.d .nilFn] } := rfl
@[simp] theorem tb_143 : tb 143 = some { size := 1, bytes := 8, zero := [.d .nilFn] } := rfl
@[simp] theorem tb_145 : tb 145 = some { size := 1, bytes := 8, zero := [.d .nilFn] } := rfl
@[simp] theorem tb_146 : tb 146 = some { size := 1, bytes := 8, zero := [.d .nilFn] } := rfl
@[simp] theorem tb_147 : tb 147 = some { size := 1, bytes := 8, zero := [.d .nilFn] } := rfl
@[simp] theorem tb_148 : tb 148 = some { size := 1, bytes := 8, zero := [.d (.int .u64 0)] } := rfl
@[simp] theorem tb_149 : tb 149 = some { size := 1, bytes := 8, zero := [.d .nilFn] } := rfl
@[simp] theorem tb_150 : tb 150 = some { size := 1, bytes := 8, zero := [.d .nilFn] } := rfl
@[simp] theorem tb_151 : tb 151 = some { size := 1, bytes := 8, zero := [.d .nilFn] } := rfl
@[simp] theorem tb_152 : tb 152 = some { size := 1, bytes := 8, zero := [.d .nilPtr] } := rfl
@[simp] theorem tb_153 : tb 153 = some { size := 1, bytes := 8, zero := [.d .nilFn] } := rfl
@[simp] theorem tb_154 : tb 154 = some { agg := true, size := 2, bytes := 16, zero := [.d (.int .i64 0), .d (.int .u16 0)], flds := [(0, 3), (1, 119)], flat := true } := rfl
@[simp] theorem tb_155 : tb 155 = some { agg := true, size := 2, bytes := 16, zero := [.d (.int .i64 0), .d (.int .u16 0)], flds := [(0, 3), (1, 119)], flat := true } := rfl
@[simp] theorem tb_157 : tb 157 = some { size := 1, bytes := 8, zero := [.d .nilFn] } := rfl
@[simp] theorem tb_158 : tb 158 = some { size := 1, bytes := 8, zero := [.d .nilFn] } := rfl
@[simp] theorem tb_159 : tb 159 = some { size := 1, bytes := 8, zero := [.d .nilFn] } := rfl
@[simp] theorem tb_160 : tb 160 = some { size := 1, bytes := 8, zero := [.d .nilFn] } := rfl
@[simp] theorem tb_161 : tb 161 = some { size := 1, bytes := 8, zero := [.d .nilFn] } := rfl
@[simp] theorem tb_162 : tb 162 = some { size := 1, bytes := 8, zero := [.d .nilFn] } := rfl
@[simp] theorem tb_163 : tb 163 = some { size := 1, bytes := 8, zero := [.d .nilFn] } := rfl
@[simp] theorem tb_164 : tb 164 = some { size := 1, bytes := 8, zero := [.d .nilPtr] } := rfl
@[simp] theorem tb_166 : tb 166 = some { size := 1, bytes := 8, zero := [.d .nilFn] } := rfl
@[simp] theorem tb_168 : tb 168 = some { size := 1, bytes := 8, zero := [.d .nilFn] } := rfl
@[simp] theorem tb_169 : tb 169 = some { size := 1, bytes := 8, zero := [.d .nilFn] } := rfl
@[simp] theorem tb_170 : tb 170 = some { size := 1, bytes := 8, zero := [.d .nilFn] } := rfl
@[simp] theorem tb_171 : tb 171 = some { size := 1, bytes := 8, zero := [.d .nilFn] } := rfl
@[simp] theorem tb_172 : tb 172 = some { size := 1, bytes := 8, zero := [.d .nilFn] } := rfl
@[simp] theorem tb_173 : tb 173 = some { size := 1, bytes := 8, zero := [.d .nilFn] } := rfl
@[simp] theorem tb_174 : tb 174 = some { size := 1, bytes := 8, zero := [.d .nilFn] } := rfl
@[simp] theorem tb_175 : tb 175 = some { size := 1, bytes := 8, zero := [.d .nilFn] } := rfl
@[simp] theorem tb_176 : tb 176 = some { agg := true, size := 4, bytes := 40, zero := [.d .nilPtr, .d .nilPtr, .d .nilPtr, .d (.str ByteArray.empty)], flds := [(0, 17), (1, 17), (2, 17), (3, 9)] } := rfl
@[simp] theorem tb_177 : tb 177 = some { agg := true, size := 4, bytes := 40, zero := [.d .nilPtr, .d .nilPtr, .d .nilPtr, .d (.str ByteArray.empty)], flds := [(0, 17), (1, 17), (2, 17), (3, 9)] } := rfl
@[simp] theorem tb_178 : tb 178 = some { agg := true, size := 0, bytes := 0, zero := [], arr := some (0, 16) } := rfl
@[simp] theorem tb_179 : tb 179 = some { agg := true, size := 0, bytes := 0, zero := [], flds := [(0, 178)] } := rfl
@[simp] theorem tb_180 : tb 180 = some { agg := true, size := 0, bytes := 0, zero := [], flds := [(0, 178)] } := rfl
@[simp] theorem tb_181 : tb 181 = some { size := 1, bytes := 8, zero := [.d .nilFn] } := rfl
@[simp] theorem tb_182 : tb 182 = some { size := 1, bytes := 1, zero := [.d (.int .u8 0)] } := rfl
@[simp] theorem tb_183 : tb 183 = some { size := 1, bytes := 1, zero := [.d (.int .u8 0)] } := rfl
@[simp] theorem tb_184 : tb 184 = some { size := 1, bytes := 8, zero := [.d .nilFn] } := rfl
@[simp] theorem tb_185 : tb 185 = some { size := 1, bytes := 8, zero := [.d .nilPtr] } := rfl
@[simp] theorem tb_186 : tb 186 = some { size := 1, bytes := 4, zero := [.d (.int .i32 0)] } := rfl
@[simp] theorem tb_187 : tb 187 = some { size := 1, bytes := 4, zero := [.d (.int .i32 0)] } := rfl
@[simp] theorem tb_188 : tb 188 = some { agg := true, size := 11, bytes := 48, zero := [.d (.int .u64 0), .d (.int .u64 0), .d (.int .u32 0), .d (.int .u8 0), .d (.int .u8 0), .d (.int .u8 0), .d (.int .u8 0), .d .nilFn, .d .nilPtr, .d (.int .i32 0), .d (.int .i32 0)], flds := [(0, 12), (1, 12), (2, 139), (3, 182), (4, 5), (5, 5), (6, 183), (7, 184), (8, 185), (9, 186), (10, 187)] } := rfl
@[simp] theorem tb_189 : tb 189 = some { agg := true, size := 11, bytes := 48, zero := [.d (.int .u64 0), .d (.int .u64 0), .d (.int .u32 0), .d (.int .u8 0), .d (.int .u8 0), .d (.int .u8 0), .d (.int .u8 0), .d .nilFn, .d .nilPtr, .d (.int .i32 0), .d (.int .i32 0)], flds := [(0, 12), (1, 12), (2, 139), (3, 182), (4, 5), (5, 5), (6, 183), (7, 184), (8, 185), (9, 186), (10, 187)] } := rfl
end Go.Va
