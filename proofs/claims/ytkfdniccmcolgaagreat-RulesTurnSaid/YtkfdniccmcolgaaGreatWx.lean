/-
  The types of the program, as the walk knows them.
-/
import Derived.Test.YtkfdniccmcolgaaGreatWa
import Derived.Test.YtkfdniccmcolgaaGreatProg
set_option linter.all false

namespace Go.Va
open Go.Proofs
set_option maxRecDepth 20000

def ti1 : TI := { size := 1, bytes := 8, zero := [.d .nilFn] }
def ti2 : TI := { size := 1, bytes := 8, zero := [.d (.int .i64 0)] }
def ti3 : TI := { size := 1, bytes := 8, zero := [.d (.int .i64 0)] }
def ti4 : TI := { size := 1, bytes := 1, zero := [.d (.bool false)] }
def ti5 : TI := { size := 1, bytes := 1, zero := [.d (.int .u8 0)] }
def ti6 : TI := { size := 1, bytes := 1, zero := [.d (.int .u8 0)] }
def ti7 : TI := { agg := true, size := 4, bytes := 24, zero := [.d (.int .i64 0), .d (.int .i64 0), .d (.bool false), .d (.int .u8 0)], flds := [(0, 2), (1, 3), (2, 4), (3, 6)], flat := true }
def ti8 : TI := { agg := true, size := 4, bytes := 24, zero := [.d (.int .i64 0), .d (.int .i64 0), .d (.bool false), .d (.int .u8 0)], flds := [(0, 2), (1, 3), (2, 4), (3, 6)], flat := true }
def ti9 : TI := { size := 1, bytes := 16, zero := [.d (.str ByteArray.empty)] }
def ti10 : TI := { size := 1, bytes := 16, zero := [.d (.str ByteArray.empty)] }
def ti11 : TI := { size := 1, bytes := 16, zero := [.d (.str ByteArray.empty)] }
def ti12 : TI := { size := 1, bytes := 8, zero := [.d (.int .u64 0)] }
def ti13 : TI := { agg := true, size := 2, bytes := 24, zero := [.d (.str ByteArray.empty), .d (.int .u64 0)], flds := [(0, 9), (1, 12)] }
def ti14 : TI := { agg := true, size := 2, bytes := 24, zero := [.d (.str ByteArray.empty), .d (.int .u64 0)], flds := [(0, 9), (1, 12)] }
def ti15 : TI := { size := 1, bytes := 8, zero := [.d .nilPtr] }
def ti16 : TI := { size := 1, bytes := 8, zero := [.d .nilPtr] }
def ti17 : TI := { size := 1, bytes := 8, zero := [.d .nilPtr] }
def ti18 : TI := { agg := true, size := 1, bytes := 8, zero := [.d .nilPtr], flds := [(0, 17)] }
def ti19 : TI := { agg := true, size := 1, bytes := 8, zero := [.d .nilPtr], flds := [(0, 17)] }
def ti21 : TI := { size := 1, bytes := 4, zero := [.d (.int .i32 0)] }
def ti22 : TI := { size := 1, bytes := 24, zero := [.nl], sl := some 39 }
def ti23 : TI := { size := 1, bytes := 8, zero := [.d .nilFn] }
def ti24 : TI := { size := 1, bytes := 8, zero := [.d .nilFn] }
def ti25 : TI := { size := 1, bytes := 24, zero := [.nl], sl := some 60 }
def ti27 : TI := { size := 1, bytes := 8, zero := [.d .nilFn] }
def ti28 : TI := { size := 1, bytes := 8, zero := [.d .nilFn] }
def ti29 : TI := { size := 1, bytes := 8, zero := [.d .nilFn] }
def ti30 : TI := { size := 1, bytes := 8, zero := [.d .nilFn] }
def ti31 : TI := { size := 1, bytes := 24, zero := [.nl], sl := some 3 }
def ti32 : TI := { size := 1, bytes := 24, zero := [.nl], sl := some 139 }
def ti33 : TI := { size := 1, bytes := 24, zero := [.nl], sl := some 139 }
def ti34 : TI := { agg := true, size := 2, bytes := 32, zero := [.d (.bool false), .nl], flds := [(0, 4), (1, 33)] }
def ti35 : TI := { agg := true, size := 2, bytes := 32, zero := [.d (.bool false), .nl], flds := [(0, 4), (1, 33)] }
def ti36 : TI := { agg := true, size := 3, bytes := 56, zero := [.d (.bool false), .nl, .nl], flds := [(0, 35), (2, 33)] }
def ti37 : TI := { agg := true, size := 3, bytes := 56, zero := [.d (.bool false), .nl, .nl], flds := [(0, 35), (2, 33)] }
def ti38 : TI := { agg := true, size := 5, bytes := 88, zero := [.d (.int .i64 0), .nl, .d (.bool false), .nl, .nl], flds := [(0, 3), (1, 31), (2, 37)] }
def ti39 : TI := { agg := true, size := 5, bytes := 88, zero := [.d (.int .i64 0), .nl, .d (.bool false), .nl, .nl], flds := [(0, 3), (1, 31), (2, 37)] }
def ti41 : TI := { size := 1, bytes := 8, zero := [.d .nilFn] }
def ti42 : TI := { size := 1, bytes := 8, zero := [.d .nilFn] }
def ti43 : TI := { size := 1, bytes := 8, zero := [.d .nilFn] }
def ti44 : TI := { size := 1, bytes := 8, zero := [.d .nilFn] }
def ti45 : TI := { size := 1, bytes := 8, zero := [.d .nilFn] }
def ti46 : TI := { size := 1, bytes := 8, zero := [.d .nilFn] }
def ti47 : TI := { size := 1, bytes := 8, zero := [.d .nilFn] }
def ti48 : TI := { size := 1, bytes := 24, zero := [.nl], sl := some 86 }
def ti49 : TI := { size := 1, bytes := 8, zero := [.d .nilFn] }
def ti50 : TI := { size := 1, bytes := 8, zero := [.d (.int .i64 0)] }
def ti52 : TI := { size := 1, bytes := 8, zero := [.d .nilFn] }
def ti53 : TI := { size := 1, bytes := 8, zero := [.d .nilFn] }
def ti54 : TI := { size := 1, bytes := 8, zero := [.d .nilFn] }
def ti55 : TI := { size := 1, bytes := 8, zero := [.d .nilFn] }
def ti56 : TI := { size := 1, bytes := 8, zero := [.d .nilFn] }
def ti57 : TI := { size := 1, bytes := 8, zero := [.d .nilFn] }
def ti58 : TI := { size := 1, bytes := 8, zero := [.d .nilFn] }
def ti59 : TI := { agg := true, size := 2, bytes := 32, zero := [.d (.int .i64 0), .nl], flds := [(0, 3), (1, 31)] }
def ti60 : TI := { agg := true, size := 2, bytes := 32, zero := [.d (.int .i64 0), .nl], flds := [(0, 3), (1, 31)] }
def ti61 : TI := { size := 1, bytes := 24, zero := [.nl], sl := some 64 }
def ti62 : TI := { size := 1, bytes := 8, zero := [.d .nilFn] }
def ti63 : TI := { agg := true, size := 6, bytes := 112, zero := [.d (.int .i64 0), .nl, .d (.bool false), .nl, .nl, .nl], flds := [(0, 39), (5, 25)] }
def ti64 : TI := { agg := true, size := 6, bytes := 112, zero := [.d (.int .i64 0), .nl, .d (.bool false), .nl, .nl, .nl], flds := [(0, 39), (5, 25)] }
def ti65 : TI := { size := 1, bytes := 8, zero := [.d .nilFn] }
def ti66 : TI := { size := 1, bytes := 24, zero := [.nl], sl := some 69 }
def ti67 : TI := { size := 1, bytes := 8, zero := [.d .nilFn] }
def ti68 : TI := { agg := true, size := 6, bytes := 112, zero := [.d (.int .i64 0), .nl, .d (.bool false), .nl, .nl, .nl], flds := [(0, 39), (5, 25)] }
def ti69 : TI := { agg := true, size := 6, bytes := 112, zero := [.d (.int .i64 0), .nl, .d (.bool false), .nl, .nl, .nl], flds := [(0, 39), (5, 25)] }
def ti70 : TI := { size := 1, bytes := 8, zero := [.d .nilFn] }
def ti71 : TI := { size := 1, bytes := 8, zero := [.d .nilFn] }
def ti72 : TI := { size := 1, bytes := 8, zero := [.d .nilFn] }
def ti73 : TI := { size := 1, bytes := 8, zero := [.d .nilFn] }
def ti74 : TI := { size := 1, bytes := 24, zero := [.nl], sl := some 155 }
def ti75 : TI := { size := 1, bytes := 8, zero := [.d .nilFn] }
def ti76 : TI := { agg := true, size := 6, bytes := 104, zero := [.d (.str ByteArray.empty), .nl, .nl, .nl, .d (.int .i64 0), .d .nilFn], flds := [(0, 9), (1, 74), (2, 74), (3, 74), (4, 3), (5, 75)] }
def ti77 : TI := { agg := true, size := 6, bytes := 104, zero := [.d (.str ByteArray.empty), .nl, .nl, .nl, .d (.int .i64 0), .d .nilFn], flds := [(0, 9), (1, 74), (2, 74), (3, 74), (4, 3), (5, 75)] }
def ti78 : TI := { size := 1, bytes := 8, zero := [.d .nilFn] }
def ti79 : TI := { size := 1, bytes := 24, zero := [.nl], sl := some 177 }
def ti80 : TI := { agg := true, size := 4, bytes := 88, zero := [.d (.str ByteArray.empty), .nl, .nl, .nl], flds := [(0, 9), (1, 79), (2, 79), (3, 79)] }
def ti81 : TI := { agg := true, size := 4, bytes := 88, zero := [.d (.str ByteArray.empty), .nl, .nl, .nl], flds := [(0, 9), (1, 79), (2, 79), (3, 79)] }
def ti82 : TI := { size := 1, bytes := 8, zero := [.d .nilFn] }
def ti83 : TI := { size := 1, bytes := 24, zero := [.nl], sl := some 37 }
def ti84 : TI := { size := 1, bytes := 8, zero := [.d .nilFn] }
def ti85 : TI := { agg := true, size := 6, bytes := 112, zero := [.d (.bool false), .nl, .nl, .d (.bool false), .nl, .nl], flds := [(0, 37), (3, 37)] }
def ti86 : TI := { agg := true, size := 6, bytes := 112, zero := [.d (.bool false), .nl, .nl, .d (.bool false), .nl, .nl], flds := [(0, 37), (3, 37)] }
def ti88 : TI := { size := 1, bytes := 8, zero := [.d .nilFn] }
def ti89 : TI := { size := 1, bytes := 8, zero := [.d .nilFn] }
def ti90 : TI := { size := 1, bytes := 8, zero := [.d .nilFn] }
def ti91 : TI := { agg := true, size := 3, bytes := 40, zero := [.d (.int .i64 0), .nl, .d (.int .i64 0)], flds := [(0, 3), (1, 31), (2, 3)] }
def ti92 : TI := { agg := true, size := 3, bytes := 40, zero := [.d (.int .i64 0), .nl, .d (.int .i64 0)], flds := [(0, 3), (1, 31), (2, 3)] }
def ti93 : TI := { size := 1, bytes := 8, zero := [.d .nilFn] }
def ti94 : TI := { size := 1, bytes := 8, zero := [.d .nilFn] }
def ti95 : TI := { size := 1, bytes := 8, zero := [.d .nilFn] }
def ti96 : TI := { size := 1, bytes := 8, zero := [.d .nilFn] }
def ti97 : TI := { size := 1, bytes := 8, zero := [.d (.int .u64 0)] }
def ti98 : TI := { size := 1, bytes := 8, zero := [.d .nilFn] }
def ti99 : TI := { size := 1, bytes := 8, zero := [.d .nilFn] }
def ti100 : TI := { size := 1, bytes := 8, zero := [.d .nilFn] }
def ti101 : TI := { size := 1, bytes := 8, zero := [.d .nilFn] }
def ti102 : TI := { size := 1, bytes := 8, zero := [.d .nilFn] }
def ti103 : TI := { size := 1, bytes := 8, zero := [.d .nilFn] }
def ti104 : TI := { size := 1, bytes := 8, zero := [.d .nilFn] }
def ti105 : TI := { size := 1, bytes := 8, zero := [.d .nilFn] }
def ti106 : TI := { size := 1, bytes := 8, zero := [.d .nilFn] }
def ti107 : TI := { size := 1, bytes := 8, zero := [.d .nilFn] }
def ti108 : TI := { size := 1, bytes := 8, zero := [.d .nilFn] }
def ti109 : TI := { size := 1, bytes := 8, zero := [.d .nilFn] }
def ti110 : TI := { size := 1, bytes := 8, zero := [.d .nilFn] }
def ti111 : TI := { size := 1, bytes := 2, zero := [.d (.int .i16 0)] }
def ti112 : TI := { agg := true, size := 26, bytes := 52, zero := List.replicate 26 (.d (.int .i16 0)), arr := some (26, 111), flat := true }
def ti113 : TI := { agg := true, size := 26, bytes := 52, zero := List.replicate 26 (.d (.int .i16 0)), arr := some (26, 111), flat := true }
def ti114 : TI := { size := 1, bytes := 8, zero := [.d .nilFn] }
def ti115 : TI := { size := 1, bytes := 8, zero := [.d .nilFn] }
def ti116 : TI := { agg := true, size := 1, bytes := 8, zero := [.d .nilFn], flds := [(0, 72)] }
def ti117 : TI := { agg := true, size := 1, bytes := 8, zero := [.d .nilFn], flds := [(0, 72)] }
def ti118 : TI := { size := 1, bytes := 8, zero := [.d .nilFn] }
def ti119 : TI := { size := 1, bytes := 8, zero := [.d .nilFn] }
def ti120 : TI := { size := 1, bytes := 8, zero := [.d .nilFn] }
def ti121 : TI := { size := 1, bytes := 8, zero := [.d .nilFn] }
def ti122 : TI := { size := 1, bytes := 8, zero := [.d .nilFn] }
def ti124 : TI := { size := 1, bytes := 8, zero := [.d .nilFn] }
def ti125 : TI := { size := 1, bytes := 8, zero := [.d .nilFn] }
def ti126 : TI := { size := 1, bytes := 8, zero := [.d .nilFn] }
def ti127 : TI := { size := 1, bytes := 8, zero := [.d .nilFn] }
def ti128 : TI := { size := 1, bytes := 8, zero := [.d .nilFn] }
def ti129 : TI := { size := 1, bytes := 8, zero := [.d .nilFn] }
def ti130 : TI := { size := 1, bytes := 8, zero := [.d .nilFn] }
def ti131 : TI := { size := 1, bytes := 8, zero := [.d .nilFn] }
def ti132 : TI := { size := 1, bytes := 8, zero := [.d .nilFn] }
def ti133 : TI := { size := 1, bytes := 8, zero := [.d .nilFn] }
def ti134 : TI := { size := 1, bytes := 8, zero := [.d .nilFn] }
def ti136 : TI := { size := 1, bytes := 8, zero := [.d .nilFn] }
def ti137 : TI := { size := 1, bytes := 8, zero := [.d .nilFn] }
def ti138 : TI := { size := 1, bytes := 8, zero := [.d .nilFn] }
def ti139 : TI := { size := 1, bytes := 2, zero := [.d (.int .u16 0)] }
def ti140 : TI := { size := 1, bytes := 8, zero := [.d .nilFn] }
def ti141 : TI := { size := 1, bytes := 24, zero := [.nl], sl := some 144 }
def ti142 : TI := { size := 1, bytes := 8, zero := [.d .nilFn] }
def ti143 : TI := { agg := true, size := 2, bytes := 16, zero := [.d (.int .i64 0), .d (.int .i64 0)], arr := some (2, 3), flat := true }
def ti144 : TI := { agg := true, size := 2, bytes := 16, zero := [.d (.int .i64 0), .d (.int .i64 0)], arr := some (2, 3), flat := true }
def ti145 : TI := { size := 1, bytes := 8, zero := [.d .nilFn] }
def ti146 : TI := { size := 1, bytes := 8, zero := [.d .nilFn] }
def ti147 : TI := { size := 1, bytes := 8, zero := [.d .nilFn] }
def ti148 : TI := { agg := true, size := 26, bytes := 208, zero := List.replicate 26 (.d (.int .i64 0)), arr := some (26, 3), flat := true }
def ti149 : TI := { agg := true, size := 2, bytes := 16, zero := [.d (.int .i64 0), .d (.int .i64 0)], arr := some (2, 3), flat := true }
def ti150 : TI := { agg := true, size := 52, bytes := 416, zero := List.replicate 52 (.d (.int .i64 0)), arr := some (26, 149) }
def ti151 : TI := { agg := true, size := 78, bytes := 624, zero := List.replicate 78 (.d (.int .i64 0)), flds := [(0, 148), (26, 150)] }
def ti152 : TI := { agg := true, size := 78, bytes := 624, zero := List.replicate 78 (.d (.int .i64 0)), flds := [(0, 148), (26, 150)] }
def ti153 : TI := { size := 1, bytes := 8, zero := [.d .nilFn] }
def ti154 : TI := { agg := true, size := 3, bytes := 32, zero := [.d (.int .i64 0), .d (.str ByteArray.empty), .d (.int .i64 0)], flds := [(0, 3), (1, 9), (2, 3)] }
def ti155 : TI := { agg := true, size := 3, bytes := 32, zero := [.d (.int .i64 0), .d (.str ByteArray.empty), .d (.int .i64 0)], flds := [(0, 3), (1, 9), (2, 3)] }
def ti156 : TI := { size := 1, bytes := 8, zero := [.d .nilFn] }
def ti157 : TI := { size := 1, bytes := 8, zero := [.d .nilFn] }
def ti158 : TI := { size := 1, bytes := 8, zero := [.d .nilFn] }
def ti159 : TI := { size := 1, bytes := 8, zero := [.d .nilFn] }
def ti160 : TI := { size := 1, bytes := 8, zero := [.d .nilFn] }
def ti161 : TI := { size := 1, bytes := 8, zero := [.d (.int .u64 0)] }
def ti162 : TI := { size := 1, bytes := 8, zero := [.d .nilFn] }
def ti163 : TI := { size := 1, bytes := 8, zero := [.d .nilFn] }
def ti164 : TI := { agg := true, size := 2, bytes := 16, zero := [.d (.int .i64 0), .d (.int .i64 0)], flds := [(0, 3), (1, 3)], flat := true }
def ti165 : TI := { agg := true, size := 2, bytes := 16, zero := [.d (.int .i64 0), .d (.int .i64 0)], flds := [(0, 3), (1, 3)], flat := true }
def ti166 : TI := { size := 1, bytes := 8, zero := [.d .nilFn] }
def ti167 : TI := { size := 1, bytes := 8, zero := [.d .nilFn] }
def ti168 : TI := { size := 1, bytes := 8, zero := [.d .nilFn] }
def ti169 : TI := { size := 1, bytes := 24, zero := [.nl], sl := some 172 }
def ti170 : TI := { size := 1, bytes := 8, zero := [.d .nilFn] }
def ti171 : TI := { agg := true, size := 5, bytes := 72, zero := [.d (.int .i64 0), .d (.int .i64 0), .d (.bool false), .nl, .nl], flds := [(0, 3), (1, 3), (2, 37)] }
def ti172 : TI := { agg := true, size := 5, bytes := 72, zero := [.d (.int .i64 0), .d (.int .i64 0), .d (.bool false), .nl, .nl], flds := [(0, 3), (1, 3), (2, 37)] }
def ti173 : TI := { size := 1, bytes := 8, zero := [.d .nilFn] }
def ti174 : TI := { size := 1, bytes := 8, zero := [.d .nilFn] }
def ti175 : TI := { size := 1, bytes := 8, zero := [.d .nilFn] }
def ti176 : TI := { agg := true, size := 4, bytes := 40, zero := [.d (.int .i64 0), .d (.str ByteArray.empty), .d (.bool false), .d (.int .i64 0)], flds := [(0, 3), (1, 9), (2, 4), (3, 3)] }
def ti177 : TI := { agg := true, size := 4, bytes := 40, zero := [.d (.int .i64 0), .d (.str ByteArray.empty), .d (.bool false), .d (.int .i64 0)], flds := [(0, 3), (1, 9), (2, 4), (3, 3)] }
def ti178 : TI := { size := 1, bytes := 8, zero := [.d .nilFn] }
def ti179 : TI := { size := 1, bytes := 24, zero := [.nl], sl := some 31 }
def ti180 : TI := { size := 1, bytes := 8, zero := [.d .nilFn] }
def ti182 : TI := { size := 1, bytes := 8, zero := [.d .nilFn] }
def ti183 : TI := { size := 1, bytes := 8, zero := [.d .nilFn] }
def ti184 : TI := { size := 1, bytes := 8, zero := [.d .nilFn] }
def ti185 : TI := { size := 1, bytes := 8, zero := [.d .nilFn] }
def ti186 : TI := { size := 1, bytes := 8, zero := [.d .nilFn] }
def ti187 : TI := { size := 1, bytes := 8, zero := [.d .nilFn] }
def ti188 : TI := { size := 1, bytes := 8, zero := [.d .nilFn] }
def ti189 : TI := { size := 1, bytes := 8, zero := [.d .nilFn] }
def ti190 : TI := { size := 1, bytes := 8, zero := [.d .nilFn] }
def ti191 : TI := { size := 1, bytes := 8, zero := [.d .nilFn] }
def ti192 : TI := { size := 1, bytes := 8, zero := [.d .nilFn] }
def ti193 : TI := { size := 1, bytes := 8, zero := [.d .nilFn] }
def ti194 : TI := { size := 1, bytes := 8, zero := [.d .nilFn] }
def ti195 : TI := { size := 1, bytes := 8, zero := [.d .nilFn] }
def ti196 : TI := { agg := true, size := 6, bytes := 112, zero := [.d (.bool false), .nl, .nl, .d (.bool false), .nl, .nl], arr := some (2, 37) }
def ti197 : TI := { agg := true, size := 6, bytes := 112, zero := [.d (.bool false), .nl, .nl, .d (.bool false), .nl, .nl], arr := some (2, 37) }
def ti198 : TI := { size := 1, bytes := 8, zero := [.d .nilFn] }
def ti199 : TI := { size := 1, bytes := 8, zero := [.d .nilFn] }
def ti200 : TI := { size := 1, bytes := 8, zero := [.d .nilFn] }
def ti201 : TI := { size := 1, bytes := 8, zero := [.d .nilFn] }
def ti202 : TI := { size := 1, bytes := 8, zero := [.d .nilFn] }
def ti204 : TI := { size := 1, bytes := 8, zero := [.d .nilFn] }
def ti205 : TI := { size := 1, bytes := 8, zero := [.d .nilFn] }
def ti206 : TI := { size := 1, bytes := 8, zero := [.d .nilFn] }
def ti207 : TI := { size := 1, bytes := 8, zero := [.d .nilFn] }
def ti208 : TI := { size := 1, bytes := 8, zero := [.d .nilFn] }
def ti210 : TI := { size := 1, bytes := 8, zero := [.d .nilFn] }
def ti211 : TI := { size := 1, bytes := 24, zero := [.nl], sl := some 213 }
def ti212 : TI := { size := 1, bytes := 8, zero := [.d .nilFn] }
def ti213 : TI := { size := 1, bytes := 24, zero := [.nl], sl := some 149 }
def ti214 : TI := { size := 1, bytes := 8, zero := [.d .nilFn] }
def ti215 : TI := { size := 1, bytes := 8, zero := [.d .nilFn] }
def ti216 : TI := { size := 1, bytes := 8, zero := [.d .nilFn] }
def ti217 : TI := { size := 1, bytes := 8, zero := [.d .nilFn] }
def ti218 : TI := { size := 1, bytes := 8, zero := [.d (.int .i64 0)] }
def ti220 : TI := { size := 1, bytes := 8, zero := [.d .nilFn] }
def ti221 : TI := { size := 1, bytes := 8, zero := [.d .nilFn] }
def ti222 : TI := { size := 1, bytes := 8, zero := [.d .nilFn] }
def ti224 : TI := { size := 1, bytes := 8, zero := [.d .nilFn] }
def ti225 : TI := { size := 1, bytes := 8, zero := [.d .nilFn] }
def ti226 : TI := { size := 1, bytes := 4, zero := [.d (.int .u32 0)] }
def ti227 : TI := { size := 1, bytes := 8, zero := [.d .nilFn] }
def ti228 : TI := { size := 1, bytes := 8, zero := [.d .nilFn] }
def ti229 : TI := { size := 1, bytes := 8, zero := [.d .nilFn] }
def ti230 : TI := { size := 1, bytes := 8, zero := [.d .nilFn] }
def ti231 : TI := { size := 1, bytes := 8, zero := [.d .nilFn] }
def ti232 : TI := { size := 1, bytes := 8, zero := [.d .nilFn] }
def ti233 : TI := { size := 1, bytes := 8, zero := [.d .nilFn] }
def ti234 : TI := { size := 1, bytes := 8, zero := [.d .nilFn] }
def ti235 : TI := { size := 1, bytes := 8, zero := [.d .nilFn] }
def ti237 : TI := { size := 1, bytes := 8, zero := [.d .nilFn] }
def ti238 : TI := { size := 1, bytes := 8, zero := [.d .nilFn] }
def ti239 : TI := { size := 1, bytes := 8, zero := [.d .nilFn] }
def ti240 : TI := { size := 1, bytes := 8, zero := [.d .nilFn] }
def ti241 : TI := { size := 1, bytes := 8, zero := [.d .nilFn] }
def ti242 : TI := { size := 1, bytes := 8, zero := [.d .nilFn] }
def ti243 : TI := { agg := true, size := 4, bytes := 32, zero := [.d (.int .i64 0), .d (.int .i64 0), .d (.int .i64 0), .d (.int .i64 0)], arr := some (2, 144) }
def ti244 : TI := { size := 1, bytes := 8, zero := [.d .nilPtr] }
def ti245 : TI := { size := 1, bytes := 24, zero := [.nl], sl := some 244 }
def ti246 : TI := { size := 1, bytes := 8, zero := [.d .nilFn] }
def ti247 : TI := { size := 1, bytes := 8, zero := [.d .nilFn] }
def ti248 : TI := { size := 1, bytes := 8, zero := [.d .nilFn] }
def ti249 : TI := { size := 1, bytes := 8, zero := [.d .nilFn] }
def ti250 : TI := { size := 1, bytes := 8, zero := [.d .nilFn] }
def ti251 : TI := { size := 1, bytes := 8, zero := [.d .nilFn] }
def ti252 : TI := { size := 1, bytes := 8, zero := [.d .nilPtr] }
def ti253 : TI := { size := 1, bytes := 8, zero := [.d .nilFn] }
def ti254 : TI := { size := 1, bytes := 8, zero := [.d .nilFn] }
def ti255 : TI := { size := 1, bytes := 8, zero := [.d .nilFn] }
def ti256 : TI := { size := 1, bytes := 8, zero := [.d (.int .u64 0)] }
def ti257 : TI := { size := 1, bytes := 8, zero := [.d .nilFn] }
def ti258 : TI := { size := 1, bytes := 8, zero := [.d .nilFn] }
def ti259 : TI := { size := 1, bytes := 8, zero := [.d .nilFn] }
def ti260 : TI := { size := 1, bytes := 8, zero := [.d .nilFn] }
def ti261 : TI := { size := 1, bytes := 8, zero := [.d .nilFn] }
def ti262 : TI := { size := 1, bytes := 8, zero := [.d .nilFn] }
def ti263 : TI := { size := 1, bytes := 24, zero := [.nl], sl := some 165 }
def ti264 : TI := { size := 1, bytes := 8, zero := [.d .nilFn] }
def ti265 : TI := { size := 1, bytes := 8, zero := [.d .nilFn] }
def ti266 : TI := { size := 1, bytes := 8, zero := [.d .nilFn] }
def ti267 : TI := { size := 1, bytes := 8, zero := [.d .nilFn] }
def ti268 : TI := { size := 1, bytes := 8, zero := [.d .nilFn] }
def ti269 : TI := { size := 1, bytes := 8, zero := [.d .nilFn] }
def ti270 : TI := { agg := true, size := 2, bytes := 16, zero := [.d (.int .i64 0), .d (.int .u16 0)], flds := [(0, 3), (1, 139)], flat := true }
def ti271 : TI := { agg := true, size := 2, bytes := 16, zero := [.d (.int .i64 0), .d (.int .u16 0)], flds := [(0, 3), (1, 139)], flat := true }
def ti273 : TI := { size := 1, bytes := 8, zero := [.d .nilFn] }
def ti274 : TI := { size := 1, bytes := 24, zero := [.nl], sl := some 35 }
def ti275 : TI := { size := 1, bytes := 8, zero := [.d .nilPtr] }
def ti276 : TI := { size := 1, bytes := 8, zero := [.d .nilFn] }
def ti277 : TI := { size := 1, bytes := 8, zero := [.d .nilFn] }
def ti278 : TI := { size := 1, bytes := 8, zero := [.d .nilFn] }
def ti279 : TI := { size := 1, bytes := 8, zero := [.d .nilFn] }
def ti280 : TI := { size := 1, bytes := 8, zero := [.d .nilFn] }
def ti281 : TI := { size := 1, bytes := 8, zero := [.d .nilFn] }
def ti282 : TI := { size := 1, bytes := 8, zero := [.d .nilPtr] }
def ti284 : TI := { size := 1, bytes := 8, zero := [.d .nilFn] }
def ti285 : TI := { size := 1, bytes := 8, zero := [.d .nilFn] }
def ti286 : TI := { agg := true, size := 4, bytes := 32, zero := [.d (.int .i64 0), .d (.int .i64 0), .d (.int .i64 0), .d (.int .i64 0)], arr := some (4, 3), flat := true }
def ti287 : TI := { agg := true, size := 32, bytes := 256, zero := List.replicate 32 (.d (.int .i64 0)), arr := some (8, 286) }
def ti289 : TI := { size := 1, bytes := 8, zero := [.d .nilFn] }
def ti290 : TI := { size := 1, bytes := 8, zero := [.d .nilFn] }
def ti291 : TI := { size := 1, bytes := 8, zero := [.d .nilFn] }
def ti292 : TI := { size := 1, bytes := 8, zero := [.d .nilFn] }
def ti293 : TI := { size := 1, bytes := 8, zero := [.d .nilFn] }
def ti294 : TI := { size := 1, bytes := 8, zero := [.d .nilFn] }
def ti295 : TI := { size := 1, bytes := 8, zero := [.d .nilFn] }
def ti296 : TI := { size := 1, bytes := 8, zero := [.d .nilFn] }
def ti297 : TI := { agg := true, size := 4, bytes := 40, zero := [.d .nilPtr, .d .nilPtr, .d .nilPtr, .d (.str ByteArray.empty)], flds := [(0, 17), (1, 17), (2, 17), (3, 9)] }
def ti298 : TI := { agg := true, size := 4, bytes := 40, zero := [.d .nilPtr, .d .nilPtr, .d .nilPtr, .d (.str ByteArray.empty)], flds := [(0, 17), (1, 17), (2, 17), (3, 9)] }
def ti299 : TI := { agg := true, size := 0, bytes := 0, zero := [], arr := some (0, 16) }
def ti300 : TI := { agg := true, size := 0, bytes := 0, zero := [], flds := [(0, 299)] }
def ti301 : TI := { agg := true, size := 0, bytes := 0, zero := [], flds := [(0, 299)] }
def ti302 : TI := { size := 1, bytes := 1, zero := [.d (.int .u8 0)] }
def ti303 : TI := { size := 1, bytes := 1, zero := [.d (.int .u8 0)] }
def ti304 : TI := { size := 1, bytes := 8, zero := [.d .nilFn] }
def ti305 : TI := { size := 1, bytes := 8, zero := [.d .nilPtr] }
def ti306 : TI := { size := 1, bytes := 4, zero := [.d (.int .i32 0)] }
def ti307 : TI := { size := 1, bytes := 4, zero := [.d (.int .i32 0)] }
def ti308 : TI := { agg := true, size := 11, bytes := 48, zero := [.d (.int .u64 0), .d (.int .u64 0), .d (.int .u32 0), .d (.int .u8 0), .d (.int .u8 0), .d (.int .u8 0), .d (.int .u8 0), .d .nilFn, .d .nilPtr, .d (.int .i32 0), .d (.int .i32 0)], flds := [(0, 12), (1, 12), (2, 226), (3, 302), (4, 5), (5, 5), (6, 303), (7, 304), (8, 305), (9, 306), (10, 307)] }
def ti309 : TI := { agg := true, size := 11, bytes := 48, zero := [.d (.int .u64 0), .d (.int .u64 0), .d (.int .u32 0), .d (.int .u8 0), .d (.int .u8 0), .d (.int .u8 0), .d (.int .u8 0), .d .nilFn, .d .nilPtr, .d (.int .i32 0), .d (.int .i32 0)], flds := [(0, 12), (1, 12), (2, 226), (3, 302), (4, 5), (5, 5), (6, 303), (7, 304), (8, 305), (9, 306), (10, 307)] }
def tbl : List (Option TI) := [none, some ti1, some ti2, some ti3, some ti4, some ti5, some ti6, some ti7, some ti8, some ti9, some ti10, some ti11, some ti12, some ti13, some ti14, some ti15, some ti16, some ti17, some ti18, some ti19, none, some ti21, some ti22, some ti23, some ti24, some ti25, none, some ti27, some ti28, some ti29, some ti30, some ti31, some ti32, some ti33, some ti34, some ti35, some ti36, some ti37, some ti38, some ti39, none, some ti41, some ti42, some ti43, some ti44, some ti45, some ti46, some ti47, some ti48, some ti49, some ti50, none, some ti52, some ti53, some ti54, some ti55, some ti56, some ti57, some ti58, some ti59, some ti60, some ti61, some ti62, some ti63, some ti64, some ti65, some ti66, some ti67, some ti68, some ti69, some ti70, some ti71, some ti72, some ti73, some ti74, some ti75, some ti76, some ti77, some ti78, some ti79, some ti80, some ti81, some ti82, some ti83, some ti84, some ti85, some ti86, none, some ti88, some ti89, some ti90, some ti91, some ti92, some ti93, some ti94, some ti95, some ti96, some ti97, some ti98, some ti99, some ti100, some ti101, some ti102, some ti103, some ti104, some ti105, some ti106, some ti107, some ti108, some ti109, some ti110, some ti111, some ti112, some ti113, some ti114, some ti115, some ti116, some ti117, some ti118, some ti119, some ti120, some ti121, some ti122, none, some ti124, some ti125, some ti126, some ti127, some ti128, some ti129, some ti130, some ti131, some ti132, some ti133, some ti134, none, some ti136, some ti137, some ti138, some ti139, some ti140, some ti141, some ti142, some ti143, some ti144, some ti145, some ti146, some ti147, some ti148, some ti149, some ti150, some ti151, some ti152, some ti153, some ti154, some ti155, some ti156, some ti157, some ti158, some ti159, some ti160, some ti161, some ti162, some ti163, some ti164, some ti165, some ti166, some ti167, some ti168, some ti169, some ti170, some ti171, some ti172, some ti173, some ti174, some ti175, some ti176, some ti177, some ti178, some ti179, some ti180, none, some ti182, some ti183, some ti184, some ti185, some ti186, some ti187, some ti188, some ti189, some ti190, some ti191, some ti192, some ti193, some ti194, some ti195, some ti196, some ti197, some ti198, some ti199, some ti200, some ti201, some ti202, none, some ti204, some ti205, some ti206, some ti207, some ti208, none, some ti210, some ti211, some ti212, some ti213, some ti214, some ti215, some ti216, some ti217, some ti218, none, some ti220, some ti221, some ti222, none, some ti224, some ti225, some ti226, some ti227, some ti228, some ti229, some ti230, some ti231, some ti232, some ti233, some ti234, some ti235, none, some ti237, some ti238, some ti239, some ti240, some ti241, some ti242, some ti243, some ti244, some ti245, some ti246, some ti247, some ti248, some ti249, some ti250, some ti251, some ti252, some ti253, some ti254, some ti255, some ti256, some ti257, some ti258, some ti259, some ti260, some ti261, some ti262, some ti263, some ti264, some ti265, some ti266, some ti267, some ti268, some ti269, some ti270, some ti271, none, some ti273, some ti274, some ti275, some ti276, some ti277, some ti278, some ti279, some ti280, some ti281, some ti282, none, some ti284, some ti285, some ti286, some ti287, none, some ti289, some ti290, some ti291, some ti292, some ti293, some ti294, some ti295, some ti296, some ti297, some ti298, some ti299, some ti300, some ti301, some ti302, some ti303, some ti304, some ti305, some ti306, some ti307, some ti308, some ti309, none]
/-- What is known of the types. -/
def tb : Tab := fun t => (tbl[t]?).join
/-- All rows of the table are so. -/
def tblB (P : Program) : Nat → List (Option TI) → Bool
  | _, [] => true
  | k, o :: r => (match o with | some i => tyB P k i | none => true) && tblB P (k + 1) r
theorem tblB_ok {P : Program} : ∀ (l : List (Option TI)) (k : Nat), tblB P k l = true → ∀ t i, l[t]? = some (some i) → tyB P (k + t) i = true
  | [], _, _, _, _, h => by simp at h
  | o :: r, k, hb, 0, i, h => by
    simp only [List.getElem?_cons_zero, Option.some.injEq] at h
    subst h
    unfold tblB at hb
    simpa using (Bool.and_eq_true _ _ ▸ hb).1
  | o :: r, k, hb, t + 1, i, h => by
    unfold tblB at hb
    have := tblB_ok r (k + 1) (by simpa using (Bool.and_eq_true _ _ ▸ hb).2) t i (by simpa using h)
    rwa [show k + 1 + t = k + (t + 1) by omega] at this
theorem tbl_ok : tblB Tryz.prog 0 tbl = true := by kernel_rfl
theorem tab_ok : TabOk Tryz.prog tb := fun t i h => by
  have := tblB_ok tbl 0 tbl_ok t i (by unfold tb at h; cases hx : tbl[t]? <;> simp [hx] at h; rw [h])
  rwa [Nat.zero_add] at this
theorem mixed : Tryz.prog.follows .mixedOrders = true := by kernel_rfl

@[simp] theorem tb_1 : tb 1 = some { size := 1, bytes := 8, zero := [.d .nilFn] } := rfl
@[simp] theorem tb_2 : tb 2 = some { size := 1, bytes := 8, zero := [.d (.int .i64 0)] } := rfl
@[simp] theorem tb_3 : tb 3 = some { size := 1, bytes := 8, zero := [.d (.int .i64 0)] } := rfl
@[simp] theorem tb_4 : tb 4 = some { size := 1, bytes := 1, zero := [.d (.bool false)] } := rfl
@[simp] theorem tb_5 : tb 5 = some { size := 1, bytes := 1, zero := [.d (.int .u8 0)] } := rfl
@[simp] theorem tb_6 : tb 6 = some { size := 1, bytes := 1, zero := [.d (.int .u8 0)] } := rfl
@[simp] theorem tb_7 : tb 7 = some { agg := true, size := 4, bytes := 24, zero := [.d (.int .i64 0), .d (.int .i64 0), .d (.bool false), .d (.int .u8 0)], flds := [(0, 2), (1, 3), (2, 4), (3, 6)], flat := true } := rfl
@[simp] theorem tb_8 : tb 8 = some { agg := true, size := 4, bytes := 24, zero := [.d (.int .i64 0), .d (.int .i64 0), .d (.bool false), .d (.int .u8 0)], flds := [(0, 2), (1, 3), (2, 4), (3, 6)], flat := true } := rfl
@[simp] theorem tb_9 : tb 9 = some { size := 1, bytes := 16, zero := [.d (.str ByteArray.empty)] } := rfl
@[simp] theorem tb_10 : tb 10 = some { size := 1, bytes := 16, zero := [.d (.str ByteArray.empty)] } := rfl
@[simp] theorem tb_11 : tb 11 = some { size := 1, bytes := 16, zero := [.d (.str ByteArray.empty)] } := rfl
@[simp] theorem tb_12 : tb 12 = some { size := 1, bytes := 8, zero := [.d (.int .u64 0)] } := rfl
@[simp] theorem tb_13 : tb 13 = some { agg := true, size := 2, bytes := 24, zero := [.d (.str ByteArray.empty), .d (.int .u64 0)], flds := [(0, 9), (1, 12)] } := rfl
@[simp] theorem tb_14 : tb 14 = some { agg := true, size := 2, bytes := 24, zero := [.d (.str ByteArray.empty), .d (.int .u64 0)], flds := [(0, 9), (1, 12)] } := rfl
@[simp] theorem tb_15 : tb 15 = some { size := 1, bytes := 8, zero := [.d .nilPtr] } := rfl
@[simp] theorem tb_16 : tb 16 = some { size := 1, bytes := 8, zero := [.d .nilPtr] } := rfl
@[simp] theorem tb_17 : tb 17 = some { size := 1, bytes := 8, zero := [.d .nilPtr] } := rfl
@[simp] theorem tb_18 : tb 18 = some { agg := true, size := 1, bytes := 8, zero := [.d .nilPtr], flds := [(0, 17)] } := rfl
@[simp] theorem tb_19 : tb 19 = some { agg := true, size := 1, bytes := 8, zero := [.d .nilPtr], flds := [(0, 17)] } := rfl
@[simp] theorem tb_21 : tb 21 = some { size := 1, bytes := 4, zero := [.d (.int .i32 0)] } := rfl
@[simp] theorem tb_22 : tb 22 = some { size := 1, bytes := 24, zero := [.nl], sl := some 39 } := rfl
@[simp] theorem tb_23 : tb 23 = some { size := 1, bytes := 8, zero := [.d .nilFn] } := rfl
@[simp] theorem tb_24 : tb 24 = some { size := 1, bytes := 8, zero := [.d .nilFn] } := rfl
@[simp] theorem tb_25 : tb 25 = some { size := 1, bytes := 24, zero := [.nl], sl := some 60 } := rfl
@[simp] theorem tb_27 : tb 27 = some { size := 1, bytes := 8, zero := [.d .nilFn] } := rfl
@[simp] theorem tb_28 : tb 28 = some { size := 1, bytes := 8, zero := [.d .nilFn] } := rfl
@[simp] theorem tb_29 : tb 29 = some { size := 1, bytes := 8, zero := [.d .nilFn] } := rfl
@[simp] theorem tb_30 : tb 30 = some { size := 1, bytes := 8, zero := [.d .nilFn] } := rfl
@[simp] theorem tb_31 : tb 31 = some { size := 1, bytes := 24, zero := [.nl], sl := some 3 } := rfl
@[simp] theorem tb_32 : tb 32 = some { size := 1, bytes := 24, zero := [.nl], sl := some 139 } := rfl
@[simp] theorem tb_33 : tb 33 = some { size := 1, bytes := 24, zero := [.nl], sl := some 139 } := rfl
@[simp] theorem tb_34 : tb 34 = some { agg := true, size := 2, bytes := 32, zero := [.d (.bool false), .nl], flds := [(0, 4), (1, 33)] } := rfl
@[simp] theorem tb_35 : tb 35 = some { agg := true, size := 2, bytes := 32, zero := [.d (.bool false), .nl], flds := [(0, 4), (1, 33)] } := rfl
@[simp] theorem tb_36 : tb 36 = some { agg := true, size := 3, bytes := 56, zero := [.d (.bool false), .nl, .nl], flds := [(0, 35), (2, 33)] } := rfl
@[simp] theorem tb_37 : tb 37 = some { agg := true, size := 3, bytes := 56, zero := [.d (.bool false), .nl, .nl], flds := [(0, 35), (2, 33)] } := rfl
@[simp] theorem tb_38 : tb 38 = some { agg := true, size := 5, bytes := 88, zero := [.d (.int .i64 0), .nl, .d (.bool false), .nl, .nl], flds := [(0, 3), (1, 31), (2, 37)] } := rfl
@[simp] theorem tb_39 : tb 39 = some { agg := true, size := 5, bytes := 88, zero := [.d (.int .i64 0), .nl, .d (.bool false), .nl, .nl], flds := [(0, 3), (1, 31), (2, 37)] } := rfl
@[simp] theorem tb_41 : tb 41 = some { size := 1, bytes := 8, zero := [.d .nilFn] } := rfl
@[simp] theorem tb_42 : tb 42 = some { size := 1, bytes := 8, zero := [.d .nilFn] } := rfl
@[simp] theorem tb_43 : tb 43 = some { size := 1, bytes := 8, zero := [.d .nilFn] } := rfl
@[simp] theorem tb_44 : tb 44 = some { size := 1, bytes := 8, zero := [.d .nilFn] } := rfl
@[simp] theorem tb_45 : tb 45 = some { size := 1, bytes := 8, zero := [.d .nilFn] } := rfl
@[simp] theorem tb_46 : tb 46 = some { size := 1, bytes := 8, zero := [.d .nilFn] } := rfl
@[simp] theorem tb_47 : tb 47 = some { size := 1, bytes := 8, zero := [.d .nilFn] } := rfl
@[simp] theorem tb_48 : tb 48 = some { size := 1, bytes := 24, zero := [.nl], sl := some 86 } := rfl
@[simp] theorem tb_49 : tb 49 = some { size := 1, bytes := 8, zero := [.d .nilFn] } := rfl
@[simp] theorem tb_50 : tb 50 = some { size := 1, bytes := 8, zero := [.d (.int .i64 0)] } := rfl
@[simp] theorem tb_52 : tb 52 = some { size := 1, bytes := 8, zero := [.d .nilFn] } := rfl
@[simp] theorem tb_53 : tb 53 = some { size := 1, bytes := 8, zero := [.d .nilFn] } := rfl
@[simp] theorem tb_54 : tb 54 = some { size := 1, bytes := 8, zero := [.d .nilFn] } := rfl
@[simp] theorem tb_55 : tb 55 = some { size := 1, bytes := 8, zero := [.d .nilFn] } := rfl
@[simp] theorem tb_56 : tb 56 = some { size := 1, bytes := 8, zero := [.d .nilFn] } := rfl
@[simp] theorem tb_57 : tb 57 = some { size := 1, bytes := 8, zero := [.d .nilFn] } := rfl
@[simp] theorem tb_58 : tb 58 = some { size := 1, bytes := 8, zero := [.d .nilFn] } := rfl
@[simp] theorem tb_59 : tb 59 = some { agg := true, size := 2, bytes := 32, zero := [.d (.int .i64 0), .nl], flds := [(0, 3), (1, 31)] } := rfl
@[simp] theorem tb_60 : tb 60 = some { agg := true, size := 2, bytes := 32, zero := [.d (.int .i64 0), .nl], flds := [(0, 3), (1, 31)] } := rfl
@[simp] theorem tb_61 : tb 61 = some { size := 1, bytes := 24, zero := [.nl], sl := some 64 } := rfl
@[simp] theorem tb_62 : tb 62 = some { size := 1, bytes := 8, zero := [.d .nilFn] } := rfl
@[simp] theorem tb_63 : tb 63 = some { agg := true, size := 6, bytes := 112, zero := [.d (.int .i64 0), .nl, .d (.bool false), .nl, .nl, .nl], flds := [(0, 39), (5, 25)] } := rfl
@[simp] theorem tb_64 : tb 64 = some { agg := true, size := 6, bytes := 112, zero := [.d (.int .i64 0), .nl, .d (.bool false), .nl, .nl, .nl], flds := [(0, 39), (5, 25)] } := rfl
@[simp] theorem tb_65 : tb 65 = some { size := 1, bytes := 8, zero := [.d .nilFn] } := rfl
@[simp] theorem tb_66 : tb 66 = some { size := 1, bytes := 24, zero := [.nl], sl := some 69 } := rfl
@[simp] theorem tb_67 : tb 67 = some { size := 1, bytes := 8, zero := [.d .nilFn] } := rfl
@[simp] theorem tb_68 : tb 68 = some { agg := true, size := 6, bytes := 112, zero := [.d (.int .i64 0), .nl, .d (.bool false), .nl, .nl, .nl], flds := [(0, 39), (5, 25)] } := rfl
@[simp] theorem tb_69 : tb 69 = some { agg := true, size := 6, bytes := 112, zero := [.d (.int .i64 0), .nl, .d (.bool false), .nl, .nl, .nl], flds := [(0, 39), (5, 25)] } := rfl
@[simp] theorem tb_70 : tb 70 = some { size := 1, bytes := 8, zero := [.d .nilFn] } := rfl
@[simp] theorem tb_71 : tb 71 = some { size := 1, bytes := 8, zero := [.d .nilFn] } := rfl
@[simp] theorem tb_72 : tb 72 = some { size := 1, bytes := 8, zero := [.d .nilFn] } := rfl
@[simp] theorem tb_73 : tb 73 = some { size := 1, bytes := 8, zero := [.d .nilFn] } := rfl
@[simp] theorem tb_74 : tb 74 = some { size := 1, bytes := 24, zero := [.nl], sl := some 155 } := rfl
@[simp] theorem tb_75 : tb 75 = some { size := 1, bytes := 8, zero := [.d .nilFn] } := rfl
@[simp] theorem tb_76 : tb 76 = some { agg := true, size := 6, bytes := 104, zero := [.d (.str ByteArray.empty), .nl, .nl, .nl, .d (.int .i64 0), .d .nilFn], flds := [(0, 9), (1, 74), (2, 74), (3, 74), (4, 3), (5, 75)] } := rfl
@[simp] theorem tb_77 : tb 77 = some { agg := true, size := 6, bytes := 104, zero := [.d (.str ByteArray.empty), .nl, .nl, .nl, .d (.int .i64 0), .d .nilFn], flds := [(0, 9), (1, 74), (2, 74), (3, 74), (4, 3), (5, 75)] } := rfl
@[simp] theorem tb_78 : tb 78 = some { size := 1, bytes := 8, zero := [.d .nilFn] } := rfl
@[simp] theorem tb_79 : tb 79 = some { size := 1, bytes := 24, zero := [.nl], sl := some 177 } := rfl
@[simp] theorem tb_80 : tb 80 = some { agg := true, size := 4, bytes := 88, zero := [.d (.str ByteArray.empty), .nl, .nl, .nl], flds := [(0, 9), (1, 79), (2, 79), (3, 79)] } := rfl
@[simp] theorem tb_81 : tb 81 = some { agg := true, size := 4, bytes := 88, zero := [.d (.str ByteArray.empty), .nl, .nl, .nl], flds := [(0, 9), (1, 79), (2, 79), (3, 79)] } := rfl
@[simp] theorem tb_82 : tb 82 = some { size := 1, bytes := 8, zero := [.d .nilFn] } := rfl
@[simp] theorem tb_83 : tb 83 = some { size := 1, bytes := 24, zero := [.nl], sl := some 37 } := rfl
@[simp] theorem tb_84 : tb 84 = some { size := 1, bytes := 8, zero := [.d .nilFn] } := rfl
@[simp] theorem tb_85 : tb 85 = some { agg := true, size := 6, bytes := 112, zero := [.d (.bool false), .nl, .nl, .d (.bool false), .nl, .nl], flds := [(0, 37), (3, 37)] } := rfl
@[simp] theorem tb_86 : tb 86 = some { agg := true, size := 6, bytes := 112, zero := [.d (.bool false), .nl, .nl, .d (.bool false), .nl, .nl], flds := [(0, 37), (3, 37)] } := rfl
@[simp] theorem tb_88 : tb 88 = some { size := 1, bytes := 8, zero := [.d .nilFn] } := rfl
@[simp] theorem tb_89 : tb 89 = some { size := 1, bytes := 8, zero := [.d .nilFn] } := rfl
@[simp] theorem tb_90 : tb 90 = some { size := 1, bytes := 8, zero := [.d .nilFn] } := rfl
@[simp] theorem tb_91 : tb 91 = some { agg := true, size := 3, bytes := 40, zero := [.d (.int .i64 0), .nl, .d (.int .i64 0)], flds := [(0, 3), (1, 31), (2, 3)] } := rfl
@[simp] theorem tb_92 : tb 92 = some { agg := true, size := 3, bytes := 40, zero := [.d (.int .i64 0), .nl, .d (.int .i64 0)], flds := [(0, 3), (1, 31), (2, 3)] } := rfl
@[simp] theorem tb_93 : tb 93 = some { size := 1, bytes := 8, zero := [.d .nilFn] } := rfl
@[simp] theorem tb_94 : tb 94 = some { size := 1, bytes := 8, zero := [.d .nilFn] } := rfl
@[simp] theorem tb_95 : tb 95 = some { size := 1, bytes := 8, zero := [.d .nilFn] } := rfl
@[simp] theorem tb_96 : tb 96 = some { size := 1, bytes := 8, zero := [.d .nilFn] } := rfl
@[simp] theorem tb_97 : tb 97 = some { size := 1, bytes := 8, zero := [.d (.int .u64 0)] } := rfl
@[simp] theorem tb_98 : tb 98 = some { size := 1, bytes := 8, zero := [.d .nilFn] } := rfl
@[simp] theorem tb_99 : tb 99 = some { size := 1, bytes := 8, zero := [.d .nilFn] } := rfl
@[simp] theorem tb_100 : tb 100 = some { size := 1, bytes := 8, zero := [.d .nilFn] } := rfl
@[simp] theorem tb_101 : tb 101 = some { size := 1, bytes := 8, zero := [.d .nilFn] } := rfl
@[simp] theorem tb_102 : tb 102 = some { size := 1, bytes := 8, zero := [.d .nilFn] } := rfl
@[simp] theorem tb_103 : tb 103 = some { size := 1, bytes := 8, zero := [.d .nilFn] } := rfl
@[simp] theorem tb_104 : tb 104 = some { size := 1, bytes := 8, zero := [.d .nilFn] } := rfl
@[simp] theorem tb_105 : tb 105 = some { size := 1, bytes := 8, zero := [.d .nilFn] } := rfl
@[simp] theorem tb_106 : tb 106 = some { size := 1, bytes := 8, zero := [.d .nilFn] } := rfl
@[simp] theorem tb_107 : tb 107 = some { size := 1, bytes := 8, zero := [.d .nilFn] } := rfl
@[simp] theorem tb_108 : tb 108 = some { size := 1, bytes := 8, zero := [.d .nilFn] } := rfl
@[simp] theorem tb_109 : tb 109 = some { size := 1, bytes := 8, zero := [.d .nilFn] } := rfl
@[simp] theorem tb_110 : tb 110 = some { size := 1, bytes := 8, zero := [.d .nilFn] } := rfl
@[simp] theorem tb_111 : tb 111 = some { size := 1, bytes := 2, zero := [.d (.int .i16 0)] } := rfl
@[simp] theorem tb_112 : tb 112 = some { agg := true, size := 26, bytes := 52, zero := List.replicate 26 (.d (.int .i16 0)), arr := some (26, 111), flat := true } := rfl
@[simp] theorem tb_113 : tb 113 = some { agg := true, size := 26, bytes := 52, zero := List.replicate 26 (.d (.int .i16 0)), arr := some (26, 111), flat := true } := rfl
@[simp] theorem tb_114 : tb 114 = some { size := 1, bytes := 8, zero := [.d .nilFn] } := rfl
@[simp] theorem tb_115 : tb 115 = some { size := 1, bytes := 8, zero := [.d .nilFn] } := rfl
@[simp] theorem tb_116 : tb 116 = some { agg := true, size := 1, bytes := 8, zero := [.d .nilFn], flds := [(0, 72)] } := rfl
@[simp] theorem tb_117 : tb 117 = some { agg := true, size := 1, bytes := 8, zero := [.d .nilFn], flds := [(0, 72)] } := rfl
@[simp] theorem tb_118 : tb 118 = some { size := 1, bytes := 8, zero := [.d .nilFn] } := rfl
@[simp] theorem tb_119 : tb 119 = some { size := 1, bytes := 8, zero := [.d .nilFn] } := rfl
@[simp] theorem tb_120 : tb 120 = some { size := 1, bytes := 8, zero := [.d .nilFn] } := rfl
@[simp] theorem tb_121 : tb 121 = some { size := 1, bytes := 8, zero := [.d .nilFn] } := rfl
@[simp] theorem tb_122 : tb 122 = some { size := 1, bytes := 8, zero := [.d .nilFn] } := rfl
@[simp] theorem tb_124 : tb 124 = some { size := 1, bytes := 8, zero := [.d .nilFn] } := rfl
@[simp] theorem tb_125 : tb 125 = some { size := 1, bytes := 8, zero := [.d .nilFn] } := rfl
@[simp] theorem tb_126 : tb 126 = some { size := 1, bytes := 8, zero := [.d .nilFn] } := rfl
@[simp] theorem tb_127 : tb 127 = some { size := 1, bytes := 8, zero := [.d .nilFn] } := rfl
@[simp] theorem tb_128 : tb 128 = some { size := 1, bytes := 8, zero := [.d .nilFn] } := rfl
@[simp] theorem tb_129 : tb 129 = some { size := 1, bytes := 8, zero := [.d .nilFn] } := rfl
@[simp] theorem tb_130 : tb 130 = some { size := 1, bytes := 8, zero := [.d .nilFn] } := rfl
@[simp] theorem tb_131 : tb 131 = some { size := 1, bytes := 8, zero := [.d .nilFn] } := rfl
@[simp] theorem tb_132 : tb 132 = some { size := 1, bytes := 8, zero := [.d .nilFn] } := rfl
@[simp] theorem tb_133 : tb 133 = some { size := 1, bytes := 8, zero := [.d .nilFn] } := rfl
@[simp] theorem tb_134 : tb 134 = some { size := 1, bytes := 8, zero := [.d .nilFn] } := rfl
@[simp] theorem tb_136 : tb 136 = some { size := 1, bytes := 8, zero := [.d .nilFn] } := rfl
@[simp] theorem tb_137 : tb 137 = some { size := 1, bytes := 8, zero := [.d .nilFn] } := rfl
@[simp] theorem tb_138 : tb 138 = some { size := 1, bytes := 8, zero := [.d .nilFn] } := rfl
@[simp] theorem tb_139 : tb 139 = some { size := 1, bytes := 2, zero := [.d (.int .u16 0)] } := rfl
@[simp] theorem tb_140 : tb 140 = some { size := 1, bytes := 8, zero := [.d .nilFn] } := rfl
@[simp] theorem tb_141 : tb 141 = some { size := 1, bytes := 24, zero := [.nl], sl := some 144 } := rfl
@[simp] theorem tb_142 : tb 142 = some { size := 1, bytes := 8, zero := [.d .nilFn] } := rfl
@[simp] theorem tb_143 : tb 143 = some { agg := true, size := 2, bytes := 16, zero := [.d (.int .i64 0), .d (.int .i64 0)], arr := some (2, 3), flat := true } := rfl
@[simp] theorem tb_144 : tb 144 = some { agg := true, size := 2, bytes := 16, zero := [.d (.int .i64 0), .d (.int .i64 0)], arr := some (2, 3), flat := true } := rfl
@[simp] theorem tb_145 : tb 145 = some { size := 1, bytes := 8, zero := [.d .nilFn] } := rfl
@[simp] theorem tb_146 : tb 146 = some { size := 1, bytes := 8, zero := [.d .nilFn] } := rfl
@[simp] theorem tb_147 : tb 147 = some { size := 1, bytes := 8, zero := [.d .nilFn] } := rfl
@[simp] theorem tb_148 : tb 148 = some { agg := true, size := 26, bytes := 208, zero := List.replicate 26 (.d (.int .i64 0)), arr := some (26, 3), flat := true } := rfl
@[simp] theorem tb_149 : tb 149 = some { agg := true, size := 2, bytes := 16, zero := [.d (.int .i64 0), .d (.int .i64 0)], arr := some (2, 3), flat := true } := rfl
@[simp] theorem tb_150 : tb 150 = some { agg := true, size := 52, bytes := 416, zero := List.replicate 52 (.d (.int .i64 0)), arr := some (26, 149) } := rfl
@[simp] theorem tb_151 : tb 151 = some { agg := true, size := 78, bytes := 624, zero := List.replicate 78 (.d (.int .i64 0)), flds := [(0, 148), (26, 150)] } := rfl
@[simp] theorem tb_152 : tb 152 = some { agg := true, size := 78, bytes := 624, zero := List.replicate 78 (.d (.int .i64 0)), flds := [(0, 148), (26, 150)] } := rfl
@[simp] theorem tb_153 : tb 153 = some { size := 1, bytes := 8, zero := [.d .nilFn] } := rfl
@[simp] theorem tb_154 : tb 154 = some { agg := true, size := 3, bytes := 32, zero := [.d (.int .i64 0), .d (.str ByteArray.empty), .d (.int .i64 0)], flds := [(0, 3), (1, 9), (2, 3)] } := rfl
@[simp] theorem tb_155 : tb 155 = some { agg := true, size := 3, bytes := 32, zero := [.d (.int .i64 0), .d (.str ByteArray.empty), .d (.int .i64 0)], flds := [(0, 3), (1, 9), (2, 3)] } := rfl
@[simp] theorem tb_156 : tb 156 = some { size := 1, bytes := 8, zero := [.d .nilFn] } := rfl
@[simp] theorem tb_157 : tb 157 = some { size := 1, bytes := 8, zero := [.d .nilFn] } := rfl
@[simp] theorem tb_158 : tb 158 = some { size := 1, bytes := 8, zero := [.d .nilFn] } := rfl
@[simp] theorem tb_159 : tb 159 = some { size := 1, bytes := 8, zero := [.d .nilFn] } := rfl
@[simp] theorem tb_160 : tb 160 = some { size := 1, bytes := 8, zero := [.d .nilFn] } := rfl
@[simp] theorem tb_161 : tb 161 = some { size := 1, bytes := 8, zero := [.d (.int .u64 0)] } := rfl
@[simp] theorem tb_162 : tb 162 = some { size := 1, bytes := 8, zero := [.d .nilFn] } := rfl
@[simp] theorem tb_163 : tb 163 = some { size := 1, bytes := 8, zero := [.d .nilFn] } := rfl
@[simp] theorem tb_164 : tb 164 = some { agg := true, size := 2, bytes := 16, zero := [.d (.int .i64 0), .d (.int .i64 0)], flds := [(0, 3), (1, 3)], flat := true } := rfl
@[simp] theorem tb_165 : tb 165 = some { agg := true, size := 2, bytes := 16, zero := [.d (.int .i64 0), .d (.int .i64 0)], flds := [(0, 3), (1, 3)], flat := true } := rfl
@[simp] theorem tb_166 : tb 166 = some { size := 1, bytes := 8, zero := [.d .nilFn] } := rfl
@[simp] theorem tb_167 : tb 167 = some { size := 1, bytes := 8, zero := [.d .nilFn] } := rfl
@[simp] theorem tb_168 : tb 168 = some { size := 1, bytes := 8, zero := [.d .nilFn] } := rfl
@[simp] theorem tb_169 : tb 169 = some { size := 1, bytes := 24, zero := [.nl], sl := some 172 } := rfl
@[simp] theorem tb_170 : tb 170 = some { size := 1, bytes := 8, zero := [.d .nilFn] } := rfl
@[simp] theorem tb_171 : tb 171 = some { agg := true, size := 5, bytes := 72, zero := [.d (.int .i64 0), .d (.int .i64 0), .d (.bool false), .nl, .nl], flds := [(0, 3), (1, 3), (2, 37)] } := rfl
@[simp] theorem tb_172 : tb 172 = some { agg := true, size := 5, bytes := 72, zero := [.d (.int .i64 0), .d (.int .i64 0), .d (.bool false), .nl, .nl], flds := [(0, 3), (1, 3), (2, 37)] } := rfl
@[simp] theorem tb_173 : tb 173 = some { size := 1, bytes := 8, zero := [.d .nilFn] } := rfl
@[simp] theorem tb_174 : tb 174 = some { size := 1, bytes := 8, zero := [.d .nilFn] } := rfl
@[simp] theorem tb_175 : tb 175 = some { size := 1, bytes := 8, zero := [.d .nilFn] } := rfl
@[simp] theorem tb_176 : tb 176 = some { agg := true, size := 4, bytes := 40, zero := [.d (.int .i64 0), .d (.str ByteArray.empty), .d (.bool false), .d (.int .i64 0)], flds := [(0, 3), (1, 9), (2, 4), (3, 3)] } := rfl
@[simp] theorem tb_177 : tb 177 = some { agg := true, size := 4, bytes := 40, zero := [.d (.int .i64 0), .d (.str ByteArray.empty), .d (.bool false), .d (.int .i64 0)], flds := [(0, 3), (1, 9), (2, 4), (3, 3)] } := rfl
@[simp] theorem tb_178 : tb 178 = some { size := 1, bytes := 8, zero := [.d .nilFn] } := rfl
@[simp] theorem tb_179 : tb 179 = some { size := 1, bytes := 24, zero := [.nl], sl := some 31 } := rfl
@[simp] theorem tb_180 : tb 180 = some { size := 1, bytes := 8, zero := [.d .nilFn] } := rfl
@[simp] theorem tb_182 : tb 182 = some { size := 1, bytes := 8, zero := [.d .nilFn] } := rfl
@[simp] theorem tb_183 : tb 183 = some { size := 1, bytes := 8, zero := [.d .nilFn] } := rfl
@[simp] theorem tb_184 : tb 184 = some { size := 1, bytes := 8, zero := [.d .nilFn] } := rfl
@[simp] theorem tb_185 : tb 185 = some { size := 1, bytes := 8, zero := [.d .nilFn] } := rfl
@[simp] theorem tb_186 : tb 186 = some { size := 1, bytes := 8, zero := [.d .nilFn] } := rfl
@[simp] theorem tb_187 : tb 187 = some { size := 1, bytes := 8, zero := [.d .nilFn] } := rfl
@[simp] theorem tb_188 : tb 188 = some { size := 1, bytes := 8, zero := [.d .nilFn] } := rfl
@[simp] theorem tb_189 : tb 189 = some { size := 1, bytes := 8, zero := [.d .nilFn] } := rfl
@[simp] theorem tb_190 : tb 190 = some { size := 1, bytes := 8, zero := [.d .nilFn] } := rfl
@[simp] theorem tb_191 : tb 191 = some { size := 1, bytes := 8, zero := [.d .nilFn] } := rfl
@[simp] theorem tb_192 : tb 192 = some { size := 1, bytes := 8, zero := [.d .nilFn] } := rfl
@[simp] theorem tb_193 : tb 193 = some { size := 1, bytes := 8, zero := [.d .nilFn] } := rfl
@[simp] theorem tb_194 : tb 194 = some { size := 1, bytes := 8, zero := [.d .nilFn] } := rfl
@[simp] theorem tb_195 : tb 195 = some { size := 1, bytes := 8, zero := [.d .nilFn] } := rfl
@[simp] theorem tb_196 : tb 196 = some { agg := true, size := 6, bytes := 112, zero := [.d (.bool false), .nl, .nl, .d (.bool false), .nl, .nl], arr := some (2, 37) } := rfl
@[simp] theorem tb_197 : tb 197 = some { agg := true, size := 6, bytes := 112, zero := [.d (.bool false), .nl, .nl, .d (.bool false), .nl, .nl], arr := some (2, 37) } := rfl
@[simp] theorem tb_198 : tb 198 = some { size := 1, bytes := 8, zero := [.d .nilFn] } := rfl
@[simp] theorem tb_199 : tb 199 = some { size := 1, bytes := 8, zero := [.d .nilFn] } := rfl
@[simp] theorem tb_200 : tb 200 = some { size := 1, bytes := 8, zero := [.d .nilFn] } := rfl
@[simp] theorem tb_201 : tb 201 = some { size := 1, bytes := 8, zero := [.d .nilFn] } := rfl
@[simp] theorem tb_202 : tb 202 = some { size := 1, bytes := 8, zero := [.d .nilFn] } := rfl
@[simp] theorem tb_204 : tb 204 = some { size := 1, bytes := 8, zero := [.d .nilFn] } := rfl
@[simp] theorem tb_205 : tb 205 = some { size := 1, bytes := 8, zero := [.d .nilFn] } := rfl
@[simp] theorem tb_206 : tb 206 = some { size := 1, bytes := 8, zero := [.d .nilFn] } := rfl
@[simp] theorem tb_207 : tb 207 = some { size := 1, bytes := 8, zero := [.d .nilFn] } := rfl
@[simp] theorem tb_208 : tb 208 = some { size := 1, bytes := 8, zero := [.d .nilFn] } := rfl
@[simp] theorem tb_210 : tb 210 = some { size := 1, bytes := 8, zero := [.d .nilFn] } := rfl
@[simp] theorem tb_211 : tb 211 = some { size := 1, bytes := 24, zero := [.nl], sl := some 213 } := rfl
@[simp] theorem tb_212 : tb 212 = some { size := 1, bytes := 8, zero := [.d .nilFn] } := rfl
@[simp] theorem tb_213 : tb 213 = some { size := 1, bytes := 24, zero := [.nl], sl := some 149 } := rfl
@[simp] theorem tb_214 : tb 214 = some { size := 1, bytes := 8, zero := [.d .nilFn] } := rfl
@[simp] theorem tb_215 : tb 215 = some { size := 1, bytes := 8, zero := [.d .nilFn] } := rfl
@[simp] theorem tb_216 : tb 216 = some { size := 1, bytes := 8, zero := [.d .nilFn] } := rfl
@[simp] theorem tb_217 : tb 217 = some { size := 1, bytes := 8, zero := [.d .nilFn] } := rfl
@[simp] theorem tb_218 : tb 218 = some { size := 1, bytes := 8, zero := [.d (.int .i64 0)] } := rfl
@[simp] theorem tb_220 : tb 220 = some { size := 1, bytes := 8, zero := [.d .nilFn] } := rfl
@[simp] theorem tb_221 : tb 221 = some { size := 1, bytes := 8, zero := [.d .nilFn] } := rfl
@[simp] theorem tb_222 : tb 222 = some { size := 1, bytes := 8, zero := [.d .nilFn] } := rfl
@[simp] theorem tb_224 : tb 224 = some { size := 1, bytes := 8, zero := [.d .nilFn] } := rfl
@[simp] theorem tb_225 : tb 225 = some { size := 1, bytes := 8, zero := [.d .nilFn] } := rfl
@[simp] theorem tb_226 : tb 226 = some { size := 1, bytes := 4, zero := [.d (.int .u32 0)] } := rfl
@[simp] theorem tb_227 : tb 227 = some { size := 1, bytes := 8, zero := [.d .nilFn] } := rfl
@[simp] theorem tb_228 : tb 228 = some { size := 1, bytes := 8, zero := [.d .nilFn] } := rfl
@[simp] theorem tb_229 : tb 229 = some { size := 1, bytes := 8, zero := [.d .nilFn] } := rfl
@[simp] theorem tb_230 : tb 230 = some { size := 1, bytes := 8, zero := [.d .nilFn] } := rfl
@[simp] theorem tb_231 : tb 231 = some { size := 1, bytes := 8, zero := [.d .nilFn] } := rfl
@[simp] theorem tb_232 : tb 232 = some { size := 1, bytes := 8, zero := [.d .nilFn] } := rfl
@[simp] theorem tb_233 : tb 233 = some { size := 1, bytes := 8, zero := [.d .nilFn] } := rfl
@[simp] theorem tb_234 : tb 234 = some { size := 1, bytes := 8, zero := [.d .nilFn] } := rfl
@[simp] theorem tb_235 : tb 235 = some { size := 1, bytes := 8, zero := [.d .nilFn] } := rfl
@[simp] theorem tb_237 : tb 237 = some { size := 1, bytes := 8, zero := [.d .nilFn] } := rfl
@[simp] theorem tb_238 : tb 238 = some { size := 1, bytes := 8, zero := [.d .nilFn] } := rfl
@[simp] theorem tb_239 : tb 239 = some { size := 1, bytes := 8, zero := [.d .nilFn] } := rfl
@[simp] theorem tb_240 : tb 240 = some { size := 1, bytes := 8, zero := [.d .nilFn] } := rfl
@[simp] theorem tb_241 : tb 241 = some { size := 1, bytes := 8, zero := [.d .nilFn] } := rfl
@[simp] theorem tb_242 : tb 242 = some { size := 1, bytes := 8, zero := [.d .nilFn] } := rfl
@[simp] theorem tb_243 : tb 243 = some { agg := true, size := 4, bytes := 32, zero := [.d (.int .i64 0), .d (.int .i64 0), .d (.int .i64 0), .d (.int .i64 0)], arr := some (2, 144) } := rfl
@[simp] theorem tb_244 : tb 244 = some { size := 1, bytes := 8, zero := [.d .nilPtr] } := rfl
@[simp] theorem tb_245 : tb 245 = some { size := 1, bytes := 24, zero := [.nl], sl := some 244 } := rfl
@[simp] theorem tb_246 : tb 246 = some { size := 1, bytes := 8, zero := [.d .nilFn] } := rfl
@[simp] theorem tb_247 : tb 247 = some { size := 1, bytes := 8, zero := [.d .nilFn] } := rfl
@[simp] theorem tb_248 : tb 248 = some { size := 1, bytes := 8, zero := [.d .nilFn] } := rfl
@[simp] theorem tb_249 : tb 249 = some { size := 1, bytes := 8, zero := [.d .nilFn] } := rfl
@[simp] theorem tb_250 : tb 250 = some { size := 1, bytes := 8, zero := [.d .nilFn] } := rfl
@[simp] theorem tb_251 : tb 251 = some { size := 1, bytes := 8, zero := [.d .nilFn] } := rfl
@[simp] theorem tb_252 : tb 252 = some { size := 1, bytes := 8, zero := [.d .nilPtr] } := rfl
@[simp] theorem tb_253 : tb 253 = some { size := 1, bytes := 8, zero := [.d .nilFn] } := rfl
@[simp] theorem tb_254 : tb 254 = some { size := 1, bytes := 8, zero := [.d .nilFn] } := rfl
@[simp] theorem tb_255 : tb 255 = some { size := 1, bytes := 8, zero := [.d .nilFn] } := rfl
@[simp] theorem tb_256 : tb 256 = some { size := 1, bytes := 8, zero := [.d (.int .u64 0)] } := rfl
@[simp] theorem tb_257 : tb 257 = some { size := 1, bytes := 8, zero := [.d .nilFn] } := rfl
@[simp] theorem tb_258 : tb 258 = some { size := 1, bytes := 8, zero := [.d .nilFn] } := rfl
@[simp] theorem tb_259 : tb 259 = some { size := 1, bytes := 8, zero := [.d .nilFn] } := rfl
@[simp] theorem tb_260 : tb 260 = some { size := 1, bytes := 8, zero := [.d .nilFn] } := rfl
@[simp] theorem tb_261 : tb 261 = some { size := 1, bytes := 8, zero := [.d .nilFn] } := rfl
@[simp] theorem tb_262 : tb 262 = some { size := 1, bytes := 8, zero := [.d .nilFn] } := rfl
@[simp] theorem tb_263 : tb 263 = some { size := 1, bytes := 24, zero := [.nl], sl := some 165 } := rfl
@[simp] theorem tb_264 : tb 264 = some { size := 1, bytes := 8, zero := [.d .nilFn] } := rfl
@[simp] theorem tb_265 : tb 265 = some { size := 1, bytes := 8, zero := [.d .nilFn] } := rfl
@[simp] theorem tb_266 : tb 266 = some { size := 1, bytes := 8, zero := [.d .nilFn] } := rfl
@[simp] theorem tb_267 : tb 267 = some { size := 1, bytes := 8, zero := [.d .nilFn] } := rfl
@[simp] theorem tb_268 : tb 268 = some { size := 1, bytes := 8, zero := [.d .nilFn] } := rfl
@[simp] theorem tb_269 : tb 269 = some { size := 1, bytes := 8, zero := [.d .nilFn] } := rfl
@[simp] theorem tb_270 : tb 270 = some { agg := true, size := 2, bytes := 16, zero := [.d (.int .i64 0), .d (.int .u16 0)], flds := [(0, 3), (1, 139)], flat := true } := rfl
@[simp] theorem tb_271 : tb 271 = some { agg := true, size := 2, bytes := 16, zero := [.d (.int .i64 0), .d (.int .u16 0)], flds := [(0, 3), (1, 139)], flat := true } := rfl
@[simp] theorem tb_273 : tb 273 = some { size := 1, bytes := 8, zero := [.d .nilFn] } := rfl
@[simp] theorem tb_274 : tb 274 = some { size := 1, bytes := 24, zero := [.nl], sl := some 35 } := rfl
@[simp] theorem tb_275 : tb 275 = some { size := 1, bytes := 8, zero := [.d .nilPtr] } := rfl
@[simp] theorem tb_276 : tb 276 = some { size := 1, bytes := 8, zero := [.d .nilFn] } := rfl
@[simp] theorem tb_277 : tb 277 = some { size := 1, bytes := 8, zero := [.d .nilFn] } := rfl
@[simp] theorem tb_278 : tb 278 = some { size := 1, bytes := 8, zero := [.d .nilFn] } := rfl
@[simp] theorem tb_279 : tb 279 = some { size := 1, bytes := 8, zero := [.d .nilFn] } := rfl
@[simp] theorem tb_280 : tb 280 = some { size := 1, bytes := 8, zero := [.d .nilFn] } := rfl
@[simp] theorem tb_281 : tb 281 = some { size := 1, bytes := 8, zero := [.d .nilFn] } := rfl
@[simp] theorem tb_282 : tb 282 = some { size := 1, bytes := 8, zero := [.d .nilPtr] } := rfl
@[simp] theorem tb_284 : tb 284 = some { size := 1, bytes := 8, zero := [.d .nilFn] } := rfl
@[simp] theorem tb_285 : tb 285 = some { size := 1, bytes := 8, zero := [.d .nilFn] } := rfl
@[simp] theorem tb_286 : tb 286 = some { agg := true, size := 4, bytes := 32, zero := [.d (.int .i64 0), .d (.int .i64 0), .d (.int .i64 0), .d (.int .i64 0)], arr := some (4, 3), flat := true } := rfl
@[simp] theorem tb_287 : tb 287 = some { agg := true, size := 32, bytes := 256, zero := List.replicate 32 (.d (.int .i64 0)), arr := some (8, 286) } := rfl
@[simp] theorem tb_289 : tb 289 = some { size := 1, bytes := 8, zero := [.d .nilFn] } := rfl
@[simp] theorem tb_290 : tb 290 = some { size := 1, bytes := 8, zero := [.d .nilFn] } := rfl
@[simp] theorem tb_291 : tb 291 = some { size := 1, bytes := 8, zero := [.d .nilFn] } := rfl
@[simp] theorem tb_292 : tb 292 = some { size := 1, bytes := 8, zero := [.d .nilFn] } := rfl
@[simp] theorem tb_293 : tb 293 = some { size := 1, bytes := 8, zero := [.d .nilFn] } := rfl
@[simp] theorem tb_294 : tb 294 = some { size := 1, bytes := 8, zero := [.d .nilFn] } := rfl
@[simp] theorem tb_295 : tb 295 = some { size := 1, bytes := 8, zero := [.d .nilFn] } := rfl
@[simp] theorem tb_296 : tb 296 = some { size := 1, bytes := 8, zero := [.d .nilFn] } := rfl
@[simp] theorem tb_297 : tb 297 = some { agg := true, size := 4, bytes := 40, zero := [.d .nilPtr, .d .nilPtr, .d .nilPtr, .d (.str ByteArray.empty)], flds := [(0, 17), (1, 17), (2, 17), (3, 9)] } := rfl
@[simp] theorem tb_298 : tb 298 = some { agg := true, size := 4, bytes := 40, zero := [.d .nilPtr, .d .nilPtr, .d .nilPtr, .d (.str ByteArray.empty)], flds := [(0, 17), (1, 17), (2, 17), (3, 9)] } := rfl
@[simp] theorem tb_299 : tb 299 = some { agg := true, size := 0, bytes := 0, zero := [], arr := some (0, 16) } := rfl
@[simp] theorem tb_300 : tb 300 = some { agg := true, size := 0, bytes := 0, zero := [], flds := [(0, 299)] } := rfl
@[simp] theorem tb_301 : tb 301 = some { agg := true, size := 0, bytes := 0, zero := [], flds := [(0, 299)] } := rfl
@[simp] theorem tb_302 : tb 302 = some { size := 1, bytes := 1, zero := [.d (.int .u8 0)] } := rfl
@[simp] theorem tb_303 : tb 303 = some { size := 1, bytes := 1, zero := [.d (.int .u8 0)] } := rfl
@[simp] theorem tb_304 : tb 304 = some { size := 1, bytes := 8, zero := [.d .nilFn] } := rfl
@[simp] theorem tb_305 : tb 305 = some { size := 1, bytes := 8, zero := [.d .nilPtr] } := rfl
@[simp] theorem tb_306 : tb 306 = some { size := 1, bytes := 4, zero := [.d (.int .i32 0)] } := rfl
@[simp] theorem tb_307 : tb 307 = some { size := 1, bytes := 4, zero := [.d (.int .i32 0)] } := rfl
@[simp] theorem tb_308 : tb 308 = some { agg := true, size := 11, bytes := 48, zero := [.d (.int .u64 0), .d (.int .u64 0), .d (.int .u32 0), .d (.int .u8 0), .d (.int .u8 0), .d (.int .u8 0), .d (.int .u8 0), .d .nilFn, .d .nilPtr, .d (.int .i32 0), .d (.int .i32 0)], flds := [(0, 12), (1, 12), (2, 226), (3, 302), (4, 5), (5, 5), (6, 303), (7, 304), (8, 305), (9, 306), (10, 307)] } := rfl
@[simp] theorem tb_309 : tb 309 = some { agg := true, size := 11, bytes := 48, zero := [.d (.int .u64 0), .d (.int .u64 0), .d (.int .u32 0), .d (.int .u8 0), .d (.int .u8 0), .d (.int .u8 0), .d (.int .u8 0), .d .nilFn, .d .nilPtr, .d (.int .i32 0), .d (.int .i32 0)], flds := [(0, 12), (1, 12), (2, 226), (3, 302), (4, 5), (5, 5), (6, 303), (7, 304), (8, 305), (9, 306), (10, 307)] } := rfl
end Go.Va
