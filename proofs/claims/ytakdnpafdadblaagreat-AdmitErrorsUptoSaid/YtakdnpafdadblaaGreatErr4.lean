/-
  PROVED: 'tarnlaw17.AdmitErrors' returns true and leaves its argument as it was, where the argument is of bulk at most 1048576 (Rows.AdmitErrorsUptoSaid). Part 4 of 7.
-/
import Derived.Test.YtakdnpafdadblaaGreatErr3
import Derived.Laws.Strings
set_option linter.unusedSimpArgs false
set_option linter.unusedVariables false
set_option linter.unusedSectionVars false
namespace Go.Proofs.YtakdnpafdadblaaGreat.EV.W
open Go
variable {ro : Addr → Option Value} {K : H}
theorem go30 (hK : Std ro K) (as : List Value) (s : St) (h : as.length = 2) : K (.func (.func 30) #[] #[]) as s = M ro K c30 [.fn [.tmp 4]] (params 0 as) s := hK.go t30 h s
theorem go34 (hK : Std ro K) (as : List Value) (s : St) (h : as.length = 1) : K (.func (.func 34) #[] #[]) as s = M ro K c34 [.fn [.cell 2 (some 4), .tmp 3]] (params 0 as) s := hK.go t34 h s
theorem go58 (hK : Std ro K) (as : List Value) (s : St) (h : as.length = 1) : K (.func (.func 58) #[] #[]) as s = M ro K c58 [.fn [.tmp 2]] (params 0 as) s := hK.go t58 h s
theorem go62 (hK : Std ro K) (as : List Value) (s : St) (h : as.length = 2) : K (.func (.func 62) #[] #[]) as s = M ro K c62 [.fn [.tmp 4, .tmp 5]] (params 0 as) s := hK.go t62 h s
theorem go90 (hK : Std ro K) (as : List Value) (s : St) (h : as.length = 2) : K (.func (.func 90) #[] #[]) as s = M ro K c90 [.fn [.tmp 4, .tmp 5]] (params 0 as) s := hK.go t90 h s
theorem go94 (hK : Std ro K) (as : List Value) (s : St) (h : as.length = 1) : K (.func (.func 94) #[] #[]) as s = M ro K c94 [.fn [.tmp 2]] (params 0 as) s := hK.go t94 h s
theorem go98 (hK : Std ro K) (as : List Value) (s : St) (h : as.length = 1) : K (.func (.func 98) #[] #[]) as s = M ro K c98 [.fn [.cell 2 (some 4)]] (params 0 as) s := hK.go t98 h s
theorem go102 (hK : Std ro K) (as : List Value) (s : St) (h : as.length = 2) : K (.func (.func 102) #[] #[]) as s = M ro K c102 [.fn [.tmp 4]] (params 0 as) s := hK.go t102 h s
theorem go114 (hK : Std ro K) (as : List Value) (s : St) (h : as.length = 1) : K (.func (.func 114) #[] #[]) as s = M ro K c114 [.fn [.tmp 2]] (params 0 as) s := hK.go t114 h s
theorem go122 (hK : Std ro K) (as : List Value) (s : St) (h : as.length = 1) : K (.func (.func 122) #[] #[]) as s = M ro K c122 [.fn [.cell 2 (some 21)]] (params 0 as) s := hK.go t122 h s
theorem go127 (hK : Std ro K) (as : List Value) (s : St) (h : as.length = 1) : K (.func (.func 127) #[] #[]) as s = M ro K c127 [.fn [.tmp 2]] (params 0 as) s := hK.go t127 h s
theorem go131 (hK : Std ro K) (as : List Value) (s : St) (h : as.length = 1) : K (.func (.func 131) #[] #[]) as s = M ro K c131 [.fn [.tmp 2]] (params 0 as) s := hK.go t131 h s
theorem go171 (hK : Std ro K) (as : List Value) (s : St) (h : as.length = 1) : K (.func (.func 171) #[] #[]) as s = M ro K c171 [.fn [.tmp 2]] (params 0 as) s := hK.go t171 h s
theorem go175 (hK : Std ro K) (as : List Value) (s : St) (h : as.length = 1) : K (.func (.func 175) #[] #[]) as s = M ro K c175 [.fn [.cell 2 (some 12)]] (params 0 as) s := hK.go t175 h s
theorem go179 (hK : Std ro K) (as : List Value) (s : St) (h : as.length = 1) : K (.func (.func 179) #[] #[]) as s = M ro K c179 [.fn [.cell 2 (some 22)]] (params 0 as) s := hK.go t179 h s
theorem go191 (hK : Std ro K) (as : List Value) (s : St) (h : as.length = 1) : K (.func (.func 191) #[] #[]) as s = M ro K c191 [.fn [.cell 2 (some 4), .tmp 3]] (params 0 as) s := hK.go t191 h s
theorem go195 (hK : Std ro K) (as : List Value) (s : St) (h : as.length = 1) : K (.func (.func 195) #[] #[]) as s = M ro K c195 [.fn [.tmp 2]] (params 0 as) s := hK.go t195 h s
theorem go200 (hK : Std ro K) (as : List Value) (s : St) (h : as.length = 1) : K (.func (.func 200) #[] #[]) as s = M ro K c200 [.fn [.tmp 2]] (params 0 as) s := hK.go t200 h s
theorem go204 (hK : Std ro K) (as : List Value) (s : St) (h : as.length = 2) : K (.func (.func 204) #[] #[]) as s = M ro K c204 [.fn [.tmp 4]] (params 0 as) s := hK.go t204 h s
theorem go232 (hK : Std ro K) (as : List Value) (s : St) (h : as.length = 1) : K (.func (.func 232) #[] #[]) as s = M ro K c232 [.fn [.cell 2 (some 3)]] (params 0 as) s := hK.go t232 h s
theorem go236 (hK : Std ro K) (as : List Value) (s : St) (h : as.length = 2) : K (.func (.func 236) #[] #[]) as s = M ro K c236 [.fn [.tmp 4]] (params 0 as) s := hK.go t236 h s
theorem go242 (hK : Std ro K) (as : List Value) (s : St) (h : as.length = 2) : K (.func (.func 242) #[] #[]) as s = M ro K c242 [.fn [.cell 4 (some 4), .tmp 5]] (params 0 as) s := hK.go t242 h s
theorem go246 (hK : Std ro K) (as : List Value) (s : St) (h : as.length = 1) : K (.func (.func 246) #[] #[]) as s = M ro K c246 [.fn [.tmp 2]] (params 0 as) s := hK.go t246 h s
theorem go266 (hK : Std ro K) (as : List Value) (s : St) (h : as.length = 2) : K (.func (.func 266) #[] #[]) as s = M ro K c266 [.fn [.tmp 4]] (params 0 as) s := hK.go t266 h s
theorem go270 (hK : Std ro K) (as : List Value) (s : St) (h : as.length = 3) : K (.func (.func 270) #[] #[]) as s = M ro K c270 [.fn []] (params 0 as) s := hK.go t270 h s
theorem go274 (hK : Std ro K) (as : List Value) (s : St) (h : as.length = 3) : K (.func (.func 274) #[] #[]) as s = M ro K c274 [.fn [.tmp 6]] (params 0 as) s := hK.go t274 h s
theorem go286 (hK : Std ro K) (as : List Value) (s : St) (h : as.length = 1) : K (.func (.func 286) #[] #[]) as s = M ro K c286 [.fn [.cell 2 (some 3)]] (params 0 as) s := hK.go t286 h s
theorem go290 (hK : Std ro K) (as : List Value) (s : St) (h : as.length = 1) : K (.func (.func 290) #[] #[]) as s = M ro K c290 [.fn [.tmp 2]] (params 0 as) s := hK.go t290 h s
theorem go294 (hK : Std ro K) (as : List Value) (s : St) (h : as.length = 3) : K (.func (.func 294) #[] #[]) as s = M ro K c294 [.fn [.tmp 6]] (params 0 as) s := hK.go t294 h s
theorem go302 (hK : Std ro K) (as : List Value) (s : St) (h : as.length = 1) : K (.func (.func 302) #[] #[]) as s = M ro K c302 [.fn [.tmp 2]] (params 0 as) s := hK.go t302 h s
theorem go3 (hK : Std ro K) (as : List Value) (s : St) (h : as.length = 1) : K (.func (.func 3) #[] #[]) as s = M ro K c3 [.fn [.tmp 2]] (params 0 as) s := hK.go t3 h s
theorem go27 (hK : Std ro K) (as : List Value) (s : St) (h : as.length = 2) : K (.func (.func 27) #[] #[]) as s = M ro K c27 [.fn [.tmp 4]] (params 0 as) s := hK.go t27 h s
theorem go31 (hK : Std ro K) (as : List Value) (s : St) (h : as.length = 3) : K (.func (.func 31) #[] #[]) as s = M ro K c31 [.fn [.cell 6 (some 21)]] (params 0 as) s := hK.go t31 h s
theorem go35 (hK : Std ro K) (as : List Value) (s : St) (h : as.length = 2) : K (.func (.func 35) #[] #[]) as s = M ro K c35 [.fn [.cell 4 (some 4), .tmp 5]] (params 0 as) s := hK.go t35 h s
theorem go63 (hK : Std ro K) (as : List Value) (s : St) (h : as.length = 1) : K (.func (.func 63) #[] #[]) as s = M ro K c63 [.fn [.cell 2 (some 21)]] (params 0 as) s := hK.go t63 h s
theorem go91 (hK : Std ro K) (as : List Value) (s : St) (h : as.length = 2) : K (.func (.func 91) #[] #[]) as s = M ro K c91 [.fn [.tmp 4]] (params 0 as) s := hK.go t91 h s
theorem go95 (hK : Std ro K) (as : List Value) (s : St) (h : as.length = 1) : K (.func (.func 95) #[] #[]) as s = M ro K c95 [.fn [.tmp 2]] (params 0 as) s := hK.go t95 h s
theorem go103 (hK : Std ro K) (as : List Value) (s : St) (h : as.length = 1) : K (.func (.func 103) #[] #[]) as s = M ro K c103 [.fn [.tmp 2, .tmp 3]] (params 0 as) s := hK.go t103 h s
theorem go124 (hK : Std ro K) (as : List Value) (s : St) (h : as.length = 1) : K (.func (.func 124) #[] #[]) as s = M ro K c124 [.fn [.tmp 2]] (params 0 as) s := hK.go t124 h s
theorem go132 (hK : Std ro K) (as : List Value) (s : St) (h : as.length = 1) : K (.func (.func 132) #[] #[]) as s = M ro K c132 [.fn [.tmp 2]] (params 0 as) s := hK.go t132 h s
theorem go136 (hK : Std ro K) (as : List Value) (s : St) (h : as.length = 2) : K (.func (.func 136) #[] #[]) as s = M ro K c136 [.fn [.tmp 4]] (params 0 as) s := hK.go t136 h s
theorem go172 (hK : Std ro K) (as : List Value) (s : St) (h : as.length = 2) : K (.func (.func 172) #[] #[]) as s = M ro K c172 [.fn [.tmp 4]] (params 0 as) s := hK.go t172 h s
theorem go176 (hK : Std ro K) (as : List Value) (s : St) (h : as.length = 1) : K (.func (.func 176) #[] #[]) as s = M ro K c176 [.fn [.cell 2 (some 4), .tmp 3]] (params 0 as) s := hK.go t176 h s
theorem go180 (hK : Std ro K) (as : List Value) (s : St) (h : as.length = 2) : K (.func (.func 180) #[] #[]) as s = M ro K c180 [.fn [.tmp 4]] (params 0 as) s := hK.go t180 h s
theorem go201 (hK : Std ro K) (as : List Value) (s : St) (h : as.length = 1) : K (.func (.func 201) #[] #[]) as s = M ro K c201 [.fn [.cell 2 (some 4), .tmp 3]] (params 0 as) s := hK.go t201 h s
theorem go205 (hK : Std ro K) (as : List Value) (s : St) (h : as.length = 1) : K (.func (.func 205) #[] #[]) as s = M ro K c205 [.fn [.tmp 2]] (params 0 as) s := hK.go t205 h s
theorem go233 (hK : Std ro K) (as : List Value) (s : St) (h : as.length = 1) : K (.func (.func 233) #[] #[]) as s = M ro K c233 [.fn [.cell 2 (some 3)]] (params 0 as) s := hK.go t233 h s
theorem go247 (hK : Std ro K) (as : List Value) (s : St) (h : as.length = 2) : K (.func (.func 247) #[] #[]) as s = M ro K c247 [.fn [.tmp 4]] (params 0 as) s := hK.go t247 h s
theorem go267 (hK : Std ro K) (as : List Value) (s : St) (h : as.length = 2) : K (.func (.func 267) #[] #[]) as s = M ro K c267 [.fn [.tmp 4, .tmp 5]] (params 0 as) s := hK.go t267 h s
theorem go271 (hK : Std ro K) (as : List Value) (s : St) (h : as.length = 3) : K (.func (.func 271) #[] #[]) as s = M ro K c271 [.fn []] (params 0 as) s := hK.go t271 h s
theorem go275 (hK : Std ro K) (as : List Value) (s : St) (h : as.length = 2) : K (.func (.func 275) #[] #[]) as s = M ro K c275 [.fn [.tmp 4]] (params 0 as) s := hK.go t275 h s
theorem go279 (hK : Std ro K) (as : List Value) (s : St) (h : as.length = 1) : K (.func (.func 279) #[] #[]) as s = M ro K c279 [.fn [.tmp 2]] (params 0 as) s := hK.go t279 h s
theorem go287 (hK : Std ro K) (as : List Value) (s : St) (h : as.length = 1) : K (.func (.func 287) #[] #[]) as s = M ro K c287 [.fn [.tmp 2]] (params 0 as) s := hK.go t287 h s
theorem go291 (hK : Std ro K) (as : List Value) (s : St) (h : as.length = 4) : K (.func (.func 291) #[] #[]) as s = M ro K c291 [.fn []] (params 0 as) s := hK.go t291 h s
theorem go295 (hK : Std ro K) (as : List Value) (s : St) (h : as.length = 5) : K (.func (.func 295) #[] #[]) as s = M ro K c295 [.fn [.tmp 10]] (params 0 as) s := hK.go t295 h s
theorem go303 (hK : Std ro K) (as : List Value) (s : St) (h : as.length = 1) : K (.func (.func 303) #[] #[]) as s = M ro K c303 [.fn [.tmp 2]] (params 0 as) s := hK.go t303 h s
theorem go28 (hK : Std ro K) (as : List Value) (s : St) (h : as.length = 1) : K (.func (.func 28) #[] #[]) as s = M ro K c28 [.fn [.cell 2 (some 10)]] (params 0 as) s := hK.go t28 h s
theorem go32 (hK : Std ro K) (as : List Value) (s : St) (h : as.length = 2) : K (.func (.func 32) #[] #[]) as s = M ro K c32 [.fn [.cell 4 (some 10)]] (params 0 as) s := hK.go t32 h s
theorem go36 (hK : Std ro K) (as : List Value) (s : St) (h : as.length = 0) : K (.func (.func 36) #[] #[]) as s = M ro K c36 [.fn [.tmp 0]] (params 0 as) s := hK.go t36 h s
theorem go60 (hK : Std ro K) (as : List Value) (s : St) (h : as.length = 1) : K (.func (.func 60) #[] #[]) as s = M ro K c60 [.fn [.tmp 2]] (params 0 as) s := hK.go t60 h s
theorem go92 (hK : Std ro K) (as : List Value) (s : St) (h : as.length = 2) : K (.func (.func 92) #[] #[]) as s = M ro K c92 [.fn [.tmp 4]] (params 0 as) s := hK.go t92 h s
theorem go96 (hK : Std ro K) (as : List Value) (s : St) (h : as.length = 1) : K (.func (.func 96) #[] #[]) as s = M ro K c96 [.fn [.tmp 2]] (params 0 as) s := hK.go t96 h s
theorem go116 (hK : Std ro K) (as : List Value) (s : St) (h : as.length = 1) : K (.func (.func 116) #[] #[]) as s = M ro K c116 [.fn [.tmp 2]] (params 0 as) s := hK.go t116 h s
theorem go125 (hK : Std ro K) (as : List Value) (s : St) (h : as.length = 1) : K (.func (.func 125) #[] #[]) as s = M ro K c125 [.fn [.cell 2 none]] (params 0 as) s := hK.go t125 h s
theorem go133 (hK : Std ro K) (as : List Value) (s : St) (h : as.length = 1) : K (.func (.func 133) #[] #[]) as s = M ro K c133 [.fn [.tmp 2]] (params 0 as) s := hK.go t133 h s
theorem go137 (hK : Std ro K) (as : List Value) (s : St) (h : as.length = 1) : K (.func (.func 137) #[] #[]) as s = M ro K c137 [.fn [.tmp 2]] (params 0 as) s := hK.go t137 h s
theorem go149 (hK : Std ro K) (as : List Value) (s : St) (h : as.length = 1) : K (.func (.func 149) #[] #[]) as s = M ro K c149 [.fn [.tmp 2, .tmp 3, .tmp 4, .tmp 5]] (params 0 as) s := hK.go t149 h s
theorem go169 (hK : Std ro K) (as : List Value) (s : St) (h : as.length = 1) : K (.func (.func 169) #[] #[]) as s = M ro K c169 [.fn [.tmp 2, .tmp 3]] (params 0 as) s := hK.go t169 h s
theorem goc173 (hK : Std ro K) (as : List Value) (c : Array Value) (s : St) (h : (as ++ c.toList).length = 2) : K (.func (.func 173) #[] c) as s = M ro K c173 [.fn [.tmp 3]] (params 0 (as ++ c.toList)) s := hK.goc t173 h s
theorem go177 (hK : Std ro K) (as : List Value) (s : St) (h : as.length = 1) : K (.func (.func 177) #[] #[]) as s = M ro K c177 [.fn [.cell 2 (some 4), .tmp 3]] (params 0 as) s := hK.go t177 h s
theorem go198 (hK : Std ro K) (as : List Value) (s : St) (h : as.length = 1) : K (.func (.func 198) #[] #[]) as s = M ro K c198 [.fn [.tmp 2, .tmp 3]] (params 0 as) s := hK.go t198 h s
theorem go202 (hK : Std ro K) (as : List Value) (s : St) (h : as.length = 1) : K (.func (.func 202) #[] #[]) as s = M ro K c202 [.fn []] (params 0 as) s := hK.go t202 h s
theorem go234 (hK : Std ro K) (as : List Value) (s : St) (h : as.length = 1) : K (.func (.func 234) #[] #[]) as s = M ro K c234 [.fn [.tmp 2, .tmp 3]] (params 0 as) s := hK.go t234 h s
theorem goc244 (hK : Std ro K) (as : List Value) (c : Array Value) (s : St) (h : (as ++ c.toList).length = 2) : K (.func (.func 244) #[] c) as s = M ro K c244 [.fn []] (params 0 (as ++ c.toList)) s := hK.goc t244 h s
theorem go260 (hK : Std ro K) (as : List Value) (s : St) (h : as.length = 1) : K (.func (.func 260) #[] #[]) as s = M ro K c260 [.fn [.tmp 2]] (params 0 as) s := hK.go t260 h s
theorem go264 (hK : Std ro K) (as : List Value) (s : St) (h : as.length = 1) : K (.func (.func 264) #[] #[]) as s = M ro K c264 [.fn [.tmp 2]] (params 0 as) s := hK.go t264 h s
theorem go272 (hK : Std ro K) (as : List Value) (s : St) (h : as.length = 3) : K (.func (.func 272) #[] #[]) as s = M ro K c272 [.fn [.tmp 6, .tmp 7]] (params 0 as) s := hK.go t272 h s
theorem go276 (hK : Std ro K) (as : List Value) (s : St) (h : as.length = 4) : K (.func (.func 276) #[] #[]) as s = M ro K c276 [.fn [.tmp 8]] (params 0 as) s := hK.go t276 h s
theorem go288 (hK : Std ro K) (as : List Value) (s : St) (h : as.length = 2) : K (.func (.func 288) #[] #[]) as s = M ro K c288 [.fn [.tmp 4, .tmp 5]] (params 0 as) s := hK.go t288 h s
theorem go292 (hK : Std ro K) (as : List Value) (s : St) (h : as.length = 1) : K (.func (.func 292) #[] #[]) as s = M ro K c292 [.fn [.tmp 2]] (params 0 as) s := hK.go t292 h s
theorem go296 (hK : Std ro K) (as : List Value) (s : St) (h : as.length = 1) : K (.func (.func 296) #[] #[]) as s = M ro K c296 [.fn [.tmp 2]] (params 0 as) s := hK.go t296 h s
theorem go304 (hK : Std ro K) (as : List Value) (s : St) (h : as.length = 4) : K (.func (.func 304) #[] #[]) as s = M ro K c304 [.fn [.tmp 8, .tmp 9]] (params 0 as) s := hK.go t304 h s
theorem go29 (hK : Std ro K) (as : List Value) (s : St) (h : as.length = 1) : K (.func (.func 29) #[] #[]) as s = M ro K c29 [.fn [.tmp 2]] (params 0 as) s := hK.go t29 h s
theorem go33 (hK : Std ro K) (as : List Value) (s : St) (h : as.length = 1) : K (.func (.func 33) #[] #[]) as s = M ro K c33 [.fn [.cell 2 (some 10)]] (params 0 as) s := hK.go t33 h s
theorem go89 (hK : Std ro K) (as : List Value) (s : St) (h : as.length = 1) : K (.func (.func 89) #[] #[]) as s = M ro K c89 [.fn [.tmp 2, .tmp 3]] (params 0 as) s := hK.go t89 h s
theorem go93 (hK : Std ro K) (as : List Value) (s : St) (h : as.length = 2) : K (.func (.func 93) #[] #[]) as s = M ro K c93 [.fn [.tmp 4]] (params 0 as) s := hK.go t93 h s
theorem go97 (hK : Std ro K) (as : List Value) (s : St) (h : as.length = 2) : K (.func (.func 97) #[] #[]) as s = M ro K c97 [.fn [.cell 4 (some 4), .tmp 5]] (params 0 as) s := hK.go t97 h s
theorem go126 (hK : Std ro K) (as : List Value) (s : St) (h : as.length = 1) : K (.func (.func 126) #[] #[]) as s = M ro K c126 [.fn [.tmp 2]] (params 0 as) s := hK.go t126 h s
theorem go130 (hK : Std ro K) (as : List Value) (s : St) (h : as.length = 3) : K (.func (.func 130) #[] #[]) as s = M ro K c130 [.fn [.tmp 6, .tmp 7]] (params 0 as) s := hK.go t130 h s
theorem go138 (hK : Std ro K) (as : List Value) (s : St) (h : as.length = 1) : K (.func (.func 138) #[] #[]) as s = M ro K c138 [.fn [.tmp 2]] (params 0 as) s := hK.go t138 h s
theorem go158 (hK : Std ro K) (as : List Value) (s : St) (h : as.length = 2) : K (.func (.func 158) #[] #[]) as s = M ro K c158 [.fn [.tmp 4]] (params 0 as) s := hK.go t158 h s
theorem go170 (hK : Std ro K) (as : List Value) (s : St) (h : as.length = 1) : K (.func (.func 170) #[] #[]) as s = M ro K c170 [.fn [.tmp 2]] (params 0 as) s := hK.go t170 h s
theorem go174 (hK : Std ro K) (as : List Value) (s : St) (h : as.length = 2) : K (.func (.func 174) #[] #[]) as s = M ro K c174 [.fn [.tmp 4]] (params 0 as) s := hK.go t174 h s
theorem go178 (hK : Std ro K) (as : List Value) (s : St) (h : as.length = 2) : K (.func (.func 178) #[] #[]) as s = M ro K c178 [.fn [.cell 4 (some 4), .tmp 5]] (params 0 as) s := hK.go t178 h s
theorem go190 (hK : Std ro K) (as : List Value) (s : St) (h : as.length = 2) : K (.func (.func 190) #[] #[]) as s = M ro K c190 [.fn [.tmp 4]] (params 0 as) s := hK.go t190 h s
theorem go194 (hK : Std ro K) (as : List Value) (s : St) (h : as.length = 1) : K (.func (.func 194) #[] #[]) as s = M ro K c194 [.fn [.tmp 2]] (params 0 as) s := hK.go t194 h s
theorem go199 (hK : Std ro K) (as : List Value) (s : St) (h : as.length = 1) : K (.func (.func 199) #[] #[]) as s = M ro K c199 [.fn [.tmp 2]] (params 0 as) s := hK.go t199 h s
theorem go203 (hK : Std ro K) (as : List Value) (s : St) (h : as.length = 1) : K (.func (.func 203) #[] #[]) as s = M ro K c203 [.fn [.tmp 2]] (params 0 as) s := hK.go t203 h s
theorem go211 (hK : Std ro K) (as : List Value) (s : St) (h : as.length = 1) : K (.func (.func 211) #[] #[]) as s = M ro K c211 [.fn [.tmp 2, .tmp 3]] (params 0 as) s := hK.go t211 h s
theorem go231 (hK : Std ro K) (as : List Value) (s : St) (h : as.length = 1) : K (.func (.func 231) #[] #[]) as s = M ro K c231 [.fn [.tmp 2]] (params 0 as) s := hK.go t231 h s
theorem go235 (hK : Std ro K) (as : List Value) (s : St) (h : as.length = 1) : K (.func (.func 235) #[] #[]) as s = M ro K c235 [.fn [.cell 2 (some 4), .tmp 3]] (params 0 as) s := hK.go t235 h s
theorem go241 (hK : Std ro K) (as : List Value) (s : St) (h : as.length = 1) : K (.func (.func 241) #[] #[]) as s = M ro K c241 [.fn [.tmp 2, .tmp 3]] (params 0 as) s := hK.go t241 h s
theorem go245 (hK : Std ro K) (as : List Value) (s : St) (h : as.length = 4) : K (.func (.func 245) #[] #[]) as s = M ro K c245 [.fn []] (params 0 as) s := hK.go t245 h s
theorem go265 (hK : Std ro K) (as : List Value) (s : St) (h : as.length = 1) : K (.func (.func 265) #[] #[]) as s = M ro K c265 [.fn [.tmp 2]] (params 0 as) s := hK.go t265 h s
theorem go269 (hK : Std ro K) (as : List Value) (s : St) (h : as.length = 3) : K (.func (.func 269) #[] #[]) as s = M ro K c269 [.fn []] (params 0 as) s := hK.go t269 h s
theorem go273 (hK : Std ro K) (as : List Value) (s : St) (h : as.length = 3) : K (.func (.func 273) #[] #[]) as s = M ro K c273 [.fn []] (params 0 as) s := hK.go t273 h s
theorem go277 (hK : Std ro K) (as : List Value) (s : St) (h : as.length = 4) : K (.func (.func 277) #[] #[]) as s = M ro K c277 [.fn [.tmp 8, .tmp 9]] (params 0 as) s := hK.go t277 h s
theorem goc285 (hK : Std ro K) (as : List Value) (c : Array Value) (s : St) (h : (as ++ c.toList).length = 2) : K (.func (.func 285) #[] c) as s = M ro K c285 [.fn []] (params 0 (as ++ c.toList)) s := hK.goc t285 h s
theorem go289 (hK : Std ro K) (as : List Value) (s : St) (h : as.length = 3) : K (.func (.func 289) #[] #[]) as s = M ro K c289 [.fn [.tmp 6]] (params 0 as) s := hK.go t289 h s
theorem go293 (hK : Std ro K) (as : List Value) (s : St) (h : as.length = 1) : K (.func (.func 293) #[] #[]) as s = M ro K c293 [.fn [.tmp 2]] (params 0 as) s := hK.go t293 h s
theorem go301 (hK : Std ro K) (as : List Value) (s : St) (h : as.length = 1) : K (.func (.func 301) #[] #[]) as s = M ro K c301 [.fn [.tmp 2]] (params 0 as) s := hK.go t301 h s
theorem go305 (hK : Std ro K) (as : List Value) (s : St) (h : as.length = 1) : K (.func (.func 305) #[] #[]) as s = M ro K c305 [.fn [.cell 2 (some 4), .tmp 3]] (params 0 as) s := hK.go t305 h s
end Go.Proofs.YtakdnpafdadblaaGreat.EV.W
namespace Go.Proofs.YtakdnpafdadblaaGreat.EV.W
open Go
abbrev Str (l : List UInt8) : Value := .string ⟨l.toArray⟩
@[simp] theorem ba_size (l : List UInt8) : (⟨l.toArray⟩ : ByteArray).size = l.length := rfl
@[simp] theorem ba_get (l : List UInt8) (i : Nat) : (⟨l.toArray⟩ : ByteArray)[i]? = l[i]? := by
  by_cases h : i < l.length
  · rw [List.getElem?_eq_getElem h]
    exact getElem?_pos (⟨l.toArray⟩ : ByteArray) i h
  · rw [List.getElem?_eq_none (by omega)]
    exact getElem?_neg (⟨l.toArray⟩ : ByteArray) i h
@[simp] theorem ba_toList (l : List UInt8) : (⟨l.toArray⟩ : ByteArray).data.toList = l := rfl
theorem ixsO_str (l : List UInt8) (k : IntKind) (n : Nat) : ixsO (some (Str l)) (some (.int k (n : Int))) = (l[n]?).map v8 := by
  rw [ixsO_s, ba_get]
theorem ixsO_str0 (l : List UInt8) (k : IntKind) : ixsO (some (Str l)) (some (.int k 0)) = (l[0]?).map v8 := ixsO_str l k 0
attribute [simp] ixsO_str ixsO_str0
theorem ba_ext {a b : ByteArray} (h : a.data = b.data) : a = b := by cases a; cases b; simp at h; subst h; rfl
@[simp] theorem ba_append (a b : List UInt8) : (⟨a.toArray⟩ ++ ⟨b.toArray⟩ : ByteArray) = ⟨(a ++ b).toArray⟩ := by
  apply ba_ext; simp
@[simp] theorem ba_extract (a : List UInt8) (i j : Nat) : (⟨a.toArray⟩ : ByteArray).extract i j = ⟨((a.take j).drop i).toArray⟩ := by
  apply ba_ext
  simp [ByteArray.data_extract, List.drop_take]
@[simp] theorem ba_toList' (l : List UInt8) : (⟨l.toArray⟩ : ByteArray).toList = l := by
  rw [Go.ByteArray.toList_eq]
structure U where
  a : UInt64
  b : UInt64
  c : UInt64
  d : UInt64
deriving DecidableEq
abbrev cU (x : U) : List Value := [v64 x.a, v64 x.b, v64 x.c, v64 x.d]
abbrev vU (x : U) : Value := .agg #[v64 x.a, v64 x.b, v64 x.c, v64 x.d]
def U.val (x : U) : Nat := x.a.toNat + 2 ^ 64 * (x.b.toNat + 2 ^ 64 * (x.c.toNat + 2 ^ 64 * x.d.toNat))
def U.of (n : Nat) : U := ⟨UInt64.ofNat n, UInt64.ofNat (n / 2 ^ 64), UInt64.ofNat (n / 2 ^ 128), UInt64.ofNat (n / 2 ^ 192)⟩
theorem U.val_lt (x : U) : x.val < 2 ^ 256 := by
  have := x.a.toNat_lt; have := x.b.toNat_lt; have := x.c.toNat_lt; have := x.d.toNat_lt
  unfold U.val; omega
theorem U.val_of {n : Nat} (h : n < 2 ^ 256) : (U.of n).val = n := by
  simp only [U.val, U.of, UInt64.toNat_ofNat']; omega
theorem U.of_val (x : U) : U.of x.val = x := by
  have := x.a.toNat_lt; have := x.b.toNat_lt; have := x.c.toNat_lt; have := x.d.toNat_lt
  obtain ⟨a, b, c, d⟩ := x
  simp only [U.of, U.val, U.mk.injEq]
  refine ⟨?_, ?_, ?_, ?_⟩ <;> apply UInt64.toNat.inj <;> rw [UInt64.toNat_ofNat'] <;> simp only at * <;> omega
instance : LT U := ⟨fun x y => x.val < y.val⟩
instance : LE U := ⟨fun x y => x.val ≤ y.val⟩
def cmpN (x y : Nat) : Int := if x < y then -1 else if y < x then 1 else 0
def sh1 {α : Type} (f : α → Value) : Sh α where
  sz := 1
  pos := by decide
  R := fun _ _ _ c x => c = [f x]
  len := fun h => by rw [h]; rfl
  mo := fun h _ => h
abbrev sh64 : Sh UInt64 := sh1 v64
abbrev shStr : Sh (List UInt8) := sh1 Str
structure T where
  frm : Int
  nonce : Int
  tip : U
  cap : U
  bcap : U
  value : U
  gas : Int
  hs : List UInt64
  bs : List (List UInt8)
deriving DecidableEq
abbrev txC (t : T) (h b : Value) : List Value := [vI t.frm, vI t.nonce, v64 t.tip.a, v64 t.tip.b, v64 t.tip.c, v64 t.tip.d, v64 t.cap.a, v64 t.cap.b, v64 t.cap.c, v64 t.cap.d, v64 t.bcap.a, v64 t.bcap.b, v64 t.bcap.c, v64 t.bcap.d, v64 t.value.a, v64 t.value.b, v64 t.value.c, v64 t.value.d, vI t.gas, h, b]
abbrev vT (t : T) (h b : Value) : Value := .agg #[vI t.frm, vI t.nonce, v64 t.tip.a, v64 t.tip.b, v64 t.tip.c, v64 t.tip.d, v64 t.cap.a, v64 t.cap.b, v64 t.cap.c, v64 t.cap.d, v64 t.bcap.a, v64 t.bcap.b, v64 t.bcap.c, v64 t.bcap.d, v64 t.value.a, v64 t.value.b, v64 t.value.c, v64 t.value.d, vI t.gas, h, b]
def shTx : Sh T where
  sz := 21
  pos := by decide
  R := fun ro F s c t => ∃ h b, c = txC t h b ∧ Sl sh64 ro F s h t.hs ∧ Sl shStr ro F s b t.bs
  len := fun h => by obtain ⟨h, b, rfl, _⟩ := h; rfl
  mo := fun h m => by obtain ⟨h, b, rfl, h1, h2⟩ := h; exact ⟨h, b, rfl, h1.mo m, h2.mo m⟩
structure Acct where
  nonce : Int
  bal : U
deriving DecidableEq
def shAcct : Sh Acct where
  sz := 5
  pos := by decide
  R := fun _ _ _ c x => c = [vI x.nonce, v64 x.bal.a, v64 x.bal.b, v64 x.bal.c, v64 x.bal.d]
  len := fun h => by rw [h]; rfl
  mo := fun h _ => h
structure Held where
  tx : T
  block : Int
deriving DecidableEq
def shHeld : Sh Held where
  sz := 22
  pos := by decide
  R := fun ro F s c x => ∃ h b, c = txC x.tx h b ++ [vI x.block] ∧ Sl sh64 ro F s h x.tx.hs ∧ Sl shStr ro F s b x.tx.bs
  len := fun h => by obtain ⟨h, b, rfl, _⟩ := h; rfl
  mo := fun h m => by obtain ⟨h, b, rfl, h1, h2⟩ := h; exact ⟨h, b, rfl, h1.mo m, h2.mo m⟩
structure Head where
  number : Int
  base : U
  excess : Int
deriving DecidableEq
structure Bk where
  room : Int
  head : Head
  accts : List Acct
  txs : List T
  limbo : List Held
deriving DecidableEq
abbrev vB (b : Bk) (a t l : Value) : Value := .agg #[vI b.room, vI b.head.number, v64 b.head.base.a, v64 b.head.base.b, v64 b.head.base.c, v64 b.head.base.d, vI b.head.excess, a, t, l]
end Go.Proofs.YtakdnpafdadblaaGreat.EV.W
namespace Go.Proofs.YtakdnpafdadblaaGreat.EV.W
open Go
set_option maxRecDepth 8000
variable {ro : Addr → Option Value} {K : H}
def ac (x y c : UInt64) : UInt64 := if x.toNat + y.toNat + c.toNat < 18446744073709551616 then 0 else 1
def sb (x y c : UInt64) : UInt64 := if x.toNat < y.toNat + c.toNat then 1 else 0
theorem ac_le (x y c : UInt64) : (ac x y c).toNat ≤ 1 := by unfold ac; split <;> simp
theorem sb_le (x y c : UInt64) : (sb x y c).toNat ≤ 1 := by unfold sb; split <;> simp
theorem add64_u (x y c : UInt64) (hc : c.toNat ≤ 1) : add64 [v64 x, v64 y, v64 c] = some (two (v64 (x + y + c)) (v64 (ac x y c))) := by
  have hx := x.toNat_lt; have hy := y.toNat_lt
  simp only [v64, add64, Int.toNat_natCast, if_pos hc, two, Option.some.injEq, Value.tuple.injEq, Array.mk.injEq, List.cons.injEq, Value.int.injEq, true_and, and_true]
  refine ⟨?_, ?_⟩
  · show ((( _ : Nat)) : Int) = _
    congr 1
    simp only [UInt64.toNat_add]; omega
  · show ((( _ : Nat)) : Int) = _
    congr 1
    unfold ac
    split
    · simp; omega
    · simp; omega
theorem sub64_u (x y c : UInt64) (hc : c.toNat ≤ 1) : sub64 [v64 x, v64 y, v64 c] = some (two (v64 (x - y - c)) (v64 (sb x y c))) := by
  have hx := x.toNat_lt; have hy := y.toNat_lt
  simp only [v64, sub64, Int.toNat_natCast, if_pos hc, two, Option.some.injEq, Value.tuple.injEq, Array.mk.injEq, List.cons.injEq, Value.int.injEq, true_and, and_true]
  refine ⟨?_, ?_⟩
  · show ((( _ : Nat)) : Int) = _
    congr 1
    simp only [UInt64.toNat_sub]; omega
  · show ((( _ : Nat)) : Int) = _
    congr 1
    unfold sb
    split
    · simp
    · simp
attribute [simp] add64_u sub64_u ac_le sb_le
theorem cmpN_lt {a b : Nat} (h : a < b) : cmpN a b = -1 := by simp only [cmpN, if_pos h]
theorem cmpN_gt {a b : Nat} (h : b < a) : cmpN a b = 1 := by rw [cmpN, if_neg (by omega), if_pos h]
theorem cmpN_eq {a b : Nat} (h : a = b) : cmpN a b = 0 := by subst h; simp [cmpN]
theorem cmpN_if (x y : U) : cmpN x.val y.val = if x.d < y.d then -1 else if y.d < x.d then 1 else if x.c < y.c then -1 else if y.c < x.c then 1 else
    if x.b < y.b then -1 else if y.b < x.b then 1 else if x.a < y.a then -1 else if y.a < x.a then 1 else 0 := by
  simp only [UInt64.lt_iff_toNat_lt]
  have := x.a.toNat_lt; have := x.b.toNat_lt; have := x.c.toNat_lt; have := x.d.toNat_lt
  have := y.a.toNat_lt; have := y.b.toNat_lt; have := y.c.toNat_lt; have := y.d.toNat_lt
  repeat' split
  all_goals first
    | exact cmpN_lt (by simp only [U.val]; omega)
    | exact cmpN_gt (by simp only [U.val]; omega)
    | exact cmpN_eq (by simp only [U.val]; omega)
theorem cmp_fv (hK : Std ro K) (x y : U) : Fv K 102 [vU x, vU y] (vI (cmpN x.val y.val)) := by
  intro s hs
  rw [go102 hK _ _ rfl]
  simp [c102, M_lop b102_0, Mb _ _ b102_0.eq_1, hs, wI]
  rw [cmpN_if]
  simp only [apply_ite (fun n => Value.int .i64 n)]
  iterate 8 refine ex_ite (fun _ => ⟨_, rfl⟩) (fun _ => ?_)
  exact ⟨_, rfl⟩
abbrev vUE (x : U) (e : Int) : Value := .tuple #[vU x, vI e]
abbrev U0 : U := ⟨0, 0, 0, 0⟩
theorem ac_val (x y c : UInt64) (hc : c.toNat ≤ 1) : (x + y + c).toNat + 18446744073709551616 * (ac x y c).toNat = x.toNat + y.toNat + c.toNat := by
  have := x.toNat_lt; have := y.toNat_lt
  simp only [UInt64.toNat_add, ac]; split <;> simp <;> omega
theorem add_fv (hK : Std ro K) (x y : U) : Fv K 178 [vU x, vU y] (if x.val + y.val < 2 ^ 256 then vUE (U.of (x.val + y.val)) 0 else vUE U0 8) := by
  intro s hs
  rw [go178 hK _ _ rfl]
  simp [c178, M_lop b178_0, Mb _ _ b178_0.eq_1, hs, wI]
  have h1 := ac_val x.a y.a 0 (by decide)
  have h2 := ac_val x.b y.b _ (ac_le x.a y.a 0)
  have h3 := ac_val x.c y.c _ (ac_le x.b y.b (ac x.a y.a 0))
  have h4 := ac_val x.d y.d _ (ac_le x.c y.c (ac x.b y.b (ac x.a y.a 0)))
  rw [show x.a + y.a + 0 = x.a + y.a by simp, show (0 : UInt64).toNat = 0 from rfl] at h1
  have hv : U.val ⟨x.a + y.a, x.b + y.b + ac x.a y.a 0, x.c + y.c + ac x.b y.b (ac x.a y.a 0), x.d + y.d + ac x.c y.c (ac x.b y.b (ac x.a y.a 0))⟩ + 2 ^ 256 * (ac x.d y.d (ac x.c y.c (ac x.b y.b (ac x.a y.a 0)))).toNat = x.val + y.val := by
    simp only [U.val]; omega
  have hb := U.val_lt ⟨x.a + y.a, x.b + y.b + ac x.a y.a 0, x.c + y.c + ac x.b y.b (ac x.a y.a 0), x.d + y.d + ac x.c y.c (ac x.b y.b (ac x.a y.a 0))⟩
  by_cases hc : 0 < ac x.d y.d (ac x.c y.c (ac x.b y.b (ac x.a y.a 0)))
  · have hc' := hc; rw [UInt64.lt_iff_toNat_lt] at hc'; rw [show (0 : UInt64).toNat = 0 from rfl] at hc'
    rw [if_pos hc, if_neg (by omega)]; exact ⟨_, rfl⟩
  · have hc' := hc; rw [UInt64.lt_iff_toNat_lt] at hc'; rw [show (0 : UInt64).toNat = 0 from rfl] at hc'
    have h0 : x.val + y.val = U.val ⟨x.a + y.a, x.b + y.b + ac x.a y.a 0, x.c + y.c + ac x.b y.b (ac x.a y.a 0), x.d + y.d + ac x.c y.c (ac x.b y.b (ac x.a y.a 0))⟩ := by omega
    rw [if_neg hc, if_pos (by omega), h0, U.of_val]; exact ⟨_, rfl⟩
theorem of_fv (hK : Std ro K) (n : Int) : Fv K 305 [vI n] (if n < 0 then vUE U0 1 else vUE (U.of (n % 18446744073709551616).toNat) 0) := by
  intro s hs
  rw [go305 hK _ _ rfl]
  simp [c305, hs]
  refine ex_ite (fun _ => ⟨_, rfl⟩) (fun h => ?_)
  have h1 : (n % 18446744073709551616).toNat < 18446744073709551616 := by omega
  have e : U.of (n % 18446744073709551616).toNat = ⟨UInt64.ofNat (n % 18446744073709551616).toNat, 0, 0, 0⟩ := by
    simp only [U.of, U.mk.injEq, true_and]
    rw [Nat.div_eq_of_lt h1, Nat.div_eq_of_lt (by omega), Nat.div_eq_of_lt (by omega)]
    exact ⟨rfl, rfl, rfl⟩
  rw [vUE, e]; exact ⟨_, rfl⟩
theorem and32 (y : UInt64) : (y &&& 4294967295).toNat = y.toNat % 4294967296 := by
  rw [UInt64.toNat_and]
  exact Nat.and_two_pow_sub_one_eq_mod y.toNat 32
theorem mul_small {a b : UInt64} (ha : a.toNat < 4294967296) (hb : b.toNat < 4294967296) : (a * b).toNat = a.toNat * b.toNat ∧ a.toNat * b.toNat ≤ 18446744065119617025 := by
  have h : a.toNat * b.toNat ≤ 4294967295 * 4294967295 := Nat.mul_le_mul (by omega) (by omega)
  refine ⟨?_, h⟩
  rw [UInt64.toNat_mul, Nat.mod_eq_of_lt (by omega)]
theorem add_small {a b : UInt64} (h : a.toNat + b.toNat < 18446744073709551616) : (a + b).toNat = a.toNat + b.toNat := by
  rw [UInt64.toNat_add, Nat.mod_eq_of_lt h]
theorem shr32 (x : UInt64) : (shrU x 32).toNat = x.toNat / 4294967296 := by rw [shrU_nat, show min 32 64 = 32 from rfl]
theorem mul64_eq (x y : UInt64) : shrU x 32 * shrU y 32 + shrU (shrU x 32 * (y &&& 4294967295) + shrU ((x &&& 4294967295) * (y &&& 4294967295)) 32) 32 +
      shrU ((shrU x 32 * (y &&& 4294967295) + shrU ((x &&& 4294967295) * (y &&& 4294967295)) 32 &&& 4294967295) + (x &&& 4294967295) * shrU y 32) 32 = UInt64.ofNat (x.toNat * y.toNat / 18446744073709551616) := by
  have hx := x.toNat_lt; have hy := y.toNat_lt
  have lx0 : (x &&& 4294967295).toNat < 4294967296 := by rw [and32]; omega
  have ly0 : (y &&& 4294967295).toNat < 4294967296 := by rw [and32]; omega
  have lx1 : (shrU x 32).toNat < 4294967296 := by rw [shr32]; omega
  have ly1 : (shrU y 32).toNat < 4294967296 := by rw [shr32]; omega
  obtain ⟨e11, b11⟩ := mul_small lx1 ly1
  obtain ⟨e10, b10⟩ := mul_small lx1 ly0
  obtain ⟨e01, b01⟩ := mul_small lx0 ly1
  obtain ⟨e00, b00⟩ := mul_small lx0 ly0
  have hprod : x.toNat * y.toNat = (shrU x 32).toNat * (shrU y 32).toNat * 18446744073709551616 + (shrU x 32).toNat * (y &&& 4294967295).toNat * 4294967296 + (x &&& 4294967295).toNat * (shrU y 32).toNat * 4294967296 + (x &&& 4294967295).toNat * (y &&& 4294967295).toNat := by
    have e1 : x.toNat = (shrU x 32).toNat * 4294967296 + (x &&& 4294967295).toNat := by rw [and32, shr32]; omega
    have e2 : y.toNat = (shrU y 32).toNat * 4294967296 + (y &&& 4294967295).toNat := by rw [and32, shr32]; omega
    generalize (shrU x 32).toNat = x1 at *
    generalize (shrU y 32).toNat = y1 at *
    generalize (x &&& 4294967295).toNat = x0 at *
    generalize (y &&& 4294967295).toNat = y0 at *
    rw [e1, e2]
    simp only [Nat.add_mul, Nat.mul_add]
    rw [show x1 * 4294967296 * (y1 * 4294967296) = x1 * y1 * 18446744073709551616 by
      rw [Nat.mul_mul_mul_comm], show x1 * 4294967296 * y0 = x1 * y0 * 4294967296 by rw [Nat.mul_right_comm], show x0 * (y1 * 4294967296) = x0 * y1 * 4294967296 by rw [Nat.mul_assoc]]
    omega
  apply UInt64.toNat.inj
  have t1 : (shrU x 32 * (y &&& 4294967295) + shrU ((x &&& 4294967295) * (y &&& 4294967295)) 32).toNat = (shrU x 32).toNat * (y &&& 4294967295).toNat + (x &&& 4294967295).toNat * (y &&& 4294967295).toNat / 4294967296 := by
    rw [add_small (by rw [shr32, e10, e00]; omega), shr32, e10, e00]
  have t2 : ((shrU x 32 * (y &&& 4294967295) + shrU ((x &&& 4294967295) * (y &&& 4294967295)) 32 &&& 4294967295) + (x &&& 4294967295) * shrU y 32).toNat = ((shrU x 32).toNat * (y &&& 4294967295).toNat + (x &&& 4294967295).toNat * (y &&& 4294967295).toNat / 4294967296) % 4294967296 + (x &&& 4294967295).toNat * (shrU y 32).toNat := by
    rw [add_small (by rw [and32, t1, e01]; omega), and32, t1, e01]
  have t3 := shr32 (shrU x 32 * (y &&& 4294967295) + shrU ((x &&& 4294967295) * (y &&& 4294967295)) 32)
  have t4 := shr32 ((shrU x 32 * (y &&& 4294967295) + shrU ((x &&& 4294967295) * (y &&& 4294967295)) 32 &&& 4294967295) + (x &&& 4294967295) * shrU y 32)
  rw [t1] at t3; rw [t2] at t4
  have t5 : (shrU x 32 * shrU y 32 + shrU (shrU x 32 * (y &&& 4294967295) + shrU ((x &&& 4294967295) * (y &&& 4294967295)) 32) 32).toNat = (shrU x 32).toNat * (shrU y 32).toNat + ((shrU x 32).toNat * (y &&& 4294967295).toNat + (x &&& 4294967295).toNat * (y &&& 4294967295).toNat / 4294967296) / 4294967296 := by
    rw [add_small (by rw [e11, t3]; omega), e11, t3]
  rw [add_small (by rw [t5, t4]; omega), t5, t4, UInt64.toNat_ofNat', hprod]
  omega
theorem mul64_fv (hK : Std ro K) (x y : UInt64) : Fv K 267 [v64 x, v64 y] (.tuple #[v64 (UInt64.ofNat (x.toNat * y.toNat / 2 ^ 64)), v64 (UInt64.ofNat (x.toNat * y.toNat))]) := by
  intro s hs
  rw [go267 hK _ _ rfl]
  simp [c267, hs]
  exact mul64_eq x y
end Go.Proofs.YtakdnpafdadblaaGreat.EV.W
namespace Go.Proofs.YtakdnpafdadblaaGreat.EV.W
open Go
set_option maxRecDepth 8000
variable {ro : Addr → Option Value} {K : H}
theorem callK_mul64 (hK : Std ro K) (x y : UInt64) {s : St} (hs : WF s) (pr : Option (List Nat)) : callK K (.func (.func 267) #[] #[]) [v64 x, v64 y] true pr s = some (.tuple #[v64 (UInt64.ofNat (x.toNat * y.toNat / 2 ^ 64)), v64 (UInt64.ofNat (x.toNat * y.toNat))], s) :=
  (mul64_fv hK x y).q (fun _ => rfl) hs
def mr (x y t c : UInt64) : UInt64 := UInt64.ofNat (x.toNat * y.toNat) + t + c
def mc (x y t c : UInt64) : UInt64 := UInt64.ofNat (x.toNat * y.toNat / 2 ^ 64) + ac (UInt64.ofNat (x.toNat * y.toNat)) t 0 + ac (UInt64.ofNat (x.toNat * y.toNat) + t) c 0
theorem mrc (x y t c : UInt64) : (mr x y t c).toNat + 18446744073709551616 * (mc x y t c).toNat = x.toNat * y.toNat + t.toNat + c.toNat := by
  have hx := x.toNat_lt; have hy := y.toNat_lt; have ht := t.toNat_lt; have hc := c.toNat_lt
  have h1 := ac_val (UInt64.ofNat (x.toNat * y.toNat)) t 0 (by decide)
  have h2 := ac_val (UInt64.ofNat (x.toNat * y.toNat) + t) c 0 (by decide)
  have hb : x.toNat * y.toNat ≤ 18446744073709551615 * 18446744073709551615 := Nat.mul_le_mul (by omega) (by omega)
  have l1 := ac_le (UInt64.ofNat (x.toNat * y.toNat)) t 0
  have l2 := ac_le (UInt64.ofNat (x.toNat * y.toNat) + t) c 0
  simp only [UInt64.add_zero, show (0 : UInt64).toNat = 0 from rfl, Nat.add_zero, UInt64.toNat_ofNat'] at h1 h2
  unfold mr mc
  have hh : (UInt64.ofNat (x.toNat * y.toNat / 2 ^ 64)).toNat = x.toNat * y.toNat / 18446744073709551616 := by
    rw [UInt64.toNat_ofNat', Nat.mod_eq_of_lt (by omega)]
  have e1 : (UInt64.ofNat (x.toNat * y.toNat / 2 ^ 64) + ac (UInt64.ofNat (x.toNat * y.toNat)) t 0).toNat = x.toNat * y.toNat / 18446744073709551616 + (ac (UInt64.ofNat (x.toNat * y.toNat)) t 0).toNat := by
    rw [add_small (by rw [hh]; omega), hh]
  have e2 := add_small (a := UInt64.ofNat (x.toNat * y.toNat / 2 ^ 64) + ac (UInt64.ofNat (x.toNat * y.toNat)) t 0) (b := ac (UInt64.ofNat (x.toNat * y.toNat) + t) c 0) (by rw [e1]; omega)
  rw [e2, e1]
  omega
theorem mul_row0 (hK : Std ro K) (s : St) (hs : WF s) (r0 r1 r2 : Option (List Value)) (z : Value) (x : UInt64) (y : U) (t0 t1 t2 t3 t4 t5 t6 t7 : UInt64) (k : List Fm) :
    M ro K (.lop b242_0) (.bk 2 :: k) [(3, .pointer (some (EV.own (s.n + 1) 0))), (4, .pointer (some (EV.own (s.n + 2) 0))), (6, .pointer (some (EV.own (s.n + 3) 0))), (7, vI 0), (8, v64 x), (9, v64 0), (16, z), (17, vI 0), (23, vU y), (24, vI 0)] (S s [r0, r1, r2, some [v64 t0, v64 t1, v64 t2, v64 t3, v64 t4, v64 t5, v64 t6, v64 t7]]) =
    Rk ro K .nrm k [(3, .pointer (some (EV.own (s.n + 1) 0))), (4, .pointer (some (EV.own (s.n + 2) 0))), (6, .pointer (some (EV.own (s.n + 3) 0))), (7, vI 0), (8, v64 x), (9, v64 (mc x y.d t3 (mc x y.c t2 (mc x y.b t1 (mc x y.a t0 0))))), (16, z), (17, vI 0), (23, vU y), (24, vI 4), (25, .bool false)] (S s [r0, r1, r2, some [v64 (mr x y.a t0 0), v64 (mr x y.b t1 (mc x y.a t0 0)), v64 (mr x y.c t2 (mc x y.b t1 (mc x y.a t0 0))), v64 (mr x y.d t3 (mc x y.c t2 (mc x y.b t1 (mc x y.a t0 0)))), v64 t4, v64 t5, v64 t6, v64 t7]]) := by
  simp [M_lop b242_0, Mb _ _ b242_0.eq_1, hs, wI, callK_mul64 hK, S_wf hs, mr, mc]
theorem mul_row1 (hK : Std ro K) (s : St) (hs : WF s) (r0 r1 r2 : Option (List Value)) (z : Value) (x : UInt64) (y : U) (t0 t1 t2 t3 t4 t5 t6 t7 : UInt64) (k : List Fm) :
    M ro K (.lop b242_0) (.bk 2 :: k) [(3, .pointer (some (EV.own (s.n + 1) 0))), (4, .pointer (some (EV.own (s.n + 2) 0))), (6, .pointer (some (EV.own (s.n + 3) 0))), (7, vI 1), (8, v64 x), (9, v64 0), (16, z), (17, vI 1), (23, vU y), (24, vI 0)] (S s [r0, r1, r2, some [v64 t0, v64 t1, v64 t2, v64 t3, v64 t4, v64 t5, v64 t6, v64 t7]]) =
    Rk ro K .nrm k [(3, .pointer (some (EV.own (s.n + 1) 0))), (4, .pointer (some (EV.own (s.n + 2) 0))), (6, .pointer (some (EV.own (s.n + 3) 0))), (7, vI 1), (8, v64 x), (9, v64 (mc x y.d t4 (mc x y.c t3 (mc x y.b t2 (mc x y.a t1 0))))), (16, z), (17, vI 1), (23, vU y), (24, vI 4), (25, .bool false)] (S s [r0, r1, r2, some [v64 t0, v64 (mr x y.a t1 0), v64 (mr x y.b t2 (mc x y.a t1 0)), v64 (mr x y.c t3 (mc x y.b t2 (mc x y.a t1 0))), v64 (mr x y.d t4 (mc x y.c t3 (mc x y.b t2 (mc x y.a t1 0)))), v64 t5, v64 t6, v64 t7]]) := by
  simp [M_lop b242_0, Mb _ _ b242_0.eq_1, hs, wI, callK_mul64 hK, S_wf hs, mr, mc]
theorem mul_row2 (hK : Std ro K) (s : St) (hs : WF s) (r0 r1 r2 : Option (List Value)) (z : Value) (x : UInt64) (y : U) (t0 t1 t2 t3 t4 t5 t6 t7 : UInt64) (k : List Fm) :
    M ro K (.lop b242_0) (.bk 2 :: k) [(3, .pointer (some (EV.own (s.n + 1) 0))), (4, .pointer (some (EV.own (s.n + 2) 0))), (6, .pointer (some (EV.own (s.n + 3) 0))), (7, vI 2), (8, v64 x), (9, v64 0), (16, z), (17, vI 2), (23, vU y), (24, vI 0)] (S s [r0, r1, r2, some [v64 t0, v64 t1, v64 t2, v64 t3, v64 t4, v64 t5, v64 t6, v64 t7]]) =
    Rk ro K .nrm k [(3, .pointer (some (EV.own (s.n + 1) 0))), (4, .pointer (some (EV.own (s.n + 2) 0))), (6, .pointer (some (EV.own (s.n + 3) 0))), (7, vI 2), (8, v64 x), (9, v64 (mc x y.d t5 (mc x y.c t4 (mc x y.b t3 (mc x y.a t2 0))))), (16, z), (17, vI 2), (23, vU y), (24, vI 4), (25, .bool false)] (S s [r0, r1, r2, some [v64 t0, v64 t1, v64 (mr x y.a t2 0), v64 (mr x y.b t3 (mc x y.a t2 0)), v64 (mr x y.c t4 (mc x y.b t3 (mc x y.a t2 0))), v64 (mr x y.d t5 (mc x y.c t4 (mc x y.b t3 (mc x y.a t2 0)))), v64 t6, v64 t7]]) := by
  simp [M_lop b242_0, Mb _ _ b242_0.eq_1, hs, wI, callK_mul64 hK, S_wf hs, mr, mc]
theorem mul_row3 (hK : Std ro K) (s : St) (hs : WF s) (r0 r1 r2 : Option (List Value)) (z : Value) (x : UInt64) (y : U) (t0 t1 t2 t3 t4 t5 t6 t7 : UInt64) (k : List Fm) :
    M ro K (.lop b242_0) (.bk 2 :: k) [(3, .pointer (some (EV.own (s.n + 1) 0))), (4, .pointer (some (EV.own (s.n + 2) 0))), (6, .pointer (some (EV.own (s.n + 3) 0))), (7, vI 3), (8, v64 x), (9, v64 0), (16, z), (17, vI 3), (23, vU y), (24, vI 0)] (S s [r0, r1, r2, some [v64 t0, v64 t1, v64 t2, v64 t3, v64 t4, v64 t5, v64 t6, v64 t7]]) =
    Rk ro K .nrm k [(3, .pointer (some (EV.own (s.n + 1) 0))), (4, .pointer (some (EV.own (s.n + 2) 0))), (6, .pointer (some (EV.own (s.n + 3) 0))), (7, vI 3), (8, v64 x), (9, v64 (mc x y.d t6 (mc x y.c t5 (mc x y.b t4 (mc x y.a t3 0))))), (16, z), (17, vI 3), (23, vU y), (24, vI 4), (25, .bool false)] (S s [r0, r1, r2, some [v64 t0, v64 t1, v64 t2, v64 (mr x y.a t3 0), v64 (mr x y.b t4 (mc x y.a t3 0)), v64 (mr x y.c t5 (mc x y.b t4 (mc x y.a t3 0))), v64 (mr x y.d t6 (mc x y.c t5 (mc x y.b t4 (mc x y.a t3 0)))), v64 t7]]) := by
  simp [M_lop b242_0, Mb _ _ b242_0.eq_1, hs, wI, callK_mul64 hK, S_wf hs, mr, mc]
theorem mul_out0 (hK : Std ro K) (s : St) (hs : WF s) (r0 r2 : Option (List Value)) (x y : U) (t0 t1 t2 t3 t4 t5 t6 t7 : UInt64) : ∃ u0 u1 u2 u3 u4 : UInt64, (∀ k : List Fm,
    M ro K (.lop b242_1) k [(3, .pointer (some (EV.own (s.n + 1) 0))), (4, .pointer (some (EV.own (s.n + 2) 0))), (6, .pointer (some (EV.own (s.n + 3) 0))), (16, vU x), (17, vI 0)] (S s [r0, some (cU y), r2, some [v64 t0, v64 t1, v64 t2, v64 t3, v64 0, v64 0, v64 0, v64 0]]) =
    M ro K (.lop b242_1) k [(3, .pointer (some (EV.own (s.n + 1) 0))), (4, .pointer (some (EV.own (s.n + 2) 0))), (6, .pointer (some (EV.own (s.n + 3) 0))), (16, vU x), (17, vI 1)] (S s [r0, some (cU y), r2, some [v64 u0, v64 u1, v64 u2, v64 u3, v64 u4, v64 0, v64 0, v64 0]])) ∧
    u0.toNat + 2 ^ 64 * (u1.toNat + 2 ^ 64 * (u2.toNat + 2 ^ 64 * (u3.toNat + 2 ^ 64 * u4.toNat))) = x.a.toNat * y.val + (t0.toNat + 2 ^ 64 * (t1.toNat + 2 ^ 64 * (t2.toNat + 2 ^ 64 * t3.toNat))) := by
  by_cases hx : x.a = 0
  · refine ⟨t0, t1, t2, t3, 0, fun k => ?_, by rw [hx]; simp⟩
    rw [M_lop]
    simp [Mb _ _ b242_1.eq_1, hs, wI, hx]
  · have h0 := mrc x.a y.a t0 0
    have h1 := mrc x.a y.b t1 (mc x.a y.a t0 0)
    have h2 := mrc x.a y.c t2 (mc x.a y.b t1 (mc x.a y.a t0 0))
    have h3 := mrc x.a y.d t3 (mc x.a y.c t2 (mc x.a y.b t1 (mc x.a y.a t0 0)))
    refine ⟨mr x.a y.a t0 0, mr x.a y.b t1 (mc x.a y.a t0 0), mr x.a y.c t2 (mc x.a y.b t1 (mc x.a y.a t0 0)), mr x.a y.d t3 (mc x.a y.c t2 (mc x.a y.b t1 (mc x.a y.a t0 0))), mc x.a y.d t3 (mc x.a y.c t2 (mc x.a y.b t1 (mc x.a y.a t0 0))), fun k => ?_, ?_⟩
    · rw [M_lop]
      simp [Mb _ _ b242_1.eq_1, hs, wI, hx]
      have := mul_row0 hK s hs r0 (some (cU y)) r2 (vU x) x.a y t0 t1 t2 t3 0 0 0 0
      simp only [EV.own, cU] at this
      simp [this, hs, wI]
    · have z0 : (0 : UInt64).toNat = 0 := rfl
      simp only [U.val, Nat.mul_add, ← Nat.mul_assoc] at *
      simp only [Nat.mul_comm _ (2 ^ 64), Nat.mul_assoc, Nat.mul_left_comm _ (2 ^ 64)] at *
      omega
theorem mul_out1 (hK : Std ro K) (s : St) (hs : WF s) (r0 r2 : Option (List Value)) (x y : U) (t0 t1 t2 t3 t4 t5 t6 t7 : UInt64) : ∃ u0 u1 u2 u3 u4 : UInt64, (∀ k : List Fm,
    M ro K (.lop b242_1) k [(3, .pointer (some (EV.own (s.n + 1) 0))), (4, .pointer (some (EV.own (s.n + 2) 0))), (6, .pointer (some (EV.own (s.n + 3) 0))), (16, vU x), (17, vI 1)] (S s [r0, some (cU y), r2, some [v64 t0, v64 t1, v64 t2, v64 t3, v64 t4, v64 0, v64 0, v64 0]]) =
    M ro K (.lop b242_1) k [(3, .pointer (some (EV.own (s.n + 1) 0))), (4, .pointer (some (EV.own (s.n + 2) 0))), (6, .pointer (some (EV.own (s.n + 3) 0))), (16, vU x), (17, vI 2)] (S s [r0, some (cU y), r2, some [v64 t0, v64 u0, v64 u1, v64 u2, v64 u3, v64 u4, v64 0, v64 0]])) ∧
    u0.toNat + 2 ^ 64 * (u1.toNat + 2 ^ 64 * (u2.toNat + 2 ^ 64 * (u3.toNat + 2 ^ 64 * u4.toNat))) = x.b.toNat * y.val + (t1.toNat + 2 ^ 64 * (t2.toNat + 2 ^ 64 * (t3.toNat + 2 ^ 64 * t4.toNat))) := by
  by_cases hx : x.b = 0
  · refine ⟨t1, t2, t3, t4, 0, fun k => ?_, by rw [hx]; simp⟩
    rw [M_lop]
    simp [Mb _ _ b242_1.eq_1, hs, wI, hx]
  · have h0 := mrc x.b y.a t1 0
    have h1 := mrc x.b y.b t2 (mc x.b y.a t1 0)
    have h2 := mrc x.b y.c t3 (mc x.b y.b t2 (mc x.b y.a t1 0))
    have h3 := mrc x.b y.d t4 (mc x.b y.c t3 (mc x.b y.b t2 (mc x.b y.a t1 0)))
    refine ⟨mr x.b y.a t1 0, mr x.b y.b t2 (mc x.b y.a t1 0), mr x.b y.c t3 (mc x.b y.b t2 (mc x.b y.a t1 0)), mr x.b y.d t4 (mc x.b y.c t3 (mc x.b y.b t2 (mc x.b y.a t1 0))), mc x.b y.d t4 (mc x.b y.c t3 (mc x.b y.b t2 (mc x.b y.a t1 0))), fun k => ?_, ?_⟩
    · rw [M_lop]
      simp [Mb _ _ b242_1.eq_1, hs, wI, hx]
      have := mul_row1 hK s hs r0 (some (cU y)) r2 (vU x) x.b y t0 t1 t2 t3 t4 0 0 0
      simp only [EV.own, cU] at this
      simp [this, hs, wI]
    · have z0 : (0 : UInt64).toNat = 0 := rfl
      simp only [U.val, Nat.mul_add, ← Nat.mul_assoc] at *
      simp only [Nat.mul_comm _ (2 ^ 64), Nat.mul_assoc, Nat.mul_left_comm _ (2 ^ 64)] at *
      omega
theorem mul_out2 (hK : Std ro K) (s : St) (hs : WF s) (r0 r2 : Option (List Value)) (x y : U) (t0 t1 t2 t3 t4 t5 t6 t7 : UInt64) : ∃ u0 u1 u2 u3 u4 : UInt64, (∀ k : List Fm,
    M ro K (.lop b242_1) k [(3, .pointer (some (EV.own (s.n + 1) 0))), (4, .pointer (some (EV.own (s.n + 2) 0))), (6, .pointer (some (EV.own (s.n + 3) 0))), (16, vU x), (17, vI 2)] (S s [r0, some (cU y), r2, some [v64 t0, v64 t1, v64 t2, v64 t3, v64 t4, v64 t5, v64 0, v64 0]]) =
    M ro K (.lop b242_1) k [(3, .pointer (some (EV.own (s.n + 1) 0))), (4, .pointer (some (EV.own (s.n + 2) 0))), (6, .pointer (some (EV.own (s.n + 3) 0))), (16, vU x), (17, vI 3)] (S s [r0, some (cU y), r2, some [v64 t0, v64 t1, v64 u0, v64 u1, v64 u2, v64 u3, v64 u4, v64 0]])) ∧
    u0.toNat + 2 ^ 64 * (u1.toNat + 2 ^ 64 * (u2.toNat + 2 ^ 64 * (u3.toNat + 2 ^ 64 * u4.toNat))) = x.c.toNat * y.val + (t2.toNat + 2 ^ 64 * (t3.toNat + 2 ^ 64 * (t4.toNat + 2 ^ 64 * t5.toNat))) := by
  by_cases hx : x.c = 0
  · refine ⟨t2, t3, t4, t5, 0, fun k => ?_, by rw [hx]; simp⟩
    rw [M_lop]
    simp [Mb _ _ b242_1.eq_1, hs, wI, hx]
  · have h0 := mrc x.c y.a t2 0
    have h1 := mrc x.c y.b t3 (mc x.c y.a t2 0)
    have h2 := mrc x.c y.c t4 (mc x.c y.b t3 (mc x.c y.a t2 0))
    have h3 := mrc x.c y.d t5 (mc x.c y.c t4 (mc x.c y.b t3 (mc x.c y.a t2 0)))
    refine ⟨mr x.c y.a t2 0, mr x.c y.b t3 (mc x.c y.a t2 0), mr x.c y.c t4 (mc x.c y.b t3 (mc x.c y.a t2 0)), mr x.c y.d t5 (mc x.c y.c t4 (mc x.c y.b t3 (mc x.c y.a t2 0))), mc x.c y.d t5 (mc x.c y.c t4 (mc x.c y.b t3 (mc x.c y.a t2 0))), fun k => ?_, ?_⟩
    · rw [M_lop]
      simp [Mb _ _ b242_1.eq_1, hs, wI, hx]
      have := mul_row2 hK s hs r0 (some (cU y)) r2 (vU x) x.c y t0 t1 t2 t3 t4 t5 0 0
      simp only [EV.own, cU] at this
      simp [this, hs, wI]
    · have z0 : (0 : UInt64).toNat = 0 := rfl
      simp only [U.val, Nat.mul_add, ← Nat.mul_assoc] at *
      simp only [Nat.mul_comm _ (2 ^ 64), Nat.mul_assoc, Nat.mul_left_comm _ (2 ^ 64)] at *
      omega
theorem mul_out3 (hK : Std ro K) (s : St) (hs : WF s) (r0 r2 : Option (List Value)) (x y : U) (t0 t1 t2 t3 t4 t5 t6 t7 : UInt64) : ∃ u0 u1 u2 u3 u4 : UInt64, (∀ k : List Fm,
    M ro K (.lop b242_1) k [(3, .pointer (some (EV.own (s.n + 1) 0))), (4, .pointer (some (EV.own (s.n + 2) 0))), (6, .pointer (some (EV.own (s.n + 3) 0))), (16, vU x), (17, vI 3)] (S s [r0, some (cU y), r2, some [v64 t0, v64 t1, v64 t2, v64 t3, v64 t4, v64 t5, v64 t6, v64 0]]) =
    M ro K (.lop b242_1) k [(3, .pointer (some (EV.own (s.n + 1) 0))), (4, .pointer (some (EV.own (s.n + 2) 0))), (6, .pointer (some (EV.own (s.n + 3) 0))), (16, vU x), (17, vI 4)] (S s [r0, some (cU y), r2, some [v64 t0, v64 t1, v64 t2, v64 u0, v64 u1, v64 u2, v64 u3, v64 u4]])) ∧
    u0.toNat + 2 ^ 64 * (u1.toNat + 2 ^ 64 * (u2.toNat + 2 ^ 64 * (u3.toNat + 2 ^ 64 * u4.toNat))) = x.d.toNat * y.val + (t3.toNat + 2 ^ 64 * (t4.toNat + 2 ^ 64 * (t5.toNat + 2 ^ 64 * t6.toNat))) := by
  by_cases hx : x.d = 0
  · refine ⟨t3, t4, t5, t6, 0, fun k => ?_, by rw [hx]; simp⟩
    rw [M_lop]
    simp [Mb _ _ b242_1.eq_1, hs, wI, hx]
  · have h0 := mrc x.d y.a t3 0
    have h1 := mrc x.d y.b t4 (mc x.d y.a t3 0)
    have h2 := mrc x.d y.c t5 (mc x.d y.b t4 (mc x.d y.a t3 0))
    have h3 := mrc x.d y.d t6 (mc x.d y.c t5 (mc x.d y.b t4 (mc x.d y.a t3 0)))
    refine ⟨mr x.d y.a t3 0, mr x.d y.b t4 (mc x.d y.a t3 0), mr x.d y.c t5 (mc x.d y.b t4 (mc x.d y.a t3 0)), mr x.d y.d t6 (mc x.d y.c t5 (mc x.d y.b t4 (mc x.d y.a t3 0))), mc x.d y.d t6 (mc x.d y.c t5 (mc x.d y.b t4 (mc x.d y.a t3 0))), fun k => ?_, ?_⟩
    · rw [M_lop]
      simp [Mb _ _ b242_1.eq_1, hs, wI, hx]
      have := mul_row3 hK s hs r0 (some (cU y)) r2 (vU x) x.d y t0 t1 t2 t3 t4 t5 t6 0
      simp only [EV.own, cU] at this
      simp [this, hs, wI]
    · have z0 : (0 : UInt64).toNat = 0 := rfl
      simp only [U.val, Nat.mul_add, ← Nat.mul_assoc] at *
      simp only [Nat.mul_comm _ (2 ^ 64), Nat.mul_assoc, Nat.mul_left_comm _ (2 ^ 64)] at *
      omega
theorem or4 (a b c d : UInt64) : (a ||| b ||| c ||| d = 0) ↔ (a = 0 ∧ b = 0 ∧ c = 0 ∧ d = 0) := by
  simp only [UInt64.or_eq_zero_iff, and_assoc]
theorem mul_fv (hK : Std ro K) (x y : U) : Fv K 242 [vU x, vU y] (if x.val * y.val < 2 ^ 256 then vUE (U.of (x.val * y.val)) 0 else vUE U0 8) := by
  intro s hs
  rw [go242 hK _ _ rfl]
  obtain ⟨a0, a1, a2, a3, a4, ha, ea⟩ := mul_out0 hK s hs (some (cU x)) (some (cU U0)) x y 0 0 0 0 0 0 0 0
  obtain ⟨b1, b2, b3, b4, b5, hb, eb⟩ := mul_out1 hK s hs (some (cU x)) (some (cU U0)) x y a0 a1 a2 a3 a4 0 0 0
  obtain ⟨c2, c3, c4, c5, c6, hc, ec⟩ := mul_out2 hK s hs (some (cU x)) (some (cU U0)) x y a0 b1 b2 b3 b4 b5 0 0
  obtain ⟨d3, d4, d5, d6, d7, hd, ed⟩ := mul_out3 hK s hs (some (cU x)) (some (cU U0)) x y a0 b1 c2 c3 c4 c5 c6 0
  simp only [cU, EV.own] at ha hb hc hd
  have hval : U.val ⟨a0, b1, c2, d3⟩ + 2 ^ 256 * (d4.toNat + 2 ^ 64 * (d5.toNat + 2 ^ 64 * (d6.toNat + 2 ^ 64 * d7.toNat))) = x.val * y.val := by
    have z0 : (0 : UInt64).toNat = 0 := rfl
    rw [z0] at ea
    have e2 : x.val * y.val = x.a.toNat * y.val + 2 ^ 64 * (x.b.toNat * y.val + 2 ^ 64 * (x.c.toNat * y.val + 2 ^ 64 * (x.d.toNat * y.val))) := by
      clear ha hb hc hd ea eb ec ed
      generalize y.val = Y
      simp only [U.val, Nat.add_mul, Nat.mul_assoc]
    rw [e2]
    simp only [U.val] at ea eb ec ed ⊢
    omega
  have hlast : ∀ k : List Fm, M ro K (.lop b242_1) (.bk 0 :: k) [(3, .pointer (some ⟨s.n + 1, 0, some 0⟩)), (4, .pointer (some ⟨s.n + 2, 0, some 0⟩)), (6, .pointer (some ⟨s.n + 3, 0, some 0⟩)), (16, vU x), (17, vI 4)] (S s [some (cU x), some (cU y), some (cU U0), some [v64 a0, v64 b1, v64 c2, v64 d3, v64 d4, v64 d5, v64 d6, v64 d7]]) =
      Rk ro K .nrm k [(3, .pointer (some ⟨s.n + 1, 0, some 0⟩)), (4, .pointer (some ⟨s.n + 2, 0, some 0⟩)), (6, .pointer (some ⟨s.n + 3, 0, some 0⟩)), (16, vU x), (17, vI 4), (18, .bool false)] (S s [some (cU x), some (cU y), some (cU U0), some [v64 a0, v64 b1, v64 c2, v64 d3, v64 d4, v64 d5, v64 d6, v64 d7]]) := by
    intro k
    rw [M_lop]
    simp [Mb _ _ b242_1.eq_1]
  have hlt := U.val_lt ⟨a0, b1, c2, d3⟩
  simp [c242, hs, wI, ha, hb, hc, hd, hlast, or4]
  by_cases hz : d4 = 0 ∧ d5 = 0 ∧ d6 = 0 ∧ d7 = 0
  · obtain ⟨rfl, rfl, rfl, rfl⟩ := hz
    have hv : x.val * y.val = U.val ⟨a0, b1, c2, d3⟩ := by
      have z0 : (0 : UInt64).toNat = 0 := rfl
      rw [z0] at hval; omega
    rw [hv, if_pos hlt, U.of_val]
    simp
  · have h0 : 0 < d4.toNat + 2 ^ 64 * (d5.toNat + 2 ^ 64 * (d6.toNat + 2 ^ 64 * d7.toNat)) := by
      rcases Nat.eq_zero_or_pos (d4.toNat + 2 ^ 64 * (d5.toNat + 2 ^ 64 * (d6.toNat + 2 ^ 64 * d7.toNat))) with h0 | h0
      · refine absurd ?_ hz
        refine ⟨UInt64.toNat.inj ?_, UInt64.toNat.inj ?_, UInt64.toNat.inj ?_, UInt64.toNat.inj ?_⟩ <;> (rw [show (0 : UInt64).toNat = 0 from rfl]; omega)
      · exact h0
    have hge : ¬ x.val * y.val < 2 ^ 256 := by omega
    clear ha hb hc hd
    rw [if_neg hge]
    exact ⟨_, if_pos (Decidable.byContradiction fun hn => hz (by simpa using hn))⟩
end Go.Proofs.YtakdnpafdadblaaGreat.EV.W
namespace Go.Proofs.YtakdnpafdadblaaGreat.EV.W
open Go
set_option maxRecDepth 8000
variable {ro : Addr → Option Value} {K : H}
def bl (n : Nat) : Nat := if n = 0 then 0 else Nat.log2 n + 1
theorem bl_le (n m : Nat) : bl n ≤ m ↔ n < 2 ^ m := by
  unfold bl
  split
  · rename_i h; subst h; simp [Nat.two_pow_pos]
  · rename_i h; rw [Nat.succ_le_iff, Nat.log2_lt h]
theorem bl_div {n k : Nat} (h : 2 ^ k ≤ n) : bl n = k + bl (n / 2 ^ k) := by
  have key : ∀ m, bl n ≤ m ↔ k + bl (n / 2 ^ k) ≤ m := fun m => by
    rw [bl_le]
    by_cases hk : k ≤ m
    · rw [show m = k + (m - k) by omega, Nat.add_le_add_iff_left, bl_le, Nat.div_lt_iff_lt_mul (Nat.two_pow_pos k), ← Nat.pow_add, Nat.add_comm]
    · have h1 : 2 ^ m ≤ 2 ^ k := Nat.pow_le_pow_right (by omega) (by omega)
      constructor
      · intro h2; omega
      · intro h2; omega
  exact Nat.le_antisymm ((key _).2 (Nat.le_refl _)) ((key _).1 (Nat.le_refl _))
theorem bl_pos {n : Nat} (h : 0 < n) : 0 < bl n := by unfold bl; rw [if_neg (by omega)]; omega
theorem tab8 : ∀ i, i < 256 → len8tab[i]? = some (UInt8.ofNat (bl i)) := by decide +kernel
theorem bl8 {i : Nat} (h : i < 256) : bl i ≤ 8 := by rw [bl_le]; omega
theorem bl64 (x : UInt64) : bl x.toNat ≤ 64 := by rw [bl_le]; exact x.toNat_lt
theorem tab8' (x : UInt64) (h : x.toNat < 256) : len8tab[x.toNat % 256]? = some (UInt8.ofNat (bl x.toNat)) := by
  rw [Nat.mod_eq_of_lt h]; exact tab8 _ h
theorem bl_shr (x : UInt64) {k : Nat} (hk : k ≤ 64) (h : 2 ^ k ≤ x.toNat) : bl x.toNat = k + bl (shrU x k).toNat := by
  rw [shrU_nat, show min k 64 = k by omega]; exact bl_div h
theorem c8 (x : UInt64) (h : x.toNat < 256) : (UInt8.ofNat (bl x.toNat)).toNat = bl x.toNat := by
  rw [UInt8.toNat_ofNat']; have := bl8 h; omega
theorem len64_fv (hK : Std ro K) (x : UInt64) : Fv K 279 [v64 x] (vI (bl x.toNat)) := by
  intro s hs
  rw [go279 hK _ _ rfl]
  have hx := x.toNat_lt
  have s32 : ∀ y, (shrU y 32).toNat = y.toNat / 4294967296 := fun y => by rw [shrU_nat, show min 32 64 = 32 from rfl]
  have s16 : ∀ y, (shrU y 16).toNat = y.toNat / 65536 := fun y => by rw [shrU_nat, show min 16 64 = 16 from rfl]
  have s8 : ∀ y, (shrU y 8).toNat = y.toNat / 256 := fun y => by rw [shrU_nat, show min 8 64 = 8 from rfl]
  have k32 : (4294967296 : UInt64).toNat = 4294967296 := rfl
  have k16 : (65536 : UInt64).toNat = 65536 := rfl
  have k8 : (256 : UInt64).toNat = 256 := rfl
  have B := bl64 x
  by_cases h1 : 4294967296 ≤ x
  · have g1 := h1; rw [UInt64.le_iff_toNat_le, k32] at g1
    have d1 := bl_shr x (k := 32) (by omega) (by omega)
    by_cases h2 : 65536 ≤ shrU x 32
    · have g2 := h2; rw [UInt64.le_iff_toNat_le, k16] at g2
      have d2 := bl_shr (shrU x 32) (k := 16) (by omega) (by omega)
      by_cases h3 : 256 ≤ shrU (shrU x 32) 16
      · have g3 := h3; rw [UInt64.le_iff_toNat_le, k8] at g3
        have d3 := bl_shr (shrU (shrU x 32) 16) (k := 8) (by omega) (by omega)
        have hy : (shrU (shrU (shrU x 32) 16) 8).toNat < 256 := by rw [s8, s16, s32]; omega
        simp [c279, h1, h2, h3, hs, tab8' _ hy, c8 _ hy, wI]
        rw [wI _ (by omega) (by omega)]; omega
      · have g3 := h3; rw [UInt64.le_iff_toNat_le, k8] at g3
        have hy : (shrU (shrU x 32) 16).toNat < 256 := by omega
        simp [c279, h1, h2, h3, hs, tab8' _ hy, c8 _ hy, wI]
        rw [wI _ (by omega) (by omega)]; omega
    · have g2 := h2; rw [UInt64.le_iff_toNat_le, k16] at g2
      by_cases h3 : 256 ≤ shrU x 32
      · have g3 := h3; rw [UInt64.le_iff_toNat_le, k8] at g3
        have d3 := bl_shr (shrU x 32) (k := 8) (by omega) (by omega)
        have hy : (shrU (shrU x 32) 8).toNat < 256 := by rw [s8]; omega
        simp [c279, h1, h2, h3, hs, tab8' _ hy, c8 _ hy, wI]
        rw [wI _ (by omega) (by omega)]; omega
      · have g3 := h3; rw [UInt64.le_iff_toNat_le, k8] at g3
        have hy : (shrU x 32).toNat < 256 := by omega
        simp [c279, h1, h2, h3, hs, tab8' _ hy, c8 _ hy, wI]
        rw [wI _ (by omega) (by omega)]; omega
  · have g1 := h1; rw [UInt64.le_iff_toNat_le, k32] at g1
    by_cases h2 : 65536 ≤ x
    · have g2 := h2; rw [UInt64.le_iff_toNat_le, k16] at g2
      have d2 := bl_shr x (k := 16) (by omega) (by omega)
      by_cases h3 : 256 ≤ shrU x 16
      · have g3 := h3; rw [UInt64.le_iff_toNat_le, k8] at g3
        have d3 := bl_shr (shrU x 16) (k := 8) (by omega) (by omega)
        have hy : (shrU (shrU x 16) 8).toNat < 256 := by rw [s8, s16]; omega
        simp [c279, h1, h2, h3, hs, tab8' _ hy, c8 _ hy, wI]
        rw [wI _ (by omega) (by omega)]; omega
      · have g3 := h3; rw [UInt64.le_iff_toNat_le, k8] at g3
        have hy : (shrU x 16).toNat < 256 := by omega
        simp [c279, h1, h2, h3, hs, tab8' _ hy, c8 _ hy, wI]
        rw [wI _ (by omega) (by omega)]; omega
    · have g2 := h2; rw [UInt64.le_iff_toNat_le, k16] at g2
      by_cases h3 : 256 ≤ x
      · have g3 := h3; rw [UInt64.le_iff_toNat_le, k8] at g3
        have d3 := bl_shr x (k := 8) (by omega) (by omega)
        have hy : (shrU x 8).toNat < 256 := by rw [s8]; omega
        simp [c279, h1, h2, h3, hs, tab8' _ hy, c8 _ hy, wI]
        rw [wI _ (by omega) (by omega)]; omega
      · have g3 := h3; rw [UInt64.le_iff_toNat_le, k8] at g3
        have hy : x.toNat < 256 := by omega
        simp [c279, h1, h2, h3, hs, tab8' _ hy, c8 _ hy, wI]
        rw [wI _ (by omega) (by omega)]
theorem len_fv (hK : Std ro K) (x : UInt64) : Fv K 246 [v64 x] (vI (bl x.toNat)) := by
  intro s hs
  rw [go246 hK _ _ rfl]
  simp [c246, (len64_fv hK x).q (fun _ => rfl) hs]
end Go.Proofs.YtakdnpafdadblaaGreat.EV.W
namespace Go.Proofs.YtakdnpafdadblaaGreat.EV.W
open Go
set_option maxRecDepth 8000
variable {ro : Addr → Option Value} {K : H}
def lm (x : U) : Int := if x.d = 0 then (if x.c = 0 then (if x.b = 0 then (if x.a = 0 then 0 else 1) else 2) else 3) else 4
theorem limbs_fv (hK : Std ro K) (x : U) : Fv K 301 [vU x] (vI (lm x)) := by
  intro s hs
  rw [go301 hK _ _ rfl]
  by_cases h3 : x.d = 0
  · by_cases h2 : x.c = 0
    · by_cases h1 : x.b = 0
      · by_cases h0 : x.a = 0
        · simp [c301, M_lop b301_0, Mb _ _ b301_0.eq_1, hs, wI, lm, h0, h1, h2, h3]
        · simp [c301, M_lop b301_0, Mb _ _ b301_0.eq_1, hs, wI, lm, h0, h1, h2, h3]
      · simp [c301, M_lop b301_0, Mb _ _ b301_0.eq_1, hs, wI, lm, h1, h2, h3]
    · simp [c301, M_lop b301_0, Mb _ _ b301_0.eq_1, hs, wI, lm, h2, h3]
  · simp [c301, M_lop b301_0, Mb _ _ b301_0.eq_1, hs, wI, lm, h3]
theorem ne0 {x : UInt64} (h : ¬ x = 0) : 0 < x.toNat := by
  rcases Nat.eq_zero_or_pos x.toNat with h0 | h0
  · exact absurd (UInt64.toNat.inj h0) h
  · exact h0
theorem bits_fv (hK : Std ro K) (x : U) : Fv K 287 [vU x] (vI (bl x.val)) := by
  intro s hs
  rw [go287 hK _ _ rfl]
  have ha := x.a.toNat_lt; have hb := x.b.toNat_lt; have hc := x.c.toNat_lt; have hd := x.d.toNat_lt
  have hlm := fun (a b c d : UInt64) (s : St) (hs : WF s) (pr : Option (List Nat)) => (limbs_fv hK ⟨a, b, c, d⟩).q (fun _ => rfl) hs (pr := pr)
  simp only [vU] at hlm
  have hlen := fun (y : UInt64) (s : St) (hs : WF s) (pr : Option (List Nat)) => (len64_fv hK y).q (fun _ => rfl) hs (pr := pr)
  have z0 : (0 : UInt64).toNat = 0 := rfl
  have b64 := fun y => bl64 y
  have key : ∀ (n : Nat) (y : UInt64), 0 < y.toNat → x.val / 2 ^ (64 * n) = y.toNat → bl x.val = 64 * n + bl y.toNat := fun n y hy h => by
    rw [← h]
    refine bl_div ?_
    rcases Nat.lt_or_ge x.val (2 ^ (64 * n)) with h1 | h1
    · rw [Nat.div_eq_of_lt h1] at h; omega
    · exact h1
  by_cases h3 : x.d = 0
  · by_cases h2 : x.c = 0
    · by_cases h1 : x.b = 0
      · by_cases h0 : x.a = 0
        · have hv : x.val = 0 := by simp only [U.val, h0, h1, h2, h3, z0]
          simp [c287, hs, S_wf hs, hlm, lm, h0, h1, h2, h3, hv, bl]
        · have hv : bl x.val = 0 + bl x.a.toNat := key 0 x.a (ne0 h0) (by simp only [U.val, h1, h2, h3, z0]; omega)
          have := b64 x.a
          simp [c287, hs, S_wf hs, hlm, hlen, lm, h0, h1, h2, h3, hv, wI]
          rw [wI _ (by omega) (by omega)]
      · have hv : bl x.val = 64 + bl x.b.toNat := key 1 x.b (ne0 h1) (by simp only [U.val, h2, h3, z0]; omega)
        have := b64 x.b
        simp [c287, hs, S_wf hs, hlm, hlen, lm, h1, h2, h3, hv, wI]
        rw [wI _ (by omega) (by omega)]
    · have hv : bl x.val = 128 + bl x.c.toNat := key 2 x.c (ne0 h2) (by simp only [U.val, h3, z0]; omega)
      have := b64 x.c
      simp [c287, hs, S_wf hs, hlm, hlen, lm, h2, h3, hv, wI]
      rw [wI _ (by omega) (by omega)]
  · have hv : bl x.val = 192 + bl x.d.toNat := key 3 x.d (ne0 h3) (by simp only [U.val]; omega)
    have := b64 x.d
    simp [c287, hs, S_wf hs, hlm, hlen, lm, h3, hv, wI]
    rw [wI _ (by omega) (by omega)]
def beN : Nat → Nat → List UInt8
  | 0, _ => []
  | k + 1, n => UInt8.ofNat (n / 256 ^ k) :: beN k n
theorem beN_length (k n : Nat) : (beN k n).length = k := by induction k <;> simp [beN, *]
def be (n : Nat) : List UInt8 := beN ((bl n + 7) / 8) n
def U.limb (x : U) : Nat → UInt64
  | 0 => x.a
  | 1 => x.b
  | 2 => x.c
  | _ => x.d
theorem limb_nat (x : U) {q : Nat} (h : q < 4) : (x.limb q).toNat = x.val / 2 ^ (64 * q) % 2 ^ 64 := by
  have ha := x.a.toNat_lt; have hb := x.b.toNat_lt; have hc := x.c.toNat_lt; have hd := x.d.toNat_lt
  match q, h with
  | 0, _ => simp only [U.limb, U.val]; omega
  | 1, _ => simp only [U.limb, U.val]; omega
  | 2, _ => simp only [U.limb, U.val]; omega
  | 3, _ => simp only [U.limb, U.val]; omega
theorem limb_cut (x : U) {q : Nat} (h : q < 4) : List.take 1 (List.drop q [v64 x.a, v64 x.b, v64 x.c, v64 x.d]) = [v64 (x.limb q)] := by
  match q, h with
  | 0, _ => rfl
  | 1, _ => rfl
  | 2, _ => rfl
  | 3, _ => rfl
theorem byte_eq (x : U) {i : Nat} (h : i < 32) : (shrU (x.limb (i / 8)) (i % 8 * 8)).toUInt8 = UInt8.ofNat (x.val / 256 ^ i) := by
  apply UInt8.toNat.inj
  rw [UInt64.toNat_toUInt8, shrU_nat, limb_nat x (by omega), UInt8.toNat_ofNat', show min (i % 8 * 8) 64 = i % 8 * 8 by omega]
  have e1 : (2 : Nat) ^ 64 = 2 ^ (64 - i % 8 * 8) * 2 ^ (i % 8 * 8) := by rw [← Nat.pow_add]; congr 1; omega
  rw [e1, Nat.mod_mul_left_div_self, Nat.div_div_eq_div_mul, ← Nat.pow_add, Nat.mod_mod_of_dvd _ (Nat.pow_dvd_pow 2 (by omega)), show (256 : Nat) = 2 ^ 8 from rfl, ← Nat.pow_mul, show 64 * (i / 8) + i % 8 * 8 = 8 * i by omega]
theorem text_loop (x : U) (s : St) (hs : WF s) (m : Nat) (hm : m ≤ 32) (k : List Fm) : ∀ (j i : Nat), i + j = m →
    M ro K (.lop b264_0) (.bk 0 :: k) [(1, .pointer (some (EV.own s.n 0))), (3, .slice (some (EV.own (s.n + 1) 0)) m 1), (11, vI m), (12, vI i)] (S s [some (cU x), some (List.replicate j (v8 0) ++ (beN i x.val).map v8)]) =
    Rk ro K .nrm k [(1, .pointer (some (EV.own s.n 0))), (3, .slice (some (EV.own (s.n + 1) 0)) m 1), (11, vI m), (12, vI m), (13, .bool false)] (S s [some (cU x), some ((beN m x.val).map v8)]) := by
  intro j
  induction j with
  | zero =>
    intro i h
    have : i = m := by omega
    subst this
    rw [M_lop]
    simp [Mb _ _ b264_0.eq_1]
  | succ j ih =>
    intro i h
    rw [M_lop]
    have e2 : (i : Int).tmod 8 = (i : Int) % 8 := Int.tmod_eq_emod_of_nonneg (by omega)
    have a4 : ((i : Int) / 8).toNat = i / 8 := by omega
    have a6 : ((i : Int) % 8 * 8).toNat = i % 8 * 8 := by omega
    have hi : i < m := by omega
    have hj : ((m : Int) - 1 - i).toNat = j := by omega
    have a1 : 0 ≤ (i : Int) / 8 := by omega
    have a2 : (i : Int) / 8 < 4 := by omega
    have a5 : 0 ≤ (m : Int) - 1 - i := by omega
    have a7 : (m : Int) - 1 - i < m := by omega
    have a8 : i / 8 ≤ 3 := by omega
    have := ih (i + 1) (by omega)
    simp only [EV.own, show ((i + 1 : Nat) : Int) = (i : Int) + 1 from rfl] at this
    have a9 : (i : Int) ≤ (m : Int) - 1 := by omega
    simp (disch := first | omega | assumption | (simp; done) | (simp; omega)) [Mb _ _ b264_0.eq_1, hs, wI, e2, a4, a6, hi, hj, a1, a2, a5, a7, a8, a9, limb_cut, byte_eq x (show i < 32 by omega)]
    rw [← this, List.replicate_succ', List.set_append_right _ _ (by simp)]
    simp [beN]
theorem be_len {n : Nat} (h : n < 2 ^ 256) : (bl n + 7) / 8 ≤ 32 := by
  have := (bl_le n 256).2 h; omega
theorem bytesOf_v8 : ∀ l : List UInt8, bytesOf (l.map v8) = some l
  | [] => rfl
  | x :: l => by
    have := bytesOf_v8 l
    show (match bytesOf (l.map v8) with | some r => some (UInt8.ofNat ((x.toNat : Int)).toNat :: r) | none => none) = _
    rw [this]
    exact congrArg (fun y => some (y :: l)) (UInt8.ofNat_toNat)
theorem rep1 (v : Value) : ∀ n, rep [v] n = List.replicate n v
  | 0 => rfl
  | n + 1 => by rw [rep, rep1 v n]; rfl
theorem text_fv (hK : Std ro K) (x : U) : Fv K 264 [vU x] (Str (be x.val)) := by
  intro s hs
  rw [go264 hK _ _ rfl]
  have hb := be_len x.val_lt
  have hbits := fun (a b c d : UInt64) (s : St) (hs : WF s) (pr : Option (List Nat)) => (bits_fv hK ⟨a, b, c, d⟩).q (fun _ => rfl) hs (pr := pr)
  simp only [vU] at hbits
  have e1 : IntKind.i64.wrap (((bl x.val : Nat) : Int) + 7) = ((bl x.val : Nat) : Int) + 7 := wI _ (by omega) (by omega)
  obtain ⟨q, hq⟩ : ∃ q, q = (bl x.val + 7) / 8 := ⟨_, rfl⟩
  have e2 : IntKind.i64.wrap ((((bl x.val : Nat) : Int) + 7) / 8) = (q : Int) := by rw [wI _ (by omega) (by omega)]; omega
  have hq2 : (q : Int) ≤ 4294967296 := by omega
  have hx : (⟨x.a, x.b, x.c, x.d⟩ : U) = x := rfl
  have e3 : (((bl x.val : Nat) : Int) + 7).tdiv 8 = (((bl x.val : Nat) : Int) + 7) / 8 := Int.tdiv_eq_ediv_of_nonneg (by omega)
  have hl := fun k => text_loop (ro := ro) (K := K) x s hs q (by omega) k q 0 (by omega)
  simp only [EV.own, beN, List.map_nil, List.append_nil, show ((0 : Nat) : Int) = 0 from rfl] at hl
  simp [c264, hs, S_wf hs, hbits, hx, e1, e2, e3, hq2, rep1, hl, rdSl, beN_length, bytesOf_v8, be, ← hq, List.take_of_length_le]
end Go.Proofs.YtakdnpafdadblaaGreat.EV.W
namespace Go.Proofs.YtakdnpafdadblaaGreat.EV.W
open Go
set_option maxRecDepth 8000
variable {ro : Addr → Option Value} {K : H}
def markB (m : UInt64) : List UInt8 → UInt64
  | [] => m
  | b :: l => markB ((m ^^^ b.toUInt64) * 1099511628211) l
def mark (l : List UInt8) : UInt64 := markB 14695981039346656037 l
theorem mark_loop (s : St) (k : List Fm) : ∀ (r p : List UInt8) (m : UInt64), (p ++ r).length < 4611686018427387904 →
    M ro K (.lop b170_0) (.bk 0 :: k) [(0, Str (p ++ r)), (3, v64 m), (6, vI (p ++ r).length), (7, vI p.length)] s =
    Rk ro K .nrm k [(0, Str (p ++ r)), (3, v64 (markB m r)), (6, vI (p ++ r).length), (7, vI (p ++ r).length), (8, .bool false)] s
  | [], p, m, _ => by
    rw [M_lop]
    simp [Mb _ _ b170_0.eq_1, markB]
  | x :: r, p, m, h => by
    rw [M_lop]
    have ih := mark_loop s k r (p ++ [x]) ((m ^^^ x.toUInt64) * 1099511628211) (by simpa using h)
    simp at ih h
    simp (disch := first | omega | assumption | (simp; done) | (simp; omega)) [Mb _ _ b170_0.eq_1, wI, markB, if_pos]
    rw [← ih]
theorem mark_fv (hK : Std ro K) (l : List UInt8) (h : l.length < 4611686018427387904) : Fv K 170 [Str l] (v64 (mark l)) := by
  intro s hs
  rw [go170 hK _ _ rfl]
  have hl := fun k => mark_loop (ro := ro) (K := K) s k l [] 14695981039346656037 (by simpa using h)
  simp only [List.nil_append, List.length_nil, show ((0 : Nat) : Int) = 0 from rfl] at hl
  simp [c170, hl, mark]
theorem rmark_loop (s : St) (k : List Fm) : ∀ (r p : List UInt8) (m : UInt64), (p ++ r).length < 4611686018427387904 →
    M ro K (.lop b138_0) (.bk 0 :: k) [(0, Str (p ++ r)), (3, v64 m), (4, vI p.length)] s =
    Rk ro K .nrm k [(0, Str (p ++ r)), (3, v64 (markB m r)), (4, vI (p ++ r).length), (8, .bool false)] s
  | [], p, m, _ => by
    rw [M_lop]
    simp [Mb _ _ b138_0.eq_1, markB]
  | x :: r, p, m, h => by
    rw [M_lop]
    have ih := rmark_loop s k r (p ++ [x]) ((m ^^^ x.toUInt64) * 1099511628211) (by simpa using h)
    simp at ih h
    simp (disch := first | omega | assumption | (simp; done) | (simp; omega)) [Mb _ _ b138_0.eq_1, wI, markB, if_pos]
    rw [← ih]
theorem rmark_fv (hK : Std ro K) (l : List UInt8) (h : l.length < 4611686018427387904) : Fv K 138 [Str l] (v64 (mark l)) := by
  intro s hs
  rw [go138 hK _ _ rfl]
  have hl := fun k => rmark_loop (ro := ro) (K := K) s k l [] 14695981039346656037 (by simpa using h)
  simp only [List.nil_append, List.length_nil, show ((0 : Nat) : Int) = 0 from rfl] at hl
  simp [c138, hl, mark]
theorem bytesOf_nil : bytesOf [] = some [] := rfl
theorem bytesOf_cons (x : UInt8) (l : List Value) : bytesOf (v8 x :: l) = (bytesOf l).map (x :: ·) := by
  show (match bytesOf l with | some r => some (UInt8.ofNat ((x.toNat : Int)).toNat :: r) | none => none) = _
  cases bytesOf l with
  | none => rfl
  | some r => exact congrArg (fun y => some (y :: r)) (UInt8.ofNat_toNat)
attribute [simp] bytesOf_nil bytesOf_cons
def mtext (m : UInt64) : List UInt8 := beN 8 m.toNat
theorem mbyte (m : UInt64) (i : Nat) (h : i < 8) : (shrU m (8 * i)).toUInt8 = UInt8.ofNat (m.toNat / 256 ^ i) := by
  apply UInt8.toNat.inj
  rw [UInt64.toNat_toUInt8, shrU_nat, UInt8.toNat_ofNat', show min (8 * i) 64 = 8 * i by omega, show (256 : Nat) = 2 ^ 8 from rfl, ← Nat.pow_mul]
theorem mtext_fv (hK : Std ro K) (m : UInt64) : Fv K 231 [v64 m] (Str (mtext m)) := by
  intro s hs
  rw [go231 hK _ _ rfl]
  have e0 := mbyte m 0 (by omega); have e1 := mbyte m 1 (by omega); have e2 := mbyte m 2 (by omega); have e3 := mbyte m 3 (by omega)
  have e4 := mbyte m 4 (by omega); have e5 := mbyte m 5 (by omega); have e6 := mbyte m 6 (by omega); have e7 := mbyte m 7 (by omega)
  simp only [Nat.mul_zero, Nat.reduceMul] at e0 e1 e2 e3 e4 e5 e6 e7
  simp [c231, M_lop b231_0, Mb _ _ b231_0.eq_1, hs, wI, rdSl, mtext, beN, e0, e1, e2, e3, e4, e5, e6, e7]
theorem gas_fv (hK : Std ro K) (n : Int) : Fv K 103 [vI n] (if n < 1 ∨ 4 < n then .tuple #[vI 0, vI 1] else .tuple #[vI (n * 131072), vI 0]) := by
  intro s hs
  rw [go103 hK _ _ rfl]
  by_cases h1 : n < 1
  · simp [c103, h1]
  · by_cases h2 : 4 < n
    · simp [c103, h1, h2]
    · simp (disch := first | omega | assumption | (simp; done) | (simp; omega)) [c103, h1, h2, wI]
abbrev blobS : List UInt8 := [98, 108, 111, 98]
def hashB (b : List UInt8) : UInt64 := mark (blobS ++ b)
theorem hash_fv (hK : Std ro K) (b : List UInt8) (hb : b.length < 1048576) : Fv K 241 [Str b] (if 64 < b.length then .tuple #[v64 0, vI 2] else .tuple #[v64 (hashB b), vI 0]) := by
  intro s hs
  rw [go241 hK _ _ rfl]
  have hm := fun (s : St) (hs : WF s) (pr : Option (List Nat)) => (mark_fv hK (blobS ++ b) (by simp; omega)).q (fun _ => rfl) hs (pr := pr)
  simp only [List.cons_append, List.nil_append] at hm
  by_cases h : 64 < b.length
  · simp (disch := first | omega | assumption | (simp; done) | (simp; omega)) [c241, h, if_pos]
  · simp (disch := first | omega | assumption | (simp; done) | (simp; omega)) [c241, h, decide_eq_true, decide_eq_false, if_pos, if_neg, strBin, hm, hashB]
theorem rhash_fv (hK : Std ro K) (b : List UInt8) (hb : b.length < 1048576) : Fv K 94 [Str b] (v64 (hashB b)) := by
  intro s hs
  rw [go94 hK _ _ rfl]
  have hm := fun (s : St) (hs : WF s) (pr : Option (List Nat)) => (rmark_fv hK (blobS ++ b) (by simp; omega)).q (fun _ => rfl) hs (pr := pr)
  simp only [List.cons_append, List.nil_append] at hm
  simp (disch := first | omega | assumption | (simp; done) | (simp; omega)) [c94, if_pos, strBin, hm, hashB]
def fits (hs : List UInt64) (bs : List (List UInt8)) : Int :=
  if bs.length < 1 ∨ 4 < bs.length ∨ hs.length ≠ bs.length then 1
  else if bs.any (fun b => decide (64 < b.length)) then 2
  else if hs = bs.map hashB then 0 else 1
theorem Sl.at1 {α : Type} {f : α → Value} {F : Fp} {s : St} {l : List α} {a : Option Addr} (h : ∀ i (hi : i < l.length), ∃ b, a = some b ∧ ∃ cs, (sh1 f).R ro F s cs l[i] ∧ RdA ro F s (shift b (i * (sh1 f).sz)) cs) (i : Nat) (hi : i < l.length) : ∃ b, a = some b ∧ rdAt ro s (shift b i) 1 = some [f l[i]] := by
  obtain ⟨b, hb, cs, h1, h2⟩ := h i hi
  have h1' : cs = [f l[i]] := h1
  subst h1'
  refine ⟨b, hb, ?_⟩
  have := h2.rd 1 (by simp)
  simpa [sh1] using this
def fl : List UInt64 → List (List UInt8) → Bool → Option Bool
  | h :: hs, b :: bs, u => if 64 < b.length then none else fl hs bs (u || decide (hashB b ≠ h))
  | _, _, u => some u
theorem fits_loop (hK : Std ro K) (s : St) (hs : WF s) (H : List UInt64) (B : List (List UInt8)) (a1 a2 : Option Addr) (c1 c2 : Nat) (hb : ∀ b ∈ B, b.length < 1048576) (hn : H.length = B.length) (h4 : B.length ≤ 4)
    (o1 : ∀ i (hi : i < H.length), ∃ b, a1 = some b ∧ rdAt ro s (shift b i) 1 = some [v64 H[i]]) (o2 : ∀ i (hi : i < B.length), ∃ b, a2 = some b ∧ rdAt ro s (shift b i) 1 = some [Str B[i]]) (k : List Fm) :
    ∀ (j i : Nat) (u : Bool), i + j = B.length →
    M ro K (.lop b190_0) (.bk 0 :: k) [(0, .slice a1 H.length c1), (5, .bool u), (25, .slice a2 B.length c2), (26, vI B.length), (27, vI i)] s =
      match fl (H.drop i) (B.drop i) u with
      | none => Rk ro K .ret k [(4, vI 2)] s
      | some u => Rk ro K .nrm k [(0, .slice a1 H.length c1), (5, .bool u), (25, .slice a2 B.length c2), (26, vI B.length), (27, vI B.length), (28, .bool false)] s := by
  intro j
  induction j with
  | zero =>
    intro i u h
    have : i = B.length := by omega
    subst this
    rw [M_lop, List.drop_of_length_le (Nat.le_refl _), List.drop_of_length_le (by omega)]
    simp (disch := first | omega | assumption | (simp; done) | (simp; omega)) [Mb _ _ b190_0.eq_1, fl]
  | succ j ih =>
    intro i u h
    obtain ⟨b1, rfl, r1⟩ := o1 i (by omega)
    obtain ⟨b2, rfl, r2⟩ := o2 i (by omega)
    have hh := fun (s : St) (hs : WF s) (pr : Option (List Nat)) => (hash_fv hK B[i] (hb _ (by simp))).q (fun _ => by split <;> rfl) hs (pr := pr)
    rw [M_lop, List.drop_eq_getElem_cons (show i < H.length by omega), List.drop_eq_getElem_cons (show i < B.length by omega), fl]
    by_cases h64 : 64 < B[i].length
    · rw [if_pos h64] at hh
      simp (disch := first | omega | assumption | (simp; done) | (simp; omega)) [Mb _ _ b190_0.eq_1, decide_eq_true, decide_eq_false, if_pos, r2, hh, h64]
    · rw [if_neg h64] at hh
      have ih1 := ih (i + 1) (u || decide (hashB B[i] ≠ H[i])) (by omega)
      rw [if_neg h64, ← ih1]
      cases u with
      | true => simp (disch := first | omega | assumption | (simp; done) | (simp; omega)) [Mb _ _ b190_0.eq_1, decide_eq_true, decide_eq_false, if_pos, r1, r2, hh, wI]
      | false => simp (disch := first | omega | assumption | (simp; done) | (simp; omega)) [Mb _ _ b190_0.eq_1, decide_eq_true, decide_eq_false, if_pos, r1, r2, hh, wI]
theorem fl_eq : ∀ (H : List UInt64) (B : List (List UInt8)) (u : Bool), H.length = B.length → fl H B u = if B.any (fun b => decide (64 < b.length)) then none else some (u || decide (H ≠ B.map hashB))
  | [], [], u, _ => by simp [fl]
  | h :: H, b :: B, u, hl => by
    rw [fl, List.any_cons]
    by_cases h64 : 64 < b.length
    · simp [h64]
    · rw [if_neg h64, fl_eq H B _ (by simpa using hl)]
      have e : (u || decide (hashB b ≠ h) || decide (H ≠ B.map hashB)) = (u || decide (h :: H ≠ (b :: B).map hashB)) := by
        cases u with
        | true => rfl
        | false =>
          by_cases e1 : hashB b = h
          · by_cases e2 : H = B.map hashB
            · simp [e1, ← e2]
            · simp [e1, e2]
          · have : ¬ h = hashB b := fun hh => e1 hh.symm
            simp [e1, this]
      rw [e]
      simp [h64]
theorem fits_fv (hK : Std ro K) (H : List UInt64) (B : List (List UInt8)) (vh vb : Value) (F : Fp) (hb : ∀ b ∈ B, b.length < 1048576) (s : St) (hs : WF s) (r1 : Sl sh64 ro F s vh H) (r2 : Sl shStr ro F s vb B) :
    ∃ s', K (.func (.func 190) #[] #[]) [vh, vb] s = some (vI (fits H B), s') := by
  rw [go190 hK _ _ rfl]
  obtain ⟨a1, c1, rfl, o1⟩ := r1.open
  obtain ⟨a2, c2, rfl, o2⟩ := r2.open
  have hl := fun h1 h2 k => fits_loop hK s hs H B a1 a2 c1 c2 hb h1 h2 (fun i hi => Sl.at1 o1 i hi) (fun i hi => Sl.at1 o2 i hi) k B.length 0 false (by omega)
  simp only [List.drop_zero, show ((0 : Nat) : Int) = 0 from rfl] at hl
  unfold fits
  by_cases h1 : B.length < 1
  · simp (disch := first | omega | assumption | (simp; done) | (simp; omega)) [c190, h1, decide_eq_true, decide_eq_false, if_pos, if_neg]
  · by_cases h2 : 4 < B.length
    · simp (disch := first | omega | assumption | (simp; done) | (simp; omega)) [c190, h1, h2, decide_eq_true, decide_eq_false, if_pos, if_neg]
    · by_cases h3 : H.length = B.length
      · have hl := hl h3 (by omega)
        rw [fl_eq H B _ h3, h3] at hl
        by_cases ha : B.any (fun b => decide (64 < b.length)) = true
        · rw [if_pos ha] at hl ⊢
          simp (disch := first | omega | assumption | (simp; done) | (simp; omega)) [c190, h1, h2, h3, decide_eq_true, decide_eq_false, if_pos, if_neg, hl]
        · rw [if_neg ha] at hl ⊢
          by_cases he : H = B.map hashB
          · simp (disch := first | omega | assumption | (simp; done) | (simp; omega)) [c190, h1, h2, h3, decide_eq_true, decide_eq_false, if_pos, if_neg, hl, he]
          · simp (disch := first | omega | assumption | (simp; done) | (simp; omega)) [c190, h1, h2, h3, decide_eq_true, decide_eq_false, if_pos, if_neg, hl, he]
      · simp (disch := first | omega | assumption | (simp; done) | (simp; omega)) [c190, h1, h2, h3, decide_eq_true, decide_eq_false, if_pos, if_neg]
end Go.Proofs.YtakdnpafdadblaaGreat.EV.W
namespace Go.Proofs.YtakdnpafdadblaaGreat.EV.W
open Go
set_option maxRecDepth 8000
variable {ro : Addr → Option Value} {K : H}
inductive Itm where
  | mk (list : Bool) (text : List UInt8) (items : List Itm)
def Itm.list : Itm → Bool | .mk l _ _ => l
def Itm.text : Itm → List UInt8 | .mk _ t _ => t
def Itm.items : Itm → List Itm | .mk _ _ i => i
def shIt : Nat → Sh Itm
  | 0 => { sz := 3, pos := by decide, R := fun _ _ _ _ _ => False, len := fun h => h.elim, mo := fun h _ => h }
  | n + 1 => { sz := 3, pos := by decide
               R := fun ro F s c x => ∃ v, c = [.bool x.list, Str x.text, v] ∧ Sl (shIt n) ro F s v x.items
               len := fun h => by obtain ⟨v, rfl, _⟩ := h; rfl
               mo := fun h m => by obtain ⟨v, rfl, h1⟩ := h; exact ⟨v, rfl, h1.mo m⟩ }
theorem shIt_sz (n : Nat) : (shIt n).sz = 3 := by cases n <;> rfl
def aloneT (t : List UInt8) : Bool :=
  match t with
  | [b] => decide (b < 128)
  | _ => false
def ahead (n : Nat) : Nat := if n ≤ 55 then 1 else 1 + (be n).length
mutual
def longI : Itm → Nat → Option Nat
  | .mk false t l, _ => if l.length > 0 ∨ t.length > 65536 then none else if aloneT t then some 1 else if t.length + ahead t.length ≤ 65536 then some (t.length + ahead t.length) else none
  | .mk true t l, d => if t ≠ [] ∨ 16 ≤ d then none else
    match longL l (d + 1) 0 with
    | none => none
    | some n => if n + ahead n ≤ 65536 then some (n + ahead n) else none
def longL : List Itm → Nat → Nat → Option Nat
  | [], _, n => some n
  | x :: l, d, n => match longI x d with
    | none => none
    | some k => if n + k > 65536 then none else longL l d (n + k)
end
mutual
def szI : Itm → Nat
  | .mk _ t l => 1 + t.length + szL l
def szL : List Itm → Nat
  | [] => 0
  | x :: l => szI x + szL l
end
theorem szI_pos (x : Itm) : 0 < szI x := by cases x; rw [szI]; omega
theorem szL_len : ∀ l : List Itm, l.length ≤ szL l
  | [] => by simp
  | x :: l => by have := szL_len l; have := szI_pos x; simp only [szL, List.length_cons]; omega
theorem szL_at : ∀ (l : List Itm) (x : Itm), x ∈ l → szI x ≤ szL l
  | [], x, h => by cases h
  | y :: l, x, h => by
    rw [szL]
    rcases List.mem_cons.1 h with rfl | h
    · omega
    · have := szL_at l x h; omega
theorem szI_text (x : Itm) : x.text.length < szI x := by cases x; rw [szI]; simp only [Itm.text]; omega
theorem szI_items (x : Itm) : szL x.items < szI x := by cases x; rw [szI]; simp only [Itm.items]; omega
theorem alone_fv (hK : Std ro K) (t : List UInt8) : Fv K 290 [Str t] (.bool (aloneT t)) := by
  intro s hs
  rw [go290 hK _ _ rfl]
  have hlt : ∀ a b : UInt8, binV .lss (v8 a) (v8 b) = some (.bool (decide (a < b))) := fun a b => by
    simp only [v8, binV, if_true, intBin, UInt8.lt_iff_toNat_lt]; congr 3; exact propext Int.ofNat_lt
  match t with
  | [] => simp (disch := first | omega | assumption | exact S_wf (by assumption) _ | (simp; done) | (simp; omega)) [c290, aloneT, hlt]
  | [b] => simp (disch := first | omega | assumption | exact S_wf (by assumption) _ | (simp; done) | (simp; omega)) [c290, aloneT, hlt]
  | a :: b :: t => simp (disch := first | omega | assumption | exact S_wf (by assumption) _ | (simp; done) | (simp; omega)) [c290, aloneT, hlt, decide_eq_true, decide_eq_false, if_pos, if_neg]
theorem of_nat (n : Nat) (h : n < 18446744073709551616) : U.of n = ⟨UInt64.ofNat n, 0, 0, 0⟩ := by
  simp only [U.of, U.mk.injEq, true_and]
  rw [Nat.div_eq_of_lt h, Nat.div_eq_of_lt (by omega), Nat.div_eq_of_lt (by omega)]
  exact ⟨rfl, rfl, rfl⟩
theorem size_fv (hK : Std ro K) (n : Nat) (h : n < 9223372036854775808) : Fv K 303 [vI n] (Str (be n)) := by
  intro s hs
  rw [go303 hK _ _ rfl]
  have h1 := fun (s : St) (hs : WF s) (pr : Option (List Nat)) => (of_fv hK n).q (fun _ => by split <;> rfl) hs (pr := pr)
  rw [if_neg (by omega), show ((n : Int) % 18446744073709551616).toNat = n by omega] at h1
  have h2 := fun (s : St) (hs : WF s) (pr : Option (List Nat)) => (text_fv hK (U.of n)).q (fun _ => rfl) hs (pr := pr)
  rw [U.val_of (by omega)] at h2
  simp only [vUE, vU] at h1 h2
  simp (disch := first | omega | assumption | exact S_wf (by assumption) _ | (simp; done) | (simp; omega)) [c303, h1, h2, hs]
theorem ahead_fv (hK : Std ro K) (n : Nat) (h : n < 9223372036854775808) : Fv K 302 [vI n] (vI (ahead n)) := by
  intro s hs
  rw [go302 hK _ _ rfl]
  have h1 := fun (s : St) (hs : WF s) (pr : Option (List Nat)) => (size_fv hK n h).q (fun _ => rfl) hs (pr := pr)
  have h2 := be_len (show n < 2 ^ 256 by omega)
  have h3 : (be n).length ≤ 32 := by rw [be, beN_length]; exact h2
  unfold ahead
  by_cases hn : n ≤ 55
  · simp (disch := first | omega | assumption | exact S_wf (by assumption) _ | (simp; done) | (simp; omega)) [c302, hn, decide_eq_true, decide_eq_false, if_pos, if_neg]
  · simp (disch := first | omega | assumption | exact S_wf (by assumption) _ | (simp; done) | (simp; omega)) [c302, hn, decide_eq_true, decide_eq_false, if_pos, if_neg, h1, wI]
theorem ahead_le (n : Nat) (h : n < 2 ^ 256) : ahead n ≤ 33 := by
  have h2 := be_len h
  have h3 : (be n).length ≤ 32 := by rw [be, beN_length]; exact h2
  unfold ahead; split <;> omega
def LongA (v : Value) (o : Option Nat) : Prop := ∃ k : Nat, k < 4294967296 ∧ v = .tuple #[vI k, .bool o.isSome] ∧ ∀ n, o = some n → k = n
theorem Sl.at {α : Type} {h : Sh α} {F : Fp} {s : St} {a : Option Addr} {n c : Nat} {l : List α} (r : Sl h ro F s (.slice a n c) l) (i : Nat) (hi : i < l.length) : ∃ b, a = some b ∧ ∃ cs, h.R ro F s cs l[i] ∧ RdA ro F s (shift b (i * h.sz)) cs := by
  obtain ⟨a', c', he, ho⟩ := r.open
  cases he
  exact ho i hi
theorem long_loop (hK : Std ro K) (F : Fp) (n : Nat) (L : List Itm) (hz : szL L < 4294967296) (ihn : ∀ x ∈ L, ∀ (d : Nat) (s : St) (v : Value), WF s → d < 18 → Sl (shIt n) ro F s v x.items → szI x < 4294967296 → ∃ r s', K (.func (.func 288) #[] #[]) [.agg #[.bool x.list, Str x.text, v], vI d] s = some (r, s') ∧ LongA r (longI x d))
    (a : Option Addr) (c : Nat) (d : Nat) (hd : d < 17) :
    ∀ (j i m : Nat) (s : St), WF s → Sl (shIt (n + 1)) ro F s (.slice a L.length c) L → i + j = L.length → m ≤ 65536 →
    ∃ s', Ex s s' ∧ ∀ k : List Fm, M ro K (.lop b288_0) (.bk 1 :: k) [(1, vI d), (7, vI m), (61, .slice a L.length c), (62, vI L.length), (63, vI i)] s =
      match longL (L.drop i) (d + 1) m with
      | none => Rk ro K .ret k [(4, vI 0), (5, .bool false)] s'
      | some m => Rk ro K .nrm k [(1, vI d), (7, vI m), (61, .slice a L.length c), (62, vI L.length), (63, vI L.length), (64, .bool false)] s' := by
  intro j
  induction j with
  | zero =>
    intro i m s hs hsl h hm
    have : i = L.length := by omega
    subst this
    have hLl := szL_len L
    refine ⟨s, Ex.refl hs, fun k => ?_⟩
    rw [M_lop, List.drop_of_length_le (Nat.le_refl _)]
    simp (disch := first | omega | assumption | exact S_wf (by assumption) _ | (simp; done) | (simp; omega)) [Mb _ _ b288_0.eq_1, longL]
  | succ j ih =>
    intro i m s hs hsl h hm
    obtain ⟨b, rfl, cs, hR, hrd⟩ := hsl.at i (by omega)
    obtain ⟨v, rfl, hv⟩ := hR
    have hrd := hrd.rd 3 (by simp)
    rw [shIt_sz] at hrd
    simp at hrd
    have hex := S_ex hs [some [.bool L[i].list, Str L[i].text, v]]
    have hLl := szL_len L
    obtain ⟨r, s', hr, hA⟩ := ihn L[i] (by simp) (d + 1) (qs (S s [some [.bool L[i].list, Str L[i].text, v]])) v (hex.wf hs).q (by omega) (hv.mo ((hex.mo F).trans (Mo.q F _))) (Nat.lt_of_le_of_lt (szL_at L _ (by simp)) hz)
    obtain ⟨q, hq, rfl, hqn⟩ := hA
    have hc := fun pr => callq (pr := pr) hr rfl
    simp only [show ((d + 1 : Nat) : Int) = (d : Int) + 1 from rfl] at hc
    rw [List.drop_eq_getElem_cons (show i < L.length by omega), longL]
    cases hx : longI L[i] (d + 1) with
    | none =>
      rw [hx] at hc
      refine ⟨_, hex, fun k => ?_⟩
      rw [M_lop]
      simp (disch := first | omega | assumption | exact S_wf (by assumption) _ | (simp; done) | (simp; omega)) [Mb _ _ b288_0.eq_1, decide_eq_true, decide_eq_false, if_pos, if_neg, hrd, hc, wI, hs]
    | some q0 =>
      rw [hx] at hc
      have hqq := hqn q0 hx
      subst hqq
      by_cases hbig : m + q > 65536
      · refine ⟨_, hex, fun k => ?_⟩
        rw [M_lop]
        simp (disch := first | omega | assumption | exact S_wf (by assumption) _ | (simp; done) | (simp; omega)) [Mb _ _ b288_0.eq_1, decide_eq_true, decide_eq_false, if_pos, if_neg, hrd, hc, wI, hs, hbig]
      · obtain ⟨s2, he2, h2⟩ := ih (i + 1) (m + q) _ (hex.wf hs) (hsl.mo (hex.mo F)) (by omega) (by omega)
        refine ⟨s2, hex.trans he2, fun k => ?_⟩
        rw [M_lop]
        dsimp only
        rw [if_neg hbig, ← h2 k]
        simp (disch := first | omega | assumption | exact S_wf (by assumption) _ | (simp; done) | (simp; omega)) [Mb _ _ b288_0.eq_1, decide_eq_true, decide_eq_false, if_pos, if_neg, hrd, hc, wI, hs, hbig]
theorem LongA_some {k : Nat} (h : k < 4294967296) : LongA (.tuple #[vI k, .bool true]) (some k) := ⟨k, h, rfl, fun n hn => by cases hn; rfl⟩
theorem LongA_none : LongA (.tuple #[vI 0, .bool false]) none := ⟨0, by omega, rfl, fun n hn => by cases hn⟩
theorem longL_le : ∀ (l : List Itm) (d m n : Nat), m ≤ 65536 → longL l d m = some n → n ≤ 65536
  | [], _, m, n, h, e => by simp only [longL, Option.some.injEq] at e; omega
  | x :: l, d, m, n, h, e => by
    rw [longL] at e
    split at e
    · cases e
    · split at e
      · cases e
      · exact longL_le l d _ n (by omega) e
theorem long_fv (hK : Std ro K) (F : Fp) : ∀ (n : Nat) (x : Itm) (d : Nat) (s : St) (v : Value), WF s → d < 18 → Sl (shIt n) ro F s v x.items → szI x < 4294967296 → ∃ r s', K (.func (.func 288) #[] #[]) [.agg #[.bool x.list, Str x.text, v], vI d] s = some (r, s') ∧ LongA r (longI x d) := by
  have main : ∀ (n : Nat) (x : Itm), (∀ y ∈ x.items, ∀ (d : Nat) (s : St) (v : Value), WF s → d < 18 → Sl (shIt n) ro F s v y.items → szI y < 4294967296 → ∃ r s', K (.func (.func 288) #[] #[]) [.agg #[.bool y.list, Str y.text, v], vI d] s = some (r, s') ∧ LongA r (longI y d)) →
      ∀ (d : Nat) (s : St) (v : Value), WF s → d < 18 → Sl (shIt (n + 1)) ro F s v x.items → szI x < 4294967296 → ∃ r s', K (.func (.func 288) #[] #[]) [.agg #[.bool x.list, Str x.text, v], vI d] s = some (r, s') ∧ LongA r (longI x d) := by
    intro n x ihn d s v hs hd hsl hz
    rw [go288 hK _ _ rfl]
    have hti := szI_text x
    have hii := szI_items x
    have hal := fun (s : St) (hs : WF s) (pr : Option (List Nat)) => (alone_fv hK x.text).q (fun _ => rfl) hs (pr := pr)
    have hah := fun (n : Nat) (hn : n < 9223372036854775808) (s : St) (hs : WF s) (pr : Option (List Nat)) => (ahead_fv hK n hn).q (fun _ => rfl) hs (pr := pr)
    have hale := fun n (h : n < 9223372036854775808) => ahead_le n (by omega)
    obtain ⟨a, c, rfl, -⟩ := hsl.open
    have hlen := szL_len x.items
    obtain ⟨li, te, it⟩ := x
    simp only [Itm.text] at hti hal
    simp only [Itm.items] at hii hsl ihn hlen
    simp only [Itm.list, Itm.text, Itm.items]
    have hex := S_ex hs [some [.bool li, Str te, .slice a it.length c]]
    suffices h : ∃ r, LongA r (longI (.mk li te it) d) ∧ ∃ s', M ro K c288 [.fn [.tmp 4, .tmp 5]] (params 0 [.agg #[.bool li, Str te, .slice a it.length c], vI d]) s = some (r, s') from by
      obtain ⟨r, h1, s', h2⟩ := h; exact ⟨r, s', h2, h1⟩
    have htl : te.length < 4294967296 := by omega
    have hil : it.length < 4294967296 := by omega
    cases li with
    | false =>
      rw [longI]
      by_cases h2 : it.length > 0
      · rw [if_pos (.inl h2)]
        refine ⟨_, LongA_none, ?_⟩
        simp (disch := first | omega | assumption | exact S_wf (by assumption) _ | (simp; done) | (simp; omega)) [c288, decide_eq_true, decide_eq_false, if_pos, if_neg, hs, h2]
      · by_cases h3 : te.length > 65536
        · rw [if_pos (.inr h3)]
          refine ⟨_, LongA_none, ?_⟩
          simp (disch := first | omega | assumption | exact S_wf (by assumption) _ | (simp; done) | (simp; omega)) [c288, decide_eq_true, decide_eq_false, if_pos, if_neg, hs, h2, h3]
        · rw [if_neg (by omega)]
          by_cases h4 : aloneT te = true
          · rw [if_pos h4] at *
            refine ⟨_, LongA_some (by omega), ?_⟩
            simp (disch := first | omega | assumption | exact S_wf (by assumption) _ | (simp; done) | (simp; omega)) [c288, decide_eq_true, decide_eq_false, if_pos, if_neg, hs, h2, h3, hal, h4]
          · rw [if_neg h4]
            have hx := hale te.length (by omega)
            by_cases h5 : te.length + ahead te.length ≤ 65536
            · rw [if_pos h5]
              refine ⟨_, LongA_some (by omega), ?_⟩
              simp (disch := first | omega | assumption | exact S_wf (by assumption) _ | (simp; done) | (simp; omega)) [c288, decide_eq_true, decide_eq_false, if_pos, if_neg, hs, h2, h3, hal, h4, hah, wI]
            · rw [if_neg h5]
              refine ⟨_, ⟨te.length + ahead te.length, by omega, rfl, fun n hn => by cases hn⟩, ?_⟩
              simp (disch := first | omega | assumption | exact S_wf (by assumption) _ | (simp; done) | (simp; omega)) [c288, decide_eq_true, decide_eq_false, if_pos, if_neg, hs, h2, h3, hal, h4, hah, wI]
    | true =>
      rw [longI]
      by_cases h2 : te = []
      · subst h2
        by_cases h3 : 16 ≤ d
        · rw [if_pos (.inr h3)]
          refine ⟨_, LongA_none, ?_⟩
          simp (disch := first | omega | assumption | exact S_wf (by assumption) _ | (simp; done) | (simp; omega)) [c288, decide_eq_true, decide_eq_false, if_pos, if_neg, hs, h3, strBin]
        · rw [if_neg (by simp; omega)]
          obtain ⟨s2, he2, h5⟩ := long_loop hK F n it (by omega) ihn a c d (by omega) it.length 0 0 _ (S_wf hs [some [.bool true, Str [], .slice a it.length c]]) (hsl.mo (hex.mo F)) (by omega) (by omega)
          have hs2 := he2.wf (hex.wf hs)
          simp only [List.drop_zero, show ((0 : Nat) : Int) = 0 from rfl] at h5
          cases hm : longL it (d + 1) 0 with
          | none =>
            rw [hm] at h5
            refine ⟨_, LongA_none, ?_⟩
            simp (disch := first | omega | assumption | exact S_wf (by assumption) _ | (simp; done) | (simp; omega)) [c288, decide_eq_true, decide_eq_false, if_pos, if_neg, hs, h3, strBin, h5]
          | some m =>
            rw [hm] at h5
            have hml := longL_le it (d + 1) 0 m (by omega) hm
            have hx := hale m (by omega)
            dsimp only
            by_cases h6 : m + ahead m ≤ 65536
            · rw [if_pos h6]
              refine ⟨_, LongA_some (by omega), ?_⟩
              simp (disch := first | omega | assumption | exact S_wf (by assumption) _ | (simp; done) | (simp; omega)) [c288, decide_eq_true, decide_eq_false, if_pos, if_neg, hs, h3, strBin, h5, hah, wI]
            · rw [if_neg h6]
              refine ⟨_, ⟨m + ahead m, by omega, rfl, fun n hn => by cases hn⟩, ?_⟩
              simp (disch := first | omega | assumption | exact S_wf (by assumption) _ | (simp; done) | (simp; omega)) [c288, decide_eq_true, decide_eq_false, if_pos, if_neg, hs, h3, strBin, h5, hah, wI]
      · rw [if_pos (.inl h2)]
        refine ⟨_, LongA_none, ?_⟩
        simp (disch := first | omega | assumption | exact S_wf (by assumption) _ | (simp; done) | (simp; omega)) [c288, decide_eq_true, decide_eq_false, if_pos, if_neg, hs, h2, strBin]
  intro n
  induction n with
  | zero =>
    intro x d s v hs hd hsl hz
    have h0 : x.items = [] := by
      obtain ⟨a, c, cs, rfl, hr, -, -⟩ := hsl
      cases hi : x.items with
      | nil => rfl
      | cons y l => rw [hi] at hr; cases hr with | cons c cs x l hc hl => exact hc.elim
    refine main 0 x (fun y hy => by rw [h0] at hy; cases hy) d s v hs hd ?_ hz
    obtain ⟨a, c, cs, rfl, hr, h3, h4⟩ := hsl
    rw [h0] at hr h3 ⊢
    cases hr with
    | nil => exact ⟨a, c, [], rfl, .nil, h3, h4⟩
  | succ n ih => exact fun x d s v hs hd hsl hz => main n x (fun y hy d s v hs hd hsl hz => ih y d s v hs hd hsl hz) d s v hs hd hsl hz
theorem check_fv (hK : Std ro K) (F : Fp) (n : Nat) (x : Itm) (s : St) (v : Value) (hs : WF s) (hsl : Sl (shIt n) ro F s v x.items) (hz : szI x < 4294967296) :
    ∃ s', K (.func (.func 265) #[] #[]) [.agg #[.bool x.list, Str x.text, v]] s = some (vI (if (longI x 0).isSome then 0 else 1), s') := by
  rw [go265 hK _ _ rfl]
  have hex := S_ex hs [some [.bool x.list, Str x.text, v]]
  obtain ⟨r, s', hr, hA⟩ := long_fv hK F n x 0 (qs (S s [some [.bool x.list, Str x.text, v]])) v (hex.wf hs).q (by omega) (hsl.mo ((hex.mo F).trans (Mo.q F _))) hz
  obtain ⟨q, hq, rfl, hqn⟩ := hA
  have hc := fun pr => callq (pr := pr) hr rfl
  simp only [show ((0 : Nat) : Int) = 0 from rfl] at hc
  cases hx : (longI x 0).isSome with
  | true => rw [hx] at hc; simp (disch := first | omega | assumption | exact S_wf (by assumption) _ | (simp; done) | (simp; omega)) [c265, decide_eq_true, decide_eq_false, if_pos, if_neg, hs, hc]
  | false => rw [hx] at hc; simp (disch := first | omega | assumption | exact S_wf (by assumption) _ | (simp; done) | (simp; omega)) [c265, decide_eq_true, decide_eq_false, if_pos, if_neg, hs, hc]
end Go.Proofs.YtakdnpafdadblaaGreat.EV.W
namespace Go.Proofs.YtakdnpafdadblaaGreat.EV.W
open Go
set_option maxRecDepth 8000
set_option maxHeartbeats 1000000
variable {ro : Addr → Option Value} {K : H}
def frontB (base n : Nat) : List UInt8 := if n ≤ 55 then [UInt8.ofNat (base + n)] else UInt8.ofNat (base + 55 + (be n).length) :: be n
theorem u8c (n : Nat) : UInt8.ofNat (((n : Int) % 256).toNat) = UInt8.ofNat n := by
  apply UInt8.toNat.inj; rw [UInt8.toNat_ofNat', UInt8.toNat_ofNat']; omega
theorem front_fv (hK : Std ro K) (s : St) (hs : WF s) (vb : Value) (lb : List UInt8) (hb : Bs s vb lb) (base n : Nat) (hbase : base < 256) (hn : n < 1048576) (hlb : lb.length < 1073741824) :
    ∃ k' s', K (.func (.func 289) #[] #[]) [vb, vI base, vI n] s = some (.slice (some (EV.own k' 0)) (lb ++ frontB base n).length 1, s') ∧ s.n ≤ k' ∧ Exd (Dv vb) s s' ∧ s'.get k' = some ((lb ++ frontB base n).map v8) := by
  rw [go289 hK _ _ rfl]
  have h1 := fun (s : St) (hs : WF s) (pr : Option (List Nat)) => (size_fv hK n (by omega)).q (fun _ => rfl) hs (pr := pr)
  have h2 := be_len (show n < 2 ^ 256 by omega)
  have h3 : (be n).length ≤ 32 := by rw [be, beN_length]; exact h2
  unfold frontB
  by_cases h : n ≤ 55
  · obtain ⟨b8, hb8⟩ : ∃ b8, b8 = UInt8.ofNat (base + n) := ⟨_, rfl⟩
    rw [if_pos h, ← hb8]
    have hx := S_ex hs [some [v8 b8]]
    obtain ⟨a, c, s', rfl, ha, he, hg, hn'⟩ := (hb.ex hx).app (hx.wf hs) (new := [b8]) (by simp) (by simp; omega)
    simp only [List.map_cons, List.map_nil, List.length_cons, List.length_nil, S_n, Nat.zero_add] at ha hg
    refine ⟨s.n + 1, s', ?_, by omega, (hx.d _).trans he (fun j _ h => h) (fun j _ h => h), hg⟩
    have e2 : IntKind.i64.wrap ((base : Int) + (n : Int)) = ((base : Int) + (n : Int)) := wI _ (by omega) (by omega)
    have e3 : UInt8.ofNat (((base : Int) + (n : Int)) % 256).toNat = b8 := by rw [hb8]; exact u8c (base + n)
    simp (disch := first | omega | assumption | exact S_wf (by assumption) _ | (simp; done) | (simp; omega)) [c289, decide_eq_true, decide_eq_false, if_pos, if_neg, h, rep, rdSl, ha, e2, e3]
  · rw [if_neg h]
    obtain ⟨q, hq⟩ : ∃ q, q = base + 55 + (be n).length := ⟨_, rfl⟩
    obtain ⟨b8, hb8⟩ : ∃ b8, b8 = UInt8.ofNat q := ⟨_, rfl⟩
    have hx := S_ex hs [some [v8 b8]]
    obtain ⟨a, c, s', rfl, ha, he, hg, hn'⟩ := (hb.ex hx).app (hx.wf hs) (new := [b8]) (by simp) (by simp; omega)
    simp only [List.map_cons, List.map_nil, List.length_cons, List.length_nil, S_n, Nat.zero_add] at ha hg hn'
    have hs' := he.wf (hx.wf hs)
    have hb2 : Bs s' (.slice (some (EV.own (s.n + 1) 0)) (lb ++ [b8]).length 1) (lb ++ [b8]) :=
      .inr ⟨_, rfl, hg, by rw [he.may]; exact (hx.wf hs).may (by simp [S_n])⟩
    have hp : 0 < (be n).length := by
      rw [be, beN_length]
      have h0 := bl_pos (show 0 < n by omega); omega
    obtain ⟨a2, c2, s2, hv2, ha2, he2, hg2, hn2⟩ := hb2.app hs' (new := be n) hp (by simp; omega)
    cases hv2
    rw [hn'] at ha2 hg2
    have e2 : IntKind.i64.wrap (((base : Int) + 55)) = (base : Int) + 55 := wI _ (by omega) (by omega)
    have e4 : IntKind.i64.wrap (((base : Int) + 55 + ((be n).length : Int))) = (q : Int) := by rw [wI _ (by omega) (by omega)]; omega
    have e3 : UInt8.ofNat ((q : Int) % 256).toNat = b8 := by rw [hb8]; exact u8c q
    rw [← hq, ← hb8, show lb ++ b8 :: be n = lb ++ [b8] ++ be n by simp]
    refine ⟨s.n + 1 + 1, s2, ?_, by omega, ((hx.d _).trans he (fun j _ h => h) (fun j _ h => h)).trans he2 (fun j _ h => h) (fun j hj hd => ?_), hg2⟩
    · simp only [List.length_append, List.length_cons, List.length_nil, EV.own] at ha ha2
      simp (disch := first | omega | assumption | exact S_wf (by assumption) _ | (simp; done) | (simp; omega)) [c289, decide_eq_true, decide_eq_false, if_pos, if_neg, h, rep, rdSl, ha, ha2, h1, e2, e4, e3]
      omega
    · obtain ⟨n1, c1, hh⟩ := hd
      cases hh
      omega
def CopyA (ro : Addr → Option Value) (n0 m : Nat) (s : St) (r : Value) (x : Itm) : Prop := ∃ v, r = .agg #[.bool x.list, Str x.text, v] ∧ Ow (shIt m) ro (Fresh n0) s v x.items
theorem CopyA.callq {f : Value} {as : List Value} {pr : Option (List Nat)} {r : Value} {x : Itm} {s s' : St} {m : Nat} (hk : K f as (qs s) = some (r, s')) (he : Ex (qs s) s') (h : CopyA ro s.n m s' r x) (hs : WF s) :
    ∃ s'', callK K f as true pr s = some (r, s'') ∧ Ex s s'' ∧ CopyA ro s.n m s'' r x := by
  obtain ⟨v, rfl, ho⟩ := h
  rcases ho with ⟨rfl, hi⟩ | ⟨k, cs, rfl, h2, h3, h4⟩
  · exact ⟨s, W.callq hk rfl, Ex.refl hs, _, rfl, .inl ⟨rfl, hi⟩⟩
  · refine ⟨_, callq_keep hk ?_, he.unq, _, rfl, .inr ⟨k, cs, rfl, h2, h3, h4.mo ⟨Nat.le_refl _, fun j _ hF => ⟨rfl, hF⟩⟩⟩⟩
    simp only [clean, clean1, clean0, cleanA, EV.own, List.all_cons, List.all_nil, Bool.and_true, Bool.true_and]
    exact decide_eq_false (Nat.not_lt.2 h2)
theorem copied_loop (hK : Std ro K) (F : Fp) (n m n0 : Nat) (L : List Itm) (hz : szL L < 4294967296) (ihn : ∀ x ∈ L, ∀ (s : St) (v : Value), WF s → Sl (shIt n) ro F s v x.items → szI x < 4294967296 → ∃ r s', K (.func (.func 286) #[] #[]) [.agg #[.bool x.list, Str x.text, v]] s = some (r, s') ∧ Ex s s' ∧ CopyA ro s.n n s' r x)
    (a : Option Addr) (c : Nat) (lb : Value) (tx : Value) (s1 : St) (hs1 : WF s1) (kx : Nat) (hkx : kx < s1.n) (hmay : s1.may kx = true) (p2 : Value) (hF : ∀ j, F j → j < s1.n ∧ j ≠ kx) :
    ∀ (j i : Nat) (u : St) (v : Value), Exd (· = kx) s1 u → Sl (shIt (n + 1)) ro F u (.slice a L.length c) L → i + j = L.length → u.get kx = some [lb, tx, v] → Ow (shIt (n + 1)) ro (Fresh s1.n) u v (L.take i) →
    ∃ u' v', Exd (· = kx) s1 u' ∧ u'.get kx = some [lb, tx, v'] ∧ Ow (shIt (n + 1)) ro (Fresh s1.n) u' v' L ∧ ∀ k : List Fm, M ro K (.lop b286_0) (.bk 0 :: k) [(2, p2), (3, .pointer (some (EV.own kx 0))), (12, .slice a L.length c), (13, vI L.length), (14, vI i)] u =
      Rk ro K .nrm k [(2, p2), (3, .pointer (some (EV.own kx 0))), (12, .slice a L.length c), (13, vI L.length), (14, vI L.length), (15, .bool false)] u' := by
  intro j
  induction j with
  | zero =>
    intro i u v he hsl h hg ho
    have : i = L.length := by omega
    subst this
    rw [List.take_of_length_le (Nat.le_refl _)] at ho
    refine ⟨u, v, he, hg, ho, fun k => ?_⟩
    rw [M_lop]
    simp (disch := first | omega | assumption | exact S_wf (by assumption) _ | (simp; done) | (simp; omega)) [Mb _ _ b286_0.eq_1]
  | succ j ih =>
    intro i u v he hsl h hg ho
    have hu := he.wf hs1
    have hlen := szL_len L
    obtain ⟨b, rfl, cs, hR, hrd⟩ := hsl.at i (by omega)
    obtain ⟨vi, rfl, hv⟩ := hR
    have hrd := hrd.rd 3 (by simp)
    rw [shIt_sz] at hrd
    simp at hrd
    have hx := S_ex hu [some [.bool L[i].list, Str L[i].text, vi]]
    have hu1 := hx.wf hu
    have hlx := Nat.lt_of_le_of_lt (szL_at L L[i] (by simp)) hz
    obtain ⟨r, s2', hr, he2', hA⟩ := ihn L[i] (by simp) (qs (S u [some [.bool L[i].list, Str L[i].text, vi]])) vi hu1.q (hv.mo ((hx.mo F).trans (Mo.q F _))) hlx
    obtain ⟨s2, hc, he2, hA⟩ := hA.callq (pr := some []) hr he2' hu1
    obtain ⟨vc, rfl, hoc⟩ := hA
    have hs2 := he2.wf hu1
    have hx3 := S_ex hs2 [some [.bool L[i].list, Str L[i].text, vc]]
    have hs3 := hx3.wf hs2
    have hun := he.n
    have hkg : kx < u.n := by omega
    have hg1 : (S u [some [.bool L[i].list, Str L[i].text, vi]]).get kx = some [lb, tx, v] := by rw [S_old _ _ hkg]; exact hg
    have e13 := hx.trans (he2.trans hx3)
    have hgx : (S s2 [some [.bool L[i].list, Str L[i].text, vc]]).get kx = some [lb, tx, v] := (e13.row kx hkg).trans hg
    obtain ⟨a2, c2, s4, rfl, ha, he4, ho4, hn4⟩ := Ow.app (h := shIt (n + 1)) (F := Fresh s1.n) (new := [.bool L[i].list, Str L[i].text, vc]) (l' := [L[i]]) hs3 (by simp [S_n, Fresh]; have := e13.n; simp [S_n] at this; omega)
      (fun j hj hFj => by
        rw [St.may, e13.fl, e13.pr, ← St.may, he.may]; exact hs1.may hFj) (ho.mo ((e13.mo _)))
      (.single ⟨vc, rfl, (hoc.sl.mo (hx3.mo _)).mo (Mo.weak _ fun j hj => ⟨by have := he.n; simp [Fresh, S_n] at hj ⊢; omega, fun ⟨nn, cc, hh⟩ => by
        rcases ho with ⟨hh2, -⟩ | ⟨kk, css, hh2, hk1, hk2, -⟩
        · rw [hh2] at hh; cases hh
        · rw [hh2] at hh; cases hh
          have := St.get_lt hk2
          simp [Fresh, S_n] at hj; omega⟩)⟩) (by simp) (by simp; omega) (by rw [shIt_sz]; omega)
    rw [shIt_sz] at ha ho4
    have hs4 := he4.wf hs3
    have hg4 : s4.get kx = some [lb, tx, .slice a2 (List.take i L).length c2] := by
      rw [he4.row kx (by have := e13.n; omega) (fun ⟨nn, cc, hh⟩ => ?_)]
      · exact hgx
      · rcases ho with ⟨hh2, -⟩ | ⟨kk, css, hh2, hk1, hk2, -⟩
        · rw [hh2] at hh; cases hh
        · rw [hh2] at hh; cases hh
          simp [Fresh] at hk1; omega
    have hmay4 : s4.may kx = true := by rw [he4.may, St.may, e13.fl, e13.pr, ← St.may, he.may]; exact hmay
    have hp := Exd.put hs4 hg4 (some [lb, tx, .slice (some (EV.own (S s2 [some [.bool L[i].list, Str L[i].text, vc]]).n 0)) ((List.take i L).length + [L[i]].length) 3])
    have hall : Exd (· = kx) s1 (s4.put kx (some [lb, tx, .slice (some (EV.own (S s2 [some [.bool L[i].list, Str L[i].text, vc]]).n 0)) ((List.take i L).length + [L[i]].length) 3])) := by
      refine (he.trans (E := (· = kx)) (e13.d _) (fun _ _ h => h) (fun _ _ h => h)).trans ((he4.trans (E := fun j => j = kx ∨ s1.n ≤ j) hp (fun j _ ⟨nn, cc, hh⟩ => ?_) (fun j _ h => .inl h))) (fun _ _ h => h) (fun j hj h => ?_)
      · rcases ho with ⟨hh2, -⟩ | ⟨kk, css, hh2, hk1, hk2, -⟩
        · rw [hh2] at hh; cases hh
        · rw [hh2] at hh; cases hh; exact .inr hk1
      · rcases h with h | h
        · exact h
        · omega
    have hn5 := hall.n
    have hsl5 : Sl (shIt (n + 1)) ro F (s4.put kx (some [lb, tx, .slice (some (EV.own (S s2 [some [.bool L[i].list, Str L[i].text, vc]]).n 0)) ((List.take i L).length + [L[i]].length) 3])) (.slice (some b) L.length c) L := by
      refine ((hsl.mo (e13.mo F)).mo (he4.mo fun j hj ⟨nn, cc, hh⟩ => ?_)).mo (hp.mo fun j hj => (hF j hj).2)
      rcases ho with ⟨hh2, -⟩ | ⟨kk, css, hh2, hk1, hk2, -⟩
      · rw [hh2] at hh; cases hh
      · rw [hh2] at hh; cases hh
        have := (hF _ hj).1
        simp [Fresh] at hk1; omega
    have ho5 : Ow (shIt (n + 1)) ro (Fresh s1.n) (s4.put kx (some [lb, tx, .slice (some (EV.own (S s2 [some [.bool L[i].list, Str L[i].text, vc]]).n 0)) ((List.take i L).length + [L[i]].length) 3])) (.slice (some (EV.own (S s2 [some [.bool L[i].list, Str L[i].text, vc]]).n 0)) ((List.take i L).length + [L[i]].length) 3) (L.take (i + 1)) := by
      rw [List.take_succ_eq_append_getElem (by omega)]
      exact ho4.mo (hp.mo fun j hj e => by subst e; simp [Fresh] at hj; omega)
    obtain ⟨u', v', f1, f2, f3, f4⟩ := ih (i + 1) _ _ hall hsl5 (by omega) (St.get_put_same hg4 _) ho5
    refine ⟨u', v', f1, f2, f3, fun k => ?_⟩
    rw [← f4 k, M_lop]
    have htl : (List.take i L).length = i := by simp; omega
    simp only [htl, List.length_cons, List.length_nil, Nat.zero_add, EV.own] at *
    simp (disch := first | omega | assumption | exact S_wf (by assumption) _ | (simp; done) | (simp; omega)) [Mb _ _ b286_0.eq_1, decide_eq_true, decide_eq_false, if_pos, if_neg, hrd, hc, wI, hu, hg1, hgx, ha, hg4, hmay4, rdSl, rep]
theorem sh0_nil {F : Fp} {s : St} {v : Value} {l : List Itm} (h : Sl (shIt 0) ro F s v l) : l = [] := by
  obtain ⟨a, c, cs, rfl, hr, -, -⟩ := h
  cases l with
  | nil => rfl
  | cons y l => cases hr with | cons c cs x l hc hl => exact hc.elim
theorem sh0_any {F : Fp} {s : St} {v : Value} {l : List Itm} (h : Sl (shIt 0) ro F s v l) (m : Nat) : Sl (shIt m) ro F s v l := by
  have h0 := sh0_nil h
  subst h0
  obtain ⟨a, c, cs, rfl, hr, h3, h4⟩ := h
  cases hr with
  | nil => exact ⟨a, c, [], rfl, .nil, h3, h4⟩
theorem ow_nil {α : Type} {h h' : Sh α} (hz : h.sz = h'.sz) {F : Fp} {s : St} {v : Value} (r : Ow h ro F s v []) : Ow h' ro F s v [] := by
  rcases r with r | ⟨k, cs, rfl, h2, h3, h4⟩
  · exact .inl r
  · refine .inr ⟨k, cs, by rw [hz], h2, h3, ?_⟩
    cases h4 with
    | nil => exact .nil
theorem copied_fv (hK : Std ro K) (F : Fp) : ∀ (n : Nat) (x : Itm) (s : St) (v : Value), WF s → Sl (shIt n) ro F s v x.items → szI x < 4294967296 → ∃ r s', K (.func (.func 286) #[] #[]) [.agg #[.bool x.list, Str x.text, v]] s = some (r, s') ∧ Ex s s' ∧ CopyA ro s.n n s' r x := by
  have main : ∀ (n : Nat) (x : Itm), (∀ y ∈ x.items, ∀ (F : Fp) (s : St) (v : Value), WF s → Sl (shIt n) ro F s v y.items → szI y < 4294967296 → ∃ r s', K (.func (.func 286) #[] #[]) [.agg #[.bool y.list, Str y.text, v]] s = some (r, s') ∧ Ex s s' ∧ CopyA ro s.n n s' r y) →
      ∀ (F : Fp) (s : St) (v : Value), WF s → Sl (shIt (n + 1)) ro F s v x.items → szI x < 4294967296 → ∃ r s', K (.func (.func 286) #[] #[]) [.agg #[.bool x.list, Str x.text, v]] s = some (r, s') ∧ Ex s s' ∧ CopyA ro s.n (n + 1) s' r x := by
    intro n x ihn F s v hs hsl hz
    rw [go286 hK _ _ rfl]
    have hii := szI_items x
    obtain ⟨a, c, rfl, -⟩ := hsl.open
    have hsl' : Sl (shIt (n + 1)) ro (fun j => F j ∧ j < s.n) s (.slice a x.items.length c) x.items := hsl.mo ⟨Nat.le_refl _, fun j hj hF => ⟨rfl, hF, hj⟩⟩
    have hx := S_ex hs [some [.bool x.list, Str x.text, .slice a x.items.length c], some [.bool false, Str [], .slice none 0 0], some [.bool x.list, Str x.text, .slice none 0 0]]
    have hs1 := hx.wf hs
    obtain ⟨u, v, e1, e2, e3, e4⟩ := copied_loop hK (fun j => F j ∧ j < s.n) n n s.n x.items (by omega) (fun y hy s v hs hsl hz => ihn y hy _ s v hs hsl hz) a c (.bool x.list) (Str x.text)
      _ hs1 (s.n + 2) (by simp [S_n]) (S_may hs _ 2) (.pointer (some (EV.own (s.n + 1) 0))) (fun j hj => by simp [S_n]; omega) x.items.length 0 _ (.slice none 0 0) ((Ex.refl hs1).d _) (hsl'.mo (hx.mo _)) (by omega) (by rw [S_get]; rfl) Ow.nil
    have hu := e1.wf hs1
    simp only [show ((0 : Nat) : Int) = 0 from rfl, EV.own] at e4
    have g1 : u.get (s.n + 1) = some [.bool false, Str [], .slice none 0 0] := by
      rw [e1.row (s.n + 1) (by simp [S_n]) (by omega), S_get]; rfl
    have m1 : u.may (s.n + 1) = true := by rw [e1.may]; exact S_may hs _ 1
    have hp := Exd.put hu g1 (some [.bool x.list, Str x.text, v])
    refine ⟨.agg #[.bool x.list, Str x.text, v], u.put (s.n + 1) (some [.bool x.list, Str x.text, v]), ?_, ?_, v, rfl, ?_⟩
    · have g3 := St.get_put_same g1 (some [.bool x.list, Str x.text, v])
      simp (disch := first | omega | assumption | exact S_wf (by assumption) _ | (simp; done) | (simp; omega)) [c286, decide_eq_true, decide_eq_false, if_pos, if_neg, hs, e4, e2, g1, m1, g3]
    · exact Exd.ex (D := fun j => j = s.n + 1) (Exd.ex (D := fun j => j = s.n + 2) hx e1 (fun k hk => by omega)) hp (fun k hk => by omega)
    · exact e3.mo ⟨hp.n, fun j hj hF => ⟨hp.row j hj (by simp [Fresh, S_n] at hF; omega), by simp [Fresh, S_n] at hF ⊢; omega⟩⟩
  intro n
  induction n generalizing F with
  | zero =>
    intro x s v hs hsl hz
    have h0 := sh0_nil hsl
    obtain ⟨r, s', h1, h2, v', h3, h4⟩ := main 0 x (fun y hy => by rw [h0] at hy; cases hy) F s v hs (sh0_any hsl 1) hz
    refine ⟨r, s', h1, h2, v', h3, ?_⟩
    rw [h0] at h4 ⊢
    exact ow_nil (by rw [shIt_sz, shIt_sz]) h4
  | succ n ih => exact fun x s v hs hsl hz => main n x (fun y hy F s v hs hsl hz => ih F y s v hs hsl hz) F s v hs hsl hz
end Go.Proofs.YtakdnpafdadblaaGreat.EV.W
namespace Go.Proofs.YtakdnpafdadblaaGreat.EV.W
open Go
set_option maxRecDepth 8000
set_option maxHeartbeats 1000000
variable {ro : Addr → Option Value} {K : H}
mutual
def encI : Itm → List UInt8
  | .mk false t _ => if aloneT t then t else frontB 128 t.length ++ t
  | .mk true _ l => frontB 192 (encL l).length ++ encL l
def encL : List Itm → List UInt8
  | [] => []
  | x :: l => encI x ++ encL l
end
theorem frontB_len (base n : Nat) : (frontB base n).length = ahead n := by
  unfold frontB ahead; split <;> simp; omega
theorem alone_len {t : List UInt8} (h : aloneT t = true) : t.length = 1 := by
  match t, h with
  | [b], _ => rfl
mutual
theorem encI_len : ∀ (x : Itm) (d n : Nat), longI x d = some n → (encI x).length = n
  | .mk false t l, d, n, h => by
    rw [longI] at h
    rw [encI]
    split at h
    · cases h
    · split at h
      · rename_i ha
        rw [if_pos ha, alone_len ha]; cases h; rfl
      · rename_i ha
        rw [if_neg ha]
        split at h
        · cases h; rw [List.length_append, frontB_len]; omega
        · cases h
  | .mk true t l, d, n, h => by
    rw [longI] at h
    rw [encI]
    split at h
    · cases h
    · split at h
      · cases h
      · rename_i m hm
        split at h
        · have := encL_len l (d + 1) 0 m hm
          cases h; rw [List.length_append, frontB_len, show (encL l).length = m by omega]; omega
        · cases h
theorem encL_len : ∀ (l : List Itm) (d m n : Nat), longL l d m = some n → (encL l).length + m = n
  | [], d, m, n, h => by simp only [longL, Option.some.injEq] at h; simp [encL, h]
  | x :: l, d, m, n, h => by
    rw [longL] at h
    split at h
    · cases h
    · rename_i k hk
      split at h
      · cases h
      · have h1 := encI_len x d k hk
        have h2 := encL_len l d (m + k) n h
        rw [encL, List.length_append]; omega
end
theorem longI_le (x : Itm) (d n : Nat) (h : longI x d = some n) : n ≤ 65536 := by
  cases x with
  | mk li t l =>
    cases li with
    | false =>
      rw [longI] at h
      split at h
      · cases h
      · split at h
        · cases h; omega
        · split at h
          · cases h; assumption
          · cases h
    | true =>
      rw [longI] at h
      split at h
      · cases h
      · split at h
        · cases h
        · split at h
          · cases h; assumption
          · cases h
theorem longL_at : ∀ (l : List Itm) (d m n i : Nat), longL l d m = some n → i ≤ l.length → (∀ (h : i < l.length), ∃ q, longI l[i] d = some q) ∧ (encL (l.take i)).length + m ≤ n
  | [], d, m, n, i, h, hi => by
    simp only [longL, Option.some.injEq] at h
    refine ⟨fun hh => by simp at hh, ?_⟩
    simp [encL]; omega
  | x :: l, d, m, n, i, h, hi => by
    rw [longL] at h
    split at h
    · cases h
    · rename_i k hk
      split at h
      · cases h
      · have hl := encI_len x d k hk
        cases i with
        | zero =>
          have := (longL_at l d (m + k) n 0 h (by omega)).2
          refine ⟨fun _ => ⟨k, hk⟩, ?_⟩
          simp [encL] at this ⊢; omega
        | succ i =>
          obtain ⟨h1, h2⟩ := longL_at l d (m + k) n i h (by simpa using hi)
          refine ⟨fun hh => by simpa using h1 (by simpa using hh), ?_⟩
          simp only [List.take_succ_cons, encL, List.length_append]; omega
theorem encL_take_succ (l : List Itm) (i : Nat) (h : i < l.length) : encL (l.take (i + 1)) = encL (l.take i) ++ encI l[i] := by
  induction l generalizing i with
  | nil => simp at h
  | cons x l ih =>
    cases i with
    | zero => simp [encL]
    | succ i => simp only [List.take_succ_cons, encL, List.getElem_cons_succ, List.append_assoc]; rw [ih i (by simpa using h)]
theorem callK_f (f : Value) (as : List Value) (s : St) : callK K f as false (some []) s = K f as s := rfl
theorem callK_p (f : Value) (as : List Value) (s : St) (k : Nat) : callK K f as false (some [k]) s = match K f as { s with pr := k :: s.pr } with
    | some (v, s') => some (v, { s' with pr := s.pr })
    | none => none := rfl
theorem Bs.any {s : St} {k : Nat} {l : List UInt8} (hs : WF s) (hk : s.get k = some (l.map v8)) (hm : s.may k = true) (new : List UInt8) (hb : l.length + new.length ≤ 4294967296) :
    ∃ k' s', appendTo s 1 (some (EV.own k 0)) l.length 1 (new.map v8) new.length = some (.slice (some (EV.own k' 0)) (l ++ new).length 1, s') ∧ Exd (· = k) s s' ∧ s'.get k' = some ((l ++ new).map v8) ∧ (k' = k ∨ k' = s.n) := by
  cases new with
  | nil =>
    refine ⟨k, s, ?_, (Ex.refl hs).d _, by simpa using hk, .inl rfl⟩
    simp only [List.length_nil, List.append_nil, List.map_nil]
    unfold appendTo
    rw [if_neg (by simp only [List.length_nil] at hb; omega), if_pos rfl, if_neg (by simp [roS, EV.own])]
  | cons b new =>
    obtain ⟨a, c, s', hv, h1, h2, h3, h4⟩ := Bs.app (v := .slice (some (EV.own k 0)) l.length 1) hs (.inr ⟨k, rfl, hk, hm⟩) (new := b :: new) (by simp) hb
    cases hv
    refine ⟨s.n, s', h1, h2.mono fun j _ ⟨n, c, hh⟩ => ?_, h3, .inr rfl⟩
    cases hh; rfl
def LaidP (ro : Addr → Option Value) (K : H) (n : Nat) (x : Itm) : Prop :=
  ∀ (F : Fp) (s : St) (vb v : Value) (lb : List UInt8) (d : Nat), WF s → Bs s vb lb → Sl (shIt n) ro F s v x.items → (∀ j, F j → ¬ Dv vb j) → szI x < 4294967296 → (longI x d).isSome = true → lb.length ≤ 1048576 →
    ∃ k' s', K (.func (.func 266) #[] #[]) [vb, .agg #[.bool x.list, Str x.text, v]] s = some (.slice (some (EV.own k' 0)) (lb ++ encI x).length 1, s') ∧ s.n ≤ k' ∧ Exd (Dv vb) s s' ∧ s'.get k' = some ((lb ++ encI x).map v8)
theorem laid_text (hK : Std ro K) (n : Nat) (t : List UInt8) (l : List Itm) : LaidP ro K n (.mk false t l) := by
  intro F s vb v lb d hs hb hsl hF hz hlo hlb
  rw [go266 hK _ _ rfl]
  obtain ⟨q, hq⟩ := Option.isSome_iff_exists.1 hlo
  have hqle := longI_le _ _ _ hq
  have hel := encI_len _ _ _ hq
  rw [longI] at hq
  simp only [Itm.list, Itm.text, Itm.items] at *
  split at hq
  · cases hq
  rename_i hc
  have ht : t.length ≤ 65536 := by omega
  have hx := S_ex hs [some [.bool false, Str t, v]]
  have hs1 := hx.wf hs
  have hal := fun (s : St) (hs : WF s) (pr : Option (List Nat)) => (alone_fv hK t).q (fun _ => rfl) hs (pr := pr)
  rw [encI]
  by_cases ha : aloneT t = true
  · rw [if_pos ha]
    have h1 := alone_len ha
    obtain ⟨a, c, s', rfl, hap, he, hg, hn'⟩ := (hb.ex hx).app hs1 (new := t) (by omega) (by omega)
    simp only [S_n, List.length_cons, List.length_nil, Nat.zero_add] at hap hg
    refine ⟨s.n + 1, s', ?_, by omega, (hx.d _).trans he (fun j _ h => h) (fun j _ h => h), hg⟩
    simp (disch := first | omega | assumption | exact S_wf (by assumption) _ | (simp; done) | (simp; omega)) [c266, decide_eq_true, decide_eq_false, if_pos, if_neg, hs, hal, ha, hap]
  · rw [if_neg ha]
    obtain ⟨k1, s2, hf, hk1, he2, hg2⟩ := front_fv hK _ hs1 vb lb (hb.ex hx) 128 t.length (by omega) (by omega) (by omega)
    have hs2 := he2.wf hs1
    have hex2 := (hx.d (Dv vb)).trans he2 (E := Dv vb) (fun j _ h => h) (fun j _ h => h)
    have hrow : s2.get s.n = some [.bool false, Str t, v] := by
      rw [he2.row s.n (by simp [S_n]) (fun ⟨n, c, hh⟩ => ?_), S_get0]
      · rfl
      · rcases hb with ⟨hv, -⟩ | ⟨kk, hv, hk, -⟩
        · rw [hv] at hh; cases hh
        · rw [hv] at hh; cases hh
          have := St.get_lt hk; omega
    have hfl : (frontB 128 t.length).length ≤ 33 := by rw [frontB_len]; exact ahead_le _ (by omega)
    obtain ⟨lb2, hlb2⟩ : ∃ x, x = lb ++ frontB 128 t.length := ⟨_, rfl⟩
    have hll : lb2.length ≤ 1048576 + 33 := by rw [hlb2]; simp; omega
    rw [← hlb2] at hf hg2
    obtain ⟨k', s3, ha3, he3, hg3, hk3⟩ := Bs.any hs2 hg2 (by rw [he2.may]; exact hs1.may hk1) t (by omega)
    have hn2 := he2.n
    simp only [S_n, List.length_cons, List.length_nil, Nat.zero_add] at hk1 hn2
    rw [show lb ++ (frontB 128 t.length ++ t) = lb2 ++ t by rw [hlb2]; simp]
    refine ⟨k', s3, ?_, by omega, hex2.trans he3 (fun j _ h => h) (fun j hj h => by omega), hg3⟩
    simp only [EV.own, show ((128 : Nat) : Int) = 128 from rfl] at hf ha3
    simp (disch := first | omega | assumption | exact S_wf (by assumption) _ | (simp; done) | (simp; omega)) [c266, decide_eq_true, decide_eq_false, if_pos, if_neg, hs, hal, ha, callK_f, hf, hrow, ha3]
theorem each_q (hK : Std ro K) (s : St) (hs : WF s) (v : Value) (pr : Option (List Nat)) : callK K (.func (.func 260) #[] #[]) [v] true pr s = if plainT v = true then some (.func (.func 285) #[] #[.pointer (some (EV.own s.n 0))], S s [some (cells v)]) else none := by
  by_cases hp : plainT v = true
  · rw [if_pos hp]
    have h1 : K (.func (.func 260) #[] #[]) [v] (qs s) = some (.func (.func 285) #[] #[.pointer (some (EV.own s.n 0))], S (qs s) [some (cells v)]) := by
      rw [go260 hK _ _ rfl]
      simp [c260, hp]
      rfl
    exact callq_keep h1 rfl
  · rw [if_neg hp]
    have h1 : K (.func (.func 260) #[] #[]) [v] (qs s) = none := by
      rw [go260 hK _ _ rfl]
      simp [c260, hp]
    simp only [callK, if_true, quiet]
    rw [show ({ s with fl := s.n, lf := s.nl } : St) = qs s from rfl, h1]
noncomputable def recL (e : Env) : Rec := { env := e, ps := [12], asg := b266_0, body := b266_1, st := .ready, pend := .nrm }
theorem laid_loop (hK : Std ro K) (F : Fp) (n : Nat) (L : List Itm) (d m0 : Nat) (hlong : longL L d 0 = some m0) (hm0 : m0 ≤ 65536) (hz : szL L < 4294967296) (ihn : ∀ x ∈ L, LaidP ro K n x)
    (a : Option Addr) (c : Nat) (e : Env) (t : St) (ht : WF t) (l : Nat) (rest : List (Nat × Rec)) (hl : t.lf ≤ l) (hlps : t.lps = (l, recL e) :: rest) (kin : Nat) (hkin : kin < t.n) (hmay : t.may kin = true) (he5 : lk e 5 = some (.pointer (some (EV.own kin 0)))) (hF : ∀ j, F j → j < t.n ∧ j ≠ kin) :
    ∀ (j i : Nat) (u : St) (v : Value), Exd (· = kin) t u → Sl (shIt (n + 1)) ro F u (.slice a L.length c) L → i + j = L.length → u.get kin = some [v] → Bs u v (encL (L.take i)) → (∀ j, Dv v j → t.n ≤ j) →
    ∃ u' v', Exd (· = kin) t u' ∧ u'.get kin = some [v'] ∧ Bs u' v' (encL L) ∧ (∀ j, Dv v' j → t.n ≤ j) ∧ ∀ k : List Fm, M ro K (.lop b285_0) (.bk 0 :: k) [(0, .func (.yield l) #[] #[]), (9, .slice a L.length c), (10, vI L.length), (11, vI i)] u =
      Rk ro K .nrm k [(0, .func (.yield l) #[] #[]), (9, .slice a L.length c), (10, vI L.length), (11, vI L.length), (12, .bool false)] u' := by
  intro j
  induction j with
  | zero =>
    intro i u v he hsl h hg hb hd
    have : i = L.length := by omega
    subst this
    rw [List.take_of_length_le (Nat.le_refl _)] at hb
    refine ⟨u, v, he, hg, hb, hd, fun k => ?_⟩
    rw [M_lop]
    simp (disch := first | omega | assumption | exact S_wf (by assumption) _ | (simp; done) | (simp; omega)) [Mb _ _ b285_0.eq_1]
  | succ j ih =>
    intro i u v he hsl h hg hb hd
    have hu := he.wf ht
    have hun := he.n
    have hlen := szL_len L
    obtain ⟨b, rfl, cs, hR, hrd⟩ := hsl.at i (by omega)
    obtain ⟨vi, rfl, hv⟩ := hR
    have hrd := hrd.rd 3 (by simp)
    rw [shIt_sz] at hrd
    simp at hrd
    have hx := S_ex hu [some [.bool L[i].list, Str L[i].text, vi]]
    have hu1 := hx.wf hu
    have hlx := Nat.lt_of_le_of_lt (szL_at L L[i] (by simp)) hz
    obtain ⟨r, s2', hr, he2', hA⟩ := copied_fv hK F n L[i] (qs (S u [some [.bool L[i].list, Str L[i].text, vi]])) vi hu1.q (hv.mo ((hx.mo F).trans (Mo.q F _))) hlx
    obtain ⟨s2, hc, he2, hA⟩ := hA.callq (pr := some []) hr he2' hu1
    obtain ⟨vc, rfl, hoc⟩ := hA
    have hs2 := he2.wf hu1
    have e12 := hx.trans he2
    have hlp2 : s2.lps = (l, recL e) :: rest := by rw [e12.lp, he.lp, hlps]
    obtain ⟨s3, hs3def⟩ : ∃ s3 : St, s3 = { s2 with lps := (l, { recL e with st := .busy }) :: rest } := ⟨_, rfl⟩
    have hs3 : WF s3 := by
      have hk := hs2.lk
      rw [hlp2] at hk
      subst hs3def
      exact ⟨hs2.fl, hs2.lf, hs2.pr, hs2.len, fun p hp => by
        rcases List.mem_cons.1 hp with rfl | hp
        · exact hk (l, recL e) (by simp)
        · exact hk p (by simp [hp])⟩
    have hx3 := S_ex hs3 [some [.bool L[i].list, Str L[i].text, vc]]
    have hs3' := hx3.wf hs3
    have hn2 := e12.n
    have hn3 : s3.n = s2.n := by subst hs3def; rfl
    have hg3 : ∀ k, s3.get k = s2.get k := fun k => by subst hs3def; rfl
    have hkg : kin < u.n := by omega
    have g2 : s2.get kin = some [v] := (e12.row kin hkg).trans hg
    have g3 : (S s3 [some [.bool L[i].list, Str L[i].text, vc]]).get kin = some [v] := by rw [S_old _ _ (by omega), hg3]; exact g2
    have hdu : ∀ j, Dv v j → j < u.n := fun j hj => by
      rcases hb with ⟨hv, -⟩ | ⟨kk, hv, hk, -⟩
      · obtain ⟨n1, c1, hh⟩ := hj; rw [hv] at hh; cases hh
      · obtain ⟨n1, c1, hh⟩ := hj; rw [hv] at hh; cases hh; exact St.get_lt hk
    have hb3 : Bs (S s3 [some [.bool L[i].list, Str L[i].text, vc]]) v (encL (L.take i)) := by
      rcases hb with h0 | ⟨kk, hv, hk, hm⟩
      · exact .inl h0
      · have hkl := St.get_lt hk
        refine .inr ⟨kk, hv, ?_, ?_⟩
        · rw [S_old _ _ (by omega), hg3]; exact (e12.row kk hkl).trans hk
        · subst hs3def
          show s2.may kk = true
          rw [(e12.d (fun _ => False)).may]; exact hm
    have hoc3 : Sl (shIt n) ro (Fresh (S u [some [.bool L[i].list, Str L[i].text, vi]]).n) (S s3 [some [.bool L[i].list, Str L[i].text, vc]]) vc L[i].items := by
      have : Sl (shIt n) ro (Fresh (S u [some [.bool L[i].list, Str L[i].text, vi]]).n) s3 vc L[i].items := hoc.sl.mo ⟨by omega, fun j hj hF => ⟨hg3 j, hF⟩⟩
      exact this.mo (hx3.mo _)
    obtain ⟨hlo, hle⟩ := longL_at L d 0 m0 i hlong (by omega)
    obtain ⟨q, hq⟩ := hlo (by omega)
    obtain ⟨k', s4, hla, hk', he4, hg4⟩ := ihn L[i] (by simp) (Fresh (S u [some [.bool L[i].list, Str L[i].text, vi]]).n) (S s3 [some [.bool L[i].list, Str L[i].text, vc]]) v vc (encL (L.take i)) d hs3' hb3 hoc3 (fun j hj hd' => by have := hdu j hd'; simp [Fresh, S_n] at hj; omega) hlx (by rw [hq]; rfl) (by omega)
    have hs4 := he4.wf hs3'
    have hn4 := he4.n
    simp only [S_n, List.length_cons, List.length_nil, Nat.zero_add] at hn4 hk'
    have hkd : ¬ Dv v kin := fun hh => by have := hd kin hh; omega
    have g4 : s4.get kin = some [v] := (he4.row kin (by simp [S_n]; omega) hkd).trans g3
    have m4 : s4.may kin = true := by
      rw [he4.may]; subst hs3def
      show s2.may kin = true
      rw [(e12.d (fun _ => False)).may, he.may]; exact hmay
    obtain ⟨v', hv'⟩ : ∃ v', v' = Value.slice (some (EV.own k' 0)) (encL (L.take i) ++ encI L[i]).length 1 := ⟨_, rfl⟩
    have hp := Exd.put hs4 g4 (some [v'])
    have hlp4 : s4.lps = (l, { recL e with st := .busy }) :: rest := by rw [he4.lp]; subst hs3def; rfl
    obtain ⟨u1, hu1def⟩ : ∃ u1 : St, u1 = { s4.put kin (some [v']) with lps := (l, recL e) :: rest } := ⟨_, rfl⟩
    have hgu1 : ∀ k, u1.get k = (s4.put kin (some [v'])).get k := fun k => by subst hu1def; rfl
    have hnu1 : u1.n = s4.n := by subst hu1def; rfl
    have heu1 : Exd (· = kin) t u1 := by
      refine ⟨by omega, ?_, fun k hk hkk => ?_, ?_, ?_, ?_, ?_, ?_⟩
      · have h1 := he.nl; have h2 := e12.nl; have h3 := he4.nl
        subst hu1def; subst hs3def
        exact Nat.le_trans h1 (Nat.le_trans h2 h3)
      · rw [hgu1, hp.row k (by omega) hkk, he4.row k (by simp [S_n]; omega) (fun hh => by have := hd k hh; omega), S_old _ _ (by omega), hg3, e12.row k (by omega)]
        exact he.row k hk hkk
      · subst hu1def; exact hlps.symm
      · subst hu1def; have h1 := he4.fl; subst hs3def; exact h1.trans (e12.fl.trans he.fl)
      · subst hu1def; have h1 := he4.lf; subst hs3def; exact h1.trans (e12.lf.trans he.lf)
      · subst hu1def; have h1 := he4.pr; subst hs3def; exact h1.trans (e12.pr.trans he.pr)
      · subst hu1def; exact hp.len
    have hk'k : k' ≠ kin := by omega
    have gk' : u1.get k' = some ((encL (L.take i) ++ encI L[i]).map v8) := by
      rw [hgu1, St.get_put_other _ _ hk'k (St.get_lt g4)]; exact hg4
    have gkin : u1.get kin = some [v'] := by rw [hgu1]; exact St.get_put_same g4 _
    have hbu1 : Bs u1 v' (encL (L.take (i + 1))) := by
      rw [encL_take_succ L i (by omega)]
      refine .inr ⟨k', hv', gk', ?_⟩
      rw [heu1.may]; exact ht.may (by omega)
    have hsl1 : Sl (shIt (n + 1)) ro F u1 (.slice (some b) L.length c) L := by
      refine hsl.mo ⟨by omega, fun j hj hF' => ⟨?_, hF'⟩⟩
      obtain ⟨f1, f2⟩ := hF j hF'
      rw [heu1.row j f1 f2, he.row j f1 f2]
    obtain ⟨u', v'', f1, f2, f3, f4, f5⟩ := ih (i + 1) u1 v' heu1 hsl1 (by omega) gkin hbu1 (fun j ⟨n1, c1, hh⟩ => by rw [hv'] at hh; cases hh; omega)
    refine ⟨u', v'', f1, f2, f3, f4, fun k => ?_⟩
    rw [← f5 k, M_lop]
    have hlf2 : s2.lf ≤ l := by rw [e12.lf, he.lf]; exact hl
    have hround : roundL ro K l [.agg #[.bool L[i].list, Str L[i].text, vc]] s2 = some (.bool true, u1) := by
      rw [roundL_M (r := recL e) hlf2 (by rw [hlp2]; simp [lget]) rfl (e0 := (12, .agg #[.bool L[i].list, Str L[i].text, vc]) :: e) rfl]
      have step1 : M ro K b266_0 [.rb l b266_1] ((12, .agg #[.bool L[i].list, Str L[i].text, vc]) :: e) s2 = Rk ro K .nrm [.rb l b266_1] [(5, .pointer (some (EV.own kin 0))), (6, .pointer (some (EV.own s3.n 0)))] (S s2 [some [.bool L[i].list, Str L[i].text, vc]]) := by
        rw [hn3]
        simp (disch := first | omega | assumption | exact S_wf (by assumption) _ | (simp; done) | (simp; omega)) [Mb _ _ b266_0.eq_1, he5, hs2]
      show M ro K b266_0 [.rb l b266_1] _ s2 = _
      rw [step1, Rk_rb (r := recL e) _ _ _ _ (by rw [S_lps, hlp2]; simp [lget]) rfl]
      have hst : ({ S s2 [some [.bool L[i].list, Str L[i].text, vc]] with lps := lset (S s2 [some [.bool L[i].list, Str L[i].text, vc]]).lps l { recL e with st := .busy } } : St) = S s3 [some [.bool L[i].list, Str L[i].text, vc]] := by
        rw [S_lps, hlp2, hs3def]; simp [lset, S]
      rw [hst]
      have step2 : M ro K b266_1 [.rnd l] [(5, .pointer (some (EV.own kin 0))), (6, .pointer (some (EV.own s3.n 0)))] (S s3 [some [.bool L[i].list, Str L[i].text, vc]]) = Rk ro K .nrm [.rnd l] [] (s4.put kin (some [v'])) := by
        rw [hv']
        simp (disch := first | omega | assumption | exact S_wf (by assumption) _ | (simp; done) | (simp; omega)) [Mb _ _ b266_1.eq_1, g3, hla, callK_f, hs3, g4, m4]
      rw [step2, Rk_rnd (r := { recL e with st := .busy }) _ _ _ _ (by show lget s4.lps l = _; rw [hlp4]; simp [lget])]
      have hl4 : (s4.put kin (some [v'])).lps = (l, { recL e with st := .busy }) :: rest := hlp4
      rw [hl4, hu1def]
      simp [lset, Out.isNrm, recL]
    have hyl := fun s => hK.yl l #[] #[] [.agg #[.bool L[i].list, Str L[i].text, vc]] s
    simp (disch := first | omega | assumption | exact S_wf (by assumption) _ | (simp; done) | (simp; omega)) [Mb _ _ b285_0.eq_1, decide_eq_true, decide_eq_false, if_pos, if_neg, hrd, hc, wI, hu, callK_f, hyl, hround]
end Go.Proofs.YtakdnpafdadblaaGreat.EV.W
namespace Go.Proofs.YtakdnpafdadblaaGreat.EV.W
open Go
set_option maxRecDepth 8000
set_option maxHeartbeats 1000000
variable {ro : Addr → Option Value} {K : H}
theorem newLoop_wf {s : St} (h : WF s) (e : Env) (ps : List Nat) (a b : C) : WF (newLoop e ps a b s) :=
  ⟨h.fl, Nat.le_succ_of_le h.lf, h.pr, h.len, fun p hp => by
    rcases List.mem_cons.1 hp with rfl | hp
    · exact Nat.lt_succ_self _
    · exact Nat.lt_succ_of_lt (h.lk p hp)⟩
theorem laid_list (hK : Std ro K) (n : Nat) (tt : List UInt8) (L : List Itm) (ihn : ∀ x ∈ L, LaidP ro K n x) : LaidP ro K (n + 1) (.mk true tt L) := by
  intro F s vb v lb d hs hb hsl hF hz hlo hlb
  rw [go266 hK _ _ rfl]
  obtain ⟨q, hq⟩ := Option.isSome_iff_exists.1 hlo
  have hqle := longI_le _ _ _ hq
  have hii := szI_items (.mk true tt L)
  rw [longI] at hq
  simp only [Itm.list, Itm.text, Itm.items] at *
  by_cases htt : tt ≠ [] ∨ 16 ≤ d
  · rw [if_pos htt] at hq; cases hq
  rw [if_neg htt] at hq
  have htt0 : tt = [] := Decidable.byContradiction fun hh => htt (.inl hh)
  subst htt0
  cases hlong : longL L (d + 1) 0 with
  | none => rw [hlong] at hq; cases hq
  | some m0 =>
    rw [hlong] at hq
    dsimp only at hq
    have hm : m0 + ahead m0 ≤ 65536 := Decidable.byContradiction fun hh => by rw [if_neg hh] at hq; cases hq
    have hel := encL_len L (d + 1) 0 m0 hlong
    obtain ⟨a, c, rfl, -⟩ := hsl.open
    have hx := S_ex hs [some [.bool true, Str [], .slice a L.length c], some [.slice none 0 0], some [.bool true, Str [], .slice a L.length c]]
    have ht0 := hx.wf hs
    obtain ⟨e, hedef⟩ : ∃ e : Env, e = [(0, vb), (3, .pointer (some ⟨s.n, 0, some 0⟩)), (4, .slice none 0 0), (5, .pointer (some ⟨s.n + 1, 0, some 0⟩)), (11, .func (.func 285) #[] #[.pointer (some ⟨s.n + 2, 0, some 0⟩)])] := ⟨_, rfl⟩
    have hbn : ∀ j, Dv vb j → j < s.n := fun j ⟨n1, c1, hh⟩ => by
      rcases hb with ⟨hv, -⟩ | ⟨kk, hv, hk, -⟩
      · rw [hv] at hh; cases hh
      · rw [hv] at hh; cases hh; exact St.get_lt hk
    obtain ⟨t, htdef⟩ : ∃ t, t = newLoop e [12] b266_0 b266_1 (S s [some [.bool true, Str [], .slice a L.length c], some [.slice none 0 0], some [.bool true, Str [], .slice a L.length c]]) := ⟨_, rfl⟩
    have htw : WF t := by rw [htdef]; exact newLoop_wf ht0 _ _ _ _
    have htn : t.n = s.n + 3 := by rw [htdef]; rfl
    have htg : ∀ k, t.get k = (S s [some [.bool true, Str [], .slice a L.length c], some [.slice none 0 0], some [.bool true, Str [], .slice a L.length c]]).get k := fun k => by rw [htdef]; rfl
    have htl : t.lps = (s.nl, recL e) :: s.lps := by rw [htdef]; rfl
    have g1 : t.get (s.n + 1) = some [.slice none 0 0] := by rw [htg, S_get]; rfl
    have g2 : t.get (s.n + 2) = some [.bool true, Str [], .slice a L.length c] := by rw [htg, S_get]; rfl
    have hslF : Sl (shIt (n + 1)) ro (fun j => F j ∧ j < s.n) t (.slice a L.length c) L := hsl.mo ⟨by omega, fun j hj hF => ⟨by rw [htg, S_old _ _ hj], hF, hj⟩⟩
    have hm1 : t.may (s.n + 1) = true := by
      rw [htdef]; exact S_may hs [some [.bool true, Str [], .slice a L.length c], some [.slice none 0 0], some [.bool true, Str [], .slice a L.length c]] 1
    obtain ⟨u', v', f1, f2, f3, f4, f5⟩ := laid_loop hK (fun j => F j ∧ j < s.n) n L (d + 1) m0 hlong (by omega) (by omega) ihn a c e t htw s.nl s.lps (by rw [htdef]; exact hs.lf) htl (s.n + 1) (by omega) hm1 (by rw [hedef]; rfl) (fun j hj => by omega)
      L.length 0 t (.slice none 0 0) ((Ex.refl htw).d _) hslF (by omega) g1 (.inl ⟨rfl, rfl⟩) (fun j ⟨n1, c1, hh⟩ => by cases hh)
    have hu' := f1.wf htw
    have hclos : K (.func (.func 285) #[] #[.pointer (some ⟨s.n + 2, 0, some 0⟩)]) [.func (.yield s.nl) #[] #[]] t = some (.tuple #[], u') := by
      rw [goc285 hK _ _ _ rfl]
      simp only [EV.own, show ((0 : Nat) : Int) = 0 from rfl] at f5
      simp (disch := first | omega | assumption | exact S_wf (by assumption) _ | (simp; done) | (simp; omega)) [c285, decide_eq_true, decide_eq_false, if_pos, if_neg, g2, f5]
    obtain ⟨u2, hu2def⟩ : ∃ u2 : St, u2 = { u' with lps := s.lps } := ⟨_, rfl⟩
    have hend : endLoop s.nl e u' = some (.nrm, e, u2) := by
      unfold endLoop
      rw [f1.lp, htl]
      simp only [lget, if_true, recL, ldel]
      rw [ldel_none _ _ hs.lk, hu2def]
    have hu2g : ∀ k, u2.get k = u'.get k := fun k => by rw [hu2def]; rfl
    have hu2 : WF u2 := by
      rw [hu2def]
      exact ⟨hu'.fl, hu'.lf, hu'.pr, hu'.len, fun p hp => by
        have h1 := hs.lk p hp
        have h2 := f1.nl
        rw [htdef] at h2
        exact Nat.lt_of_lt_of_le h1 (Nat.le_trans (Nat.le_succ _) h2)⟩
    have hu2n : u2.n = u'.n := by rw [hu2def]
    have f1n := f1.n
    have e2 : Ex s u2 := by
      refine ⟨by omega, ?_, fun k hk => ?_, by rw [hu2def], ?_, ?_, ?_, hu2.len⟩
      · have h2 := f1.nl
        rw [htdef] at h2; rw [hu2def]
        exact Nat.le_trans (Nat.le_succ _) h2
      · rw [hu2g, f1.row k (by omega) (by omega), htg, S_old _ _ hk]
      · rw [hu2def]; show u'.fl = _; rw [f1.fl, htdef]; rfl
      · rw [hu2def]; show u'.lf = _; rw [f1.lf, htdef]; rfl
      · rw [hu2def]; show u'.pr = _; rw [f1.pr, htdef]; rfl
    obtain ⟨w, hwdef⟩ : ∃ w : St, w = { u2 with pr := (s.n + 1) :: u2.pr } := ⟨_, rfl⟩
    have hw : WF w := by
      rw [hwdef]
      exact ⟨hu2.fl, hu2.lf, fun k hk => by
        rcases List.mem_cons.1 hk with rfl | hk
        · show s.n + 1 < u2.n; omega
        · exact hu2.pr k hk, hu2.len, hu2.lk⟩
    have hwg : ∀ k, w.get k = u2.get k := fun k => by rw [hwdef]; rfl
    have hbw : Bs w vb lb := by
      rcases hb.ex e2 with h0 | ⟨kk, hv, hk, hm⟩
      · exact .inl h0
      · refine .inr ⟨kk, hv, by rw [hwg]; exact hk, ?_⟩
        have hlt := hbn kk ⟨_, _, hv⟩
        rw [hwdef]
        simp only [St.may, Bool.and_eq_true, Bool.not_eq_eq_eq_not, Bool.not_true, List.contains_eq_mem, decide_eq_true_eq, decide_eq_false_iff_not, List.mem_cons, not_or] at hm ⊢
        exact ⟨hm.1, by omega, hm.2⟩
    obtain ⟨k1, w2, hf, hk1, he2, hg2⟩ := front_fv hK w hw vb lb hbw 192 (encL L).length (by omega) (by omega) (by omega)
    have hw2 := he2.wf hw
    obtain ⟨w3, hw3def⟩ : ∃ w3 : St, w3 = { w2 with pr := u2.pr } := ⟨_, rfl⟩
    have hw3g : ∀ k, w3.get k = w2.get k := fun k => by rw [hw3def]; rfl
    have hwn : w.n = u2.n := by rw [hwdef]
    have hw2n := he2.n
    have e3 : Exd (Dv vb) u2 w3 := by
      refine ⟨by rw [hw3def]; show u2.n ≤ w2.n; omega, ?_, fun k hk hd => ?_, ?_, ?_, ?_, ?_, ?_⟩
      · rw [hw3def]; have := he2.nl; rw [hwdef] at this; exact this
      · rw [hw3g, he2.row k (by omega) hd, hwg]
      · rw [hw3def]; have := he2.lp; rw [hwdef] at this; exact this
      · rw [hw3def]; have := he2.fl; rw [hwdef] at this; exact this
      · rw [hw3def]; have := he2.lf; rw [hwdef] at this; exact this
      · rw [hw3def]
      · rw [hw3def]; exact hw2.len
    have hw3 := e3.wf hu2
    obtain ⟨lb2, hlb2⟩ : ∃ x, x = lb ++ frontB 192 (encL L).length := ⟨_, rfl⟩
    have hfl : (frontB 192 (encL L).length).length ≤ 33 := by rw [frontB_len]; exact ahead_le _ (by omega)
    have hll : lb2.length ≤ 1048576 + 33 := by rw [hlb2]; simp; omega
    rw [← hlb2] at hf hg2
    have hu2b : Bs u2 v' (encL L) := by
      rcases f3 with h0 | ⟨kk, hv, hk, hm⟩
      · exact .inl h0
      · exact .inr ⟨kk, hv, by rw [hu2g]; exact hk, by rw [hu2def]; exact hm⟩
    have hb3 : Bs w3 v' (encL L) := hu2b.exd e3 (fun j hj hj2 => by have := hbn j hj; have := f4 j hj2; omega)
    obtain ⟨a3, c3, hv3, hrd3⟩ := hb3.rd (ro := ro)
    have gk1 : w3.get k1 = some (lb2.map v8) := by rw [hw3g]; exact hg2
    have mk1 : w3.may k1 = true := by rw [e3.may]; exact hu2.may (by omega)
    obtain ⟨k', s3, ha3, he3, hg3, hk3⟩ := Bs.any hw3 gk1 mk1 (encL L) (by omega)
    have gkin : ∀ x : St, (∀ k, x.get k = u2.get k) → x.get (s.n + 1) = some [v'] := fun x hx => by rw [hx, hu2g]; exact f2
    have gk3 : w3.get (s.n + 1) = some [v'] := by
      rw [e3.row (s.n + 1) (by omega) (fun hd => by have := hbn _ hd; omega)]; exact gkin u2 (fun _ => rfl)
    rw [encI, show lb ++ (frontB 192 (encL L).length ++ encL L) = lb2 ++ encL L by rw [hlb2]; simp]
    have e3n := e3.n
    refine ⟨k', s3, ?_, by omega, ((e2.d _).trans (E := Dv vb) e3 (fun _ _ h => h) (fun _ _ h => h)).trans he3 (fun _ _ h => h) (fun j hj h => by omega), hg3⟩
    have hcall : callK K (.func (.func 289) #[] #[]) [vb, vI 192, vI (encL L).length] false (some [s.n + 1]) u2 = some (.slice (some (EV.own k1 0)) lb2.length 1, w3) := by
      rw [callK_p, ← hwdef]
      rw [show (192 : Int) = ((192 : Nat) : Int) from rfl, hf, hw3def]
    have gk2 : u2.get (s.n + 1) = some [v'] := gkin u2 (fun _ => rfl)
    subst hv3
    rw [hedef] at hend htdef
    simp only [EV.own] at hcall ha3
    simp (disch := first | omega | assumption | exact S_wf (by assumption) _ | (simp; done) | (simp; omega)) [c266, decide_eq_true, decide_eq_false, if_pos, if_neg, hs, each_q hK, M_rf, ← htdef, hclos, hend, gk2, gk3, hcall, hrd3, ha3, rowOf]
theorem laid_fv (hK : Std ro K) : ∀ (n : Nat) (x : Itm), LaidP ro K n x
  | n, .mk false t l => laid_text hK n t l
  | 0, .mk true t l => by
    intro F s vb v lb d hs hb hsl hF hz hlo hlb
    have h0 : l = [] := sh0_nil hsl
    subst h0
    exact laid_list hK 0 t [] (fun x hx => by cases hx) F s vb v lb d hs hb (sh0_any hsl _) hF hz hlo hlb
  | n + 1, .mk true t l => laid_list hK n t l (fun x _ => laid_fv hK n x)
theorem ibytes_fv (hK : Std ro K) (F : Fp) (n : Nat) (x : Itm) (s : St) (v : Value) (hs : WF s) (hsl : Sl (shIt n) ro F s v x.items) (hz : szI x < 4294967296) :
    ∃ s', K (.func (.func 234) #[] #[]) [.agg #[.bool x.list, Str x.text, v]] s = some (if (longI x 0).isSome then .tuple #[Str (encI x), vI 0] else .tuple #[Str [], vI 1], s') := by
  rw [go234 hK _ _ rfl]
  have hex := S_ex hs [some [.bool x.list, Str x.text, v]]
  have hs1 := hex.wf hs
  obtain ⟨s', hr⟩ := check_fv hK F n x (qs (S s [some [.bool x.list, Str x.text, v]])) v hs1.q (hsl.mo ((hex.mo F).trans (Mo.q F _))) hz
  have hc := fun pr => callq (pr := pr) hr rfl
  by_cases hlo : (longI x 0).isSome = true
  · rw [if_pos hlo] at hc ⊢
    obtain ⟨k', s2, h1, h2, h3, h4⟩ := laid_fv hK n x F (S s [some [.bool x.list, Str x.text, v]]) (.slice none 0 0) v [] 0 hs1 (.inl ⟨rfl, rfl⟩) (hsl.mo (hex.mo F)) (fun j _ ⟨n1, c1, hh⟩ => by cases hh) hz hlo (by simp)
    simp only [List.nil_append] at h1 h4
    simp (disch := first | omega | assumption | exact S_wf (by assumption) _ | (simp; done) | (simp; omega)) [c234, decide_eq_true, decide_eq_false, if_pos, if_neg, hs, hc, callK_f, h1, rdSl, h4, List.take_of_length_le, bytesOf_v8]
  · rw [if_neg hlo] at hc ⊢
    simp (disch := first | omega | assumption | exact S_wf (by assumption) _ | (simp; done) | (simp; omega)) [c234, decide_eq_true, decide_eq_false, if_pos, if_neg, hs, hc]
end Go.Proofs.YtakdnpafdadblaaGreat.EV.W
namespace Go.Proofs.YtakdnpafdadblaaGreat.EV.W
open Go
set_option maxRecDepth 8000
set_option maxHeartbeats 1000000
variable {ro : Addr → Option Value} {K : H}
def costT (t : T) : Option U :=
  if t.bs.length < 1 ∨ 4 < t.bs.length then none
  else if 2 ^ 256 ≤ t.cap.val * (t.gas % 18446744073709551616).toNat then none
  else if 2 ^ 256 ≤ t.bcap.val * (t.bs.length * 131072) then none
  else if 2 ^ 256 ≤ t.cap.val * (t.gas % 18446744073709551616).toNat + t.bcap.val * (t.bs.length * 131072) then none
  else if 2 ^ 256 ≤ t.cap.val * (t.gas % 18446744073709551616).toNat + t.bcap.val * (t.bs.length * 131072) + t.value.val then none
  else some (U.of (t.cap.val * (t.gas % 18446744073709551616).toNat + t.bcap.val * (t.bs.length * 131072) + t.value.val))
abbrev vUB (x : U) (b : Bool) : Value := .tuple #[vU x, .bool b]
def costV : Option U → Value
  | some x => vUB x true
  | none => vUB U0 false
def mulR (x y : U) : U × Int := if x.val * y.val < 2 ^ 256 then (U.of (x.val * y.val), 0) else (U0, 8)
def addR (x y : U) : U × Int := if x.val + y.val < 2 ^ 256 then (U.of (x.val + y.val), 0) else (U0, 8)
theorem mulR_0 {x y : U} (h : (mulR x y).2 = 0) : x.val * y.val < 2 ^ 256 ∧ (mulR x y).1 = U.of (x.val * y.val) := by
  unfold mulR at h ⊢
  split at h
  · rename_i h1; rw [if_pos h1]; exact ⟨h1, rfl⟩
  · cases h
theorem mulR_1 {x y : U} (h : ¬ (mulR x y).2 = 0) : 2 ^ 256 ≤ x.val * y.val := by
  unfold mulR at h
  split at h
  · exact absurd rfl h
  · omega
theorem addR_0 {x y : U} (h : (addR x y).2 = 0) : x.val + y.val < 2 ^ 256 ∧ (addR x y).1 = U.of (x.val + y.val) := by
  unfold addR at h ⊢
  split at h
  · rename_i h1; rw [if_pos h1]; exact ⟨h1, rfl⟩
  · cases h
theorem addR_1 {x y : U} (h : ¬ (addR x y).2 = 0) : 2 ^ 256 ≤ x.val + y.val := by
  unfold addR at h
  split at h
  · exact absurd rfl h
  · omega
theorem mul_q (hK : Std ro K) (a b c d e f g h : UInt64) {s : St} (hs : WF s) (pr : Option (List Nat)) : callK K (.func (.func 242) #[] #[]) [.agg #[v64 a, v64 b, v64 c, v64 d], .agg #[v64 e, v64 f, v64 g, v64 h]] true pr s =
    some (vUE (mulR ⟨a, b, c, d⟩ ⟨e, f, g, h⟩).1 (mulR ⟨a, b, c, d⟩ ⟨e, f, g, h⟩).2, s) := by
  refine Fv.q ?_ (fun _ => rfl) hs
  have := mul_fv hK ⟨a, b, c, d⟩ ⟨e, f, g, h⟩
  unfold mulR
  split <;> rename_i h1
  · rw [if_pos h1] at this; exact this
  · rw [if_neg h1] at this; exact this
theorem add_q (hK : Std ro K) (a b c d e f g h : UInt64) {s : St} (hs : WF s) (pr : Option (List Nat)) : callK K (.func (.func 178) #[] #[]) [.agg #[v64 a, v64 b, v64 c, v64 d], .agg #[v64 e, v64 f, v64 g, v64 h]] true pr s =
    some (vUE (addR ⟨a, b, c, d⟩ ⟨e, f, g, h⟩).1 (addR ⟨a, b, c, d⟩ ⟨e, f, g, h⟩).2, s) := by
  refine Fv.q ?_ (fun _ => rfl) hs
  have := add_fv hK ⟨a, b, c, d⟩ ⟨e, f, g, h⟩
  unfold addR
  split <;> rename_i h1
  · rw [if_pos h1] at this; exact this
  · rw [if_neg h1] at this; exact this
theorem cmp_q (hK : Std ro K) (a b c d e f g h : UInt64) {s : St} (hs : WF s) (pr : Option (List Nat)) : callK K (.func (.func 102) #[] #[]) [.agg #[v64 a, v64 b, v64 c, v64 d], .agg #[v64 e, v64 f, v64 g, v64 h]] true pr s =
    some (vI (cmpN (U.val ⟨a, b, c, d⟩) (U.val ⟨e, f, g, h⟩)), s) :=
  (cmp_fv hK ⟨a, b, c, d⟩ ⟨e, f, g, h⟩).q (fun _ => rfl) hs
theorem gas_q (hK : Std ro K) (n : Int) {s : St} (hs : WF s) (pr : Option (List Nat)) : callK K (.func (.func 103) #[] #[]) [vI n] true pr s = some (if n < 1 ∨ 4 < n then .tuple #[vI 0, vI 1] else .tuple #[vI (n * 131072), vI 0], s) :=
  (gas_fv hK n).q (fun _ => by split <;> rfl) hs
theorem U_eta (x : U) : (⟨x.a, x.b, x.c, x.d⟩ : U) = x := rfl
theorem small_val (n : Nat) (h : n < 18446744073709551616) : U.val ⟨UInt64.ofNat n, 0, 0, 0⟩ = n := by
  rw [← of_nat n h]; exact U.val_of (by omega)
theorem cost_fv (hK : Std ro K) (t : T) (h b : Value) (F : Fp) (s : St) (hs : WF s) (r2 : Sl shStr ro F s b t.bs) :
    ∃ s', K (.func (.func 191) #[] #[]) [vT t h b] s = some (costV (costT t), s') := by
  rw [go191 hK _ _ rfl]
  obtain ⟨a2, c2, rfl, o2⟩ := r2.open
  unfold costT
  by_cases h1 : t.bs.length < 1 ∨ 4 < t.bs.length
  · rw [if_pos h1]
    have hg := fun (s : St) (hs : WF s) (pr : Option (List Nat)) => gas_q hK (t.bs.length : Int) hs pr
    rw [if_pos (by omega)] at hg
    simp (disch := first | omega | assumption | exact S_wf (by assumption) _ | (simp; done) | (simp; omega)) [c191, decide_eq_true, decide_eq_false, if_pos, if_neg, hs, hg, costV]
  · rw [if_neg h1]
    have hg := fun (s : St) (hs : WF s) (pr : Option (List Nat)) => gas_q hK (t.bs.length : Int) hs pr
    rw [if_neg (by omega)] at hg
    obtain ⟨g, hgd⟩ : ∃ g, g = (t.gas % 18446744073709551616).toNat := ⟨_, rfl⟩
    obtain ⟨n, hnd⟩ : ∃ n, n = t.bs.length * 131072 := ⟨_, rfl⟩
    have hgl : g < 18446744073709551616 := by omega
    have hnl : n < 18446744073709551616 := by omega
    have hn2 : ((t.bs.length : Int) * 131072 % 18446744073709551616).toNat = n := by omega
    rw [← hgd, ← hnd]
    have hm := fun (a b c d e f g h : UInt64) (s : St) (hs : WF s) (pr : Option (List Nat)) => mul_q hK a b c d e f g h hs pr
    have ha := fun (a b c d e f g h : UInt64) (s : St) (hs : WF s) (pr : Option (List Nat)) => add_q hK a b c d e f g h hs pr
    have hgv := small_val g hgl
    have hnv := small_val n hnl
    have hnw : IntKind.i64.wrap ((t.bs.length : Int) * 131072) = (t.bs.length : Int) * 131072 := wI _ (by omega) (by omega)
    by_cases e1 : (mulR t.cap ⟨UInt64.ofNat g, 0, 0, 0⟩).2 = 0
    · obtain ⟨p1, q1⟩ := mulR_0 e1
      rw [hgv] at p1 q1
      by_cases e2 : (mulR t.bcap ⟨UInt64.ofNat n, 0, 0, 0⟩).2 = 0
      · obtain ⟨p2, q2⟩ := mulR_0 e2
        rw [hnv] at p2 q2
        by_cases e3 : (addR (U.of (t.cap.val * g)) (U.of (t.bcap.val * n))).2 = 0
        · obtain ⟨p3, q3⟩ := addR_0 e3
          rw [U.val_of p1, U.val_of p2] at p3 q3
          by_cases e4 : (addR (U.of (t.cap.val * g + t.bcap.val * n)) t.value).2 = 0
          · obtain ⟨p4, q4⟩ := addR_0 e4
            rw [U.val_of p3] at p4 q4
            rw [if_neg (by omega), if_neg (by omega), if_neg (by omega), if_neg (by omega)]
            simp (disch := first | omega | assumption | exact S_wf (by assumption) _ | (simp; done) | (simp; omega)) [c191, M_lop b191_0, Mb _ _ b191_0.eq_1, decide_eq_true, decide_eq_false, if_pos, if_neg, hs, hg, hm, ha, hn2, ← hgd, U_eta, e1, e2, e3, e4, q1, q2, q3, q4, wI, costV]
          · have p4 := addR_1 e4
            rw [U.val_of p3] at p4
            rw [if_neg (by omega), if_neg (by omega), if_neg (by omega), if_pos (by omega)]
            simp (disch := first | omega | assumption | exact S_wf (by assumption) _ | (simp; done) | (simp; omega)) [c191, M_lop b191_0, Mb _ _ b191_0.eq_1, decide_eq_true, decide_eq_false, if_pos, if_neg, hs, hg, hm, ha, hn2, ← hgd, U_eta, e1, e2, e3, e4, q1, q2, q3, wI, costV]
        · have p3 := addR_1 e3
          rw [U.val_of p1, U.val_of p2] at p3
          rw [if_neg (by omega), if_neg (by omega), if_pos (by omega)]
          simp (disch := first | omega | assumption | exact S_wf (by assumption) _ | (simp; done) | (simp; omega)) [c191, M_lop b191_0, Mb _ _ b191_0.eq_1, decide_eq_true, decide_eq_false, if_pos, if_neg, hs, hg, hm, ha, hn2, ← hgd, U_eta, e1, e2, e3, q1, q2, wI, costV]
      · have p2 := mulR_1 e2
        rw [hnv] at p2
        rw [if_neg (by omega), if_pos (by omega)]
        simp (disch := first | omega | assumption | exact S_wf (by assumption) _ | (simp; done) | (simp; omega)) [c191, M_lop b191_0, Mb _ _ b191_0.eq_1, decide_eq_true, decide_eq_false, if_pos, if_neg, hs, hg, hm, ha, hn2, ← hgd, U_eta, e1, e2, wI, costV]
    · have p1 := mulR_1 e1
      rw [hgv] at p1
      rw [if_pos (by omega)]
      simp (disch := first | omega | assumption | exact S_wf (by assumption) _ | (simp; done) | (simp; omega)) [c191, M_lop b191_0, Mb _ _ b191_0.eq_1, decide_eq_true, decide_eq_false, if_pos, if_neg, hs, hg, hm, ha, hn2, ← hgd, U_eta, e1, wI, costV]
def okT (t : T) : Bool := decide (0 ≤ t.frm ∧ t.frm < 8 ∧ 0 ≤ t.nonce ∧ t.nonce ≤ 1099511627776 ∧ 0 ≤ t.gas ∧ t.gas ≤ 1073741824 ∧ t.tip.val ≤ t.cap.val ∧ fits t.hs t.bs = 0) && (costT t).isSome
structure TR (ro : Addr → Option Value) (F : Fp) (s : St) (t : T) (h b : Value) : Prop where
  hs : Sl sh64 ro F s h t.hs
  bs : Sl shStr ro F s b t.bs
  sm : ∀ b ∈ t.bs, b.length < 1048576
theorem TR.mo {F F' : Fp} {s s' : St} {t : T} {h b : Value} (r : TR ro F s t h b) (m : Mo F s F' s') : TR ro F' s' t h b := ⟨r.hs.mo m, r.bs.mo m, r.sm⟩
theorem cost_q (hK : Std ro K) {t : T} {h b : Value} {F : Fp} {s : St} (hs : WF s) (r : TR ro F s t h b) (pr : Option (List Nat)) : callK K (.func (.func 191) #[] #[]) [vT t h b] true pr s = some (costV (costT t), s) := by
  obtain ⟨s', h1⟩ := cost_fv hK t h b F (qs s) hs.q (r.bs.mo (Mo.q F s))
  exact callq h1 (by cases costT t <;> rfl)
theorem fits_q (hK : Std ro K) {t : T} {h b : Value} {F : Fp} {s : St} (hs : WF s) (r : TR ro F s t h b) (pr : Option (List Nat)) : callK K (.func (.func 190) #[] #[]) [h, b] true pr s = some (vI (fits t.hs t.bs), s) := by
  obtain ⟨s', h1⟩ := fits_fv hK t.hs t.bs h b F r.sm (qs s) hs.q (r.hs.mo (Mo.q F s)) (r.bs.mo (Mo.q F s))
  exact callq h1 rfl
theorem check_t (hK : Std ro K) (t : T) (h b : Value) (F : Fp) (s : St) (hs : WF s) (r : TR ro F s t h b) :
    ∃ s', K (.func (.func 116) #[] #[]) [vT t h b] s = some (vI (if okT t then 0 else 1), s') := by
  rw [go116 hK _ _ rfl]
  have hex := S_ex hs [some (txC t h b)]
  have hs1 := hex.wf hs
  have hc := fun (a b c d e f g h : UInt64) (s : St) (hs : WF s) (pr : Option (List Nat)) => cmp_q hK a b c d e f g h hs pr
  have hf := fun (pr : Option (List Nat)) => fits_q hK hs1 (r.mo (hex.mo F)) pr
  have hco := fun (pr : Option (List Nat)) => cost_q hK hs1 (r.mo (hex.mo F)) pr
  unfold okT
  by_cases h1 : t.frm < 0
  · rw [decide_eq_false (by omega)]
    simp (disch := first | omega | assumption | exact S_wf (by assumption) _ | (simp; done) | (simp; omega)) [c116, decide_eq_true, decide_eq_false, if_pos, if_neg, hs, h1]
  by_cases h2 : 8 ≤ t.frm
  · rw [decide_eq_false (by omega)]
    simp (disch := first | omega | assumption | exact S_wf (by assumption) _ | (simp; done) | (simp; omega)) [c116, decide_eq_true, decide_eq_false, if_pos, if_neg, hs, h1, h2]
  by_cases h3 : t.nonce < 0
  · rw [decide_eq_false (by omega)]
    simp (disch := first | omega | assumption | exact S_wf (by assumption) _ | (simp; done) | (simp; omega)) [c116, decide_eq_true, decide_eq_false, if_pos, if_neg, hs, h1, h2, h3]
  by_cases h4 : 1099511627776 < t.nonce
  · rw [decide_eq_false (by omega)]
    simp (disch := first | omega | assumption | exact S_wf (by assumption) _ | (simp; done) | (simp; omega)) [c116, decide_eq_true, decide_eq_false, if_pos, if_neg, hs, h1, h2, h3, h4]
  by_cases h5 : t.gas < 0
  · rw [decide_eq_false (by omega)]
    simp (disch := first | omega | assumption | exact S_wf (by assumption) _ | (simp; done) | (simp; omega)) [c116, decide_eq_true, decide_eq_false, if_pos, if_neg, hs, h1, h2, h3, h4, h5]
  by_cases h6 : 1073741824 < t.gas
  · rw [decide_eq_false (by omega)]
    simp (disch := first | omega | assumption | exact S_wf (by assumption) _ | (simp; done) | (simp; omega)) [c116, decide_eq_true, decide_eq_false, if_pos, if_neg, hs, h1, h2, h3, h4, h5, h6]
  by_cases h7 : t.cap.val < t.tip.val
  · rw [decide_eq_false (by omega)]
    have hcc := cmpN_gt h7
    simp (disch := first | omega | assumption | exact S_wf (by assumption) _ | (simp; done) | (simp; omega)) [c116, decide_eq_true, decide_eq_false, if_pos, if_neg, hs, h1, h2, h3, h4, h5, h6, hc, U_eta, hcc]
  have hcc : ¬ 0 < cmpN t.tip.val t.cap.val := by
    rcases Nat.lt_trichotomy t.tip.val t.cap.val with hh | hh | hh
    · rw [cmpN_lt hh]; omega
    · rw [cmpN_eq hh]; omega
    · omega
  by_cases h8 : fits t.hs t.bs = 0
  · rw [decide_eq_true (by omega), Bool.true_and]
    cases hcs : costT t with
    | none =>
      rw [hcs] at hco
      simp only [costV] at hco
      simp (disch := first | omega | assumption | exact S_wf (by assumption) _ | (simp; done) | (simp; omega)) [c116, decide_eq_true, decide_eq_false, if_pos, if_neg, hs, h1, h2, h3, h4, h5, h6, hc, U_eta, hcc, hf, h8, hco]
    | some x =>
      rw [hcs] at hco
      simp only [costV] at hco
      simp (disch := first | omega | assumption | exact S_wf (by assumption) _ | (simp; done) | (simp; omega)) [c116, decide_eq_true, decide_eq_false, if_pos, if_neg, hs, h1, h2, h3, h4, h5, h6, hc, U_eta, hcc, hf, h8, hco]
  · rw [decide_eq_false (by omega)]
    simp (disch := first | omega | assumption | exact S_wf (by assumption) _ | (simp; done) | (simp; omega)) [c116, decide_eq_true, decide_eq_false, if_pos, if_neg, hs, h1, h2, h3, h4, h5, h6, hc, U_eta, hcc, hf, h8]
theorem check_q (hK : Std ro K) {t : T} {h b : Value} {F : Fp} {s : St} (hs : WF s) (r : TR ro F s t h b) (pr : Option (List Nat)) : callK K (.func (.func 116) #[] #[]) [vT t h b] true pr s = some (vI (if okT t then 0 else 1), s) := by
  obtain ⟨s', h1⟩ := check_t hK t h b F (qs s) hs.q (r.mo (Mo.q F s))
  exact callq h1 rfl
theorem tcost_t (hK : Std ro K) (t : T) (h b : Value) (F : Fp) (s : St) (hs : WF s) (r : TR ro F s t h b) :
    ∃ s', K (.func (.func 177) #[] #[]) [vT t h b] s = some (if okT t then vUE ((costT t).getD U0) 0 else vUE U0 1, s') := by
  rw [go177 hK _ _ rfl]
  have hex := S_ex hs [some (txC t h b), some (cU U0)]
  have hs1 := hex.wf hs
  have hch := fun (pr : Option (List Nat)) => check_q hK hs1 (r.mo (hex.mo F)) pr
  have hco := fun (pr : Option (List Nat)) => cost_q hK hs1 (r.mo (hex.mo F)) pr
  by_cases hok : okT t = true
  · rw [if_pos hok] at hch ⊢
    have h2 : (costT t).isSome = true := by
      unfold okT at hok
      simp only [Bool.and_eq_true] at hok
      exact hok.2
    obtain ⟨x, hx⟩ := Option.isSome_iff_exists.1 h2
    rw [hx] at hco ⊢
    simp only [costV] at hco
    simp (disch := first | omega | assumption | exact S_wf (by assumption) _ | (simp; done) | (simp; omega)) [c177, decide_eq_true, decide_eq_false, if_pos, if_neg, hs, hch, hco]
  · rw [if_neg hok] at hch ⊢
    simp (disch := first | omega | assumption | exact S_wf (by assumption) _ | (simp; done) | (simp; omega)) [c177, decide_eq_true, decide_eq_false, if_pos, if_neg, hs, hch]
    trace_state
theorem tcost_q (hK : Std ro K) {t : T} {h b : Value} {F : Fp} {s : St} (hs : WF s) (r : TR ro F s t h b) (pr : Option (List Nat)) : callK K (.func (.func 177) #[] #[]) [vT t h b] true pr s = some (if okT t then vUE ((costT t).getD U0) 0 else vUE U0 1, s) := by
  obtain ⟨s', h1⟩ := tcost_t hK t h b F (qs s) hs.q (r.mo (Mo.q F s))
  exact callq h1 (by split <;> rfl)
end Go.Proofs.YtakdnpafdadblaaGreat.EV.W
namespace Go.Proofs.YtakdnpafdadblaaGreat.EV.W
open Go
set_option maxRecDepth 8000
set_option maxHeartbeats 1000000
variable {ro : Addr → Option Value} {K : H}
def Os {α : Type} (f : α → List Value) (sz : Nat) (s : St) (v : Value) (l : List α) : Prop :=
  (v = .slice none 0 0 ∧ l = []) ∨ ∃ k, v = .slice (some (own k 0)) l.length sz ∧ s.get k = some (l.flatMap f) ∧ s.may k = true
section
variable {α : Type} {f : α → List Value} {sz : Nat} {s s' : St} {v : Value} {l new : List α}
theorem flatMap_len (hf : ∀ x, (f x).length = sz) : ∀ l : List α, (l.flatMap f).length = l.length * sz
  | [] => by simp
  | x :: l => by rw [List.flatMap_cons, List.length_append, hf, flatMap_len hf l, List.length_cons, Nat.succ_mul]; omega
theorem Os.app (hf : ∀ x, (f x).length = sz) (hz : 0 < sz) (hz2 : sz ≤ 1024) (hs : WF s) (r : Os f sz s v l) (hn : 0 < new.length) (hb : l.length + new.length ≤ 4294967296) :
    ∃ a c s', v = .slice a l.length c ∧ appendTo s sz a l.length c (new.flatMap f) new.length = some (.slice (some (own s.n 0)) (l ++ new).length sz, s') ∧ Exd (Dv v) s s' ∧ Os f sz s' (.slice (some (own s.n 0)) (l ++ new).length sz) (l ++ new) ∧ s'.n = s.n + 1 := by
  rcases r with ⟨rfl, rfl⟩ | ⟨k, rfl, h3, hm⟩
  · refine ⟨none, 0, s.push (new.flatMap f), rfl, ?_, ?_, .inr ⟨s.n, rfl, St.get_push_new s _, hs.may (Nat.le_refl _)⟩, rfl⟩
    · unfold appendTo
      rw [if_neg (by simp only [List.length_nil] at hb ⊢; omega), if_neg (by omega), if_pos ⟨rfl, rfl⟩]
      simp
    · rw [push_eq]; exact (S_ex hs _).d _
  · have hkn := St.get_lt h3
    have he : Exd (Dv (.slice (some (own k 0)) l.length sz)) s ((s.put k none).push (l.flatMap f ++ new.flatMap f)) := by
      refine ⟨by simp, Nat.le_refl _, fun j hj hjk => ?_, rfl, rfl, rfl, rfl, by simp [St.push, St.put, hs.len]⟩
      rw [St.get_push_old _ _ (by simpa using hj), St.get_put_other _ _ (fun e => hjk ⟨l.length, sz, by subst e; rfl⟩) hkn]
    refine ⟨some (EV.own k 0), sz, (s.put k none).push (l.flatMap f ++ new.flatMap f), rfl, ?_, he, .inr ⟨s.n, rfl, ?_, ?_⟩, rfl⟩
    · unfold appendTo
      rw [if_neg (by omega), if_neg (by omega), if_neg (by omega)]
      simp only [EV.own]
      rw [if_pos ⟨hm, trivial⟩, h3]
      simp only [cut]
      rw [if_pos (by rw [flatMap_len hf]; omega), List.drop_zero, ← flatMap_len hf, List.take_length]
      simp
    · rw [List.flatMap_append]; exact St.get_push_new (s.put k none) _
    · rw [he.may]; exact hs.may (Nat.le_refl _)
theorem Os.exd {D : Nat → Prop} (r : Os f sz s v l) (h : Exd D s s') (hD : ∀ j, D j → ¬ Dv v j) : Os f sz s' v l := by
  rcases r with r | ⟨k, rfl, h3, hm⟩
  · exact .inl r
  · exact .inr ⟨k, rfl, (h.row k (St.get_lt h3) (fun hd => hD k hd ⟨_, _, rfl⟩)).trans h3, by rw [h.may]; exact hm⟩
theorem Os.ex (r : Os f sz s v l) (h : Ex s s') : Os f sz s' v l := r.exd (h.d (fun _ => False)) (fun _ h => h.elim)
theorem Os.lt (r : Os f sz s v l) : ∀ j, Dv v j → j < s.n := fun j ⟨n1, c1, hh⟩ => by
  rcases r with ⟨rfl, -⟩ | ⟨k, rfl, h3, hm⟩
  · cases hh
  · cases hh; exact St.get_lt h3
theorem Os.nil : Os f sz s (.slice none 0 0) ([] : List α) := .inl ⟨rfl, rfl⟩
theorem Os.len (r : Os f sz s v l) : ∃ a c, v = .slice a l.length c := by
  rcases r with ⟨rfl, rfl⟩ | ⟨k, rfl, h3, hm⟩
  · exact ⟨none, 0, rfl⟩
  · exact ⟨_, _, rfl⟩
theorem Os.sl {h : Sh α} {F : Fp} (hh : h.sz = sz) (hR : ∀ x ∈ l, h.R ro F s (f x) x) (r : Os f sz s v l) (hF : ∀ j, Dv v j → F j) : Sl h ro F s v l := by
  have hrows : ∀ l : List α, (∀ x ∈ l, h.R ro F s (f x) x) → Rows h ro F s (l.flatMap f) l := by
    intro l
    induction l with
    | nil => exact fun _ => .nil
    | cons x l ih => exact fun hR => .cons _ _ _ _ (hR x (by simp)) (ih (fun y hy => hR y (by simp [hy])))
  rcases r with ⟨rfl, rfl⟩ | ⟨k, rfl, h3, hm⟩
  · exact .nil
  · refine ⟨some (own k 0), sz, _, rfl, hrows l hR, (fun hh => by cases hh), fun b hb => ?_⟩
    cases hb
    have := RdA.own (ro := ro) (F := F) (hF k ⟨_, _, rfl⟩) h3 0 (l.flatMap f).length (by omega)
    rw [List.drop_zero, List.take_length] at this; exact this
end
abbrev cT (t : List UInt8) : List Value := [.bool false, Str t, .slice none 0 0]
abbrev txt (t : List UInt8) : Itm := .mk false t []
theorem amount_fv (hK : Std ro K) (x : U) : Fv K 233 [vU x] (.agg #[.bool false, Str (be x.val), .slice none 0 0]) := by
  intro s hs
  rw [go233 hK _ _ rfl]
  have ht := fun (a b c d : UInt64) (s : St) (hs : WF s) (pr : Option (List Nat)) => (text_fv hK ⟨a, b, c, d⟩).q (fun _ => rfl) hs (pr := pr)
  simp only [vU] at ht
  simp (disch := first | omega | assumption | exact S_wf (by assumption) _ | (simp; done) | (simp; omega)) [c233, hs, ht, U_eta]
theorem amount_q (hK : Std ro K) (a b c d : UInt64) {s : St} (hs : WF s) (pr : Option (List Nat)) : callK K (.func (.func 233) #[] #[]) [.agg #[v64 a, v64 b, v64 c, v64 d]] true pr s = some (.agg #[.bool false, Str (be (U.val ⟨a, b, c, d⟩)), .slice none 0 0], s) :=
  (amount_fv hK ⟨a, b, c, d⟩).q (fun _ => rfl) hs
theorem number_fv (hK : Std ro K) (n : Nat) (hn : n < 18446744073709551616) : Fv K 232 [vI n] (.agg #[.bool false, Str (be n), .slice none 0 0]) := by
  intro s hs
  rw [go232 hK _ _ rfl]
  have ha := fun (s : St) (hs : WF s) (pr : Option (List Nat)) => amount_q hK (UInt64.ofNat n) 0 0 0 hs pr
  rw [small_val n hn] at ha
  have e : ((n : Int) % 18446744073709551616).toNat = n := by omega
  simp (disch := first | omega | assumption | exact S_wf (by assumption) _ | (simp; done) | (simp; omega)) [c232, hs, ha, e]
theorem number_q (hK : Std ro K) (n : Int) (h0 : 0 ≤ n) (hn : n < 9223372036854775808) {s : St} (hs : WF s) (pr : Option (List Nat)) : callK K (.func (.func 232) #[] #[]) [vI n] true pr s = some (.agg #[.bool false, Str (be n.toNat), .slice none 0 0], s) := by
  have := (number_fv hK n.toNat (by omega)).q (fun _ => rfl) hs (pr := pr)
  rw [show ((n.toNat : Nat) : Int) = n by omega] at this
  exact this
theorem tb_loop (hK : Std ro K) (H : List UInt64) (B : List (List UInt8)) (hl : H.length = B.length) (h4 : B.length ≤ 4) (a1 a2 : Option Addr) (c1 c2 : Nat) (F : Fp) (kt k5 k6 : Nat) (s1 : St) (hs1 : WF s1) (hk5 : k5 < s1.n) (hk6 : k6 < s1.n) (h56 : k5 ≠ k6) (hm5 : s1.may k5 = true) (hm6 : s1.may k6 = true) (ht5 : kt ≠ k5) (ht6 : kt ≠ k6)
    (rt : List Value) (hrt : s1.get kt = some rt) (hcut : rt[19]? = some (.slice a1 H.length c1)) (hF : ∀ j, F j → j < s1.n ∧ j ≠ k5 ∧ j ≠ k6) (x5 y5 x6 y6 : Value) :
    ∀ (j i : Nat) (u : St) (v5 v6 : Value), Exd (fun j => j = k5 ∨ j = k6) s1 u → Sl sh64 ro F u (.slice a1 H.length c1) H → Sl shStr ro F u (.slice a2 B.length c2) B → i + j = B.length →
    u.get k5 = some [x5, y5, v5] → u.get k6 = some [x6, y6, v6] → Os cT 3 u v5 ((H.take i).map mtext) → Os cT 3 u v6 (B.take i) → (∀ j, Dv v5 j → s1.n ≤ j) → (∀ j, Dv v6 j → s1.n ≤ j ∧ ¬ Dv v5 j) →
    ∃ u' w5 w6, Exd (fun j => j = k5 ∨ j = k6) s1 u' ∧ u'.get k5 = some [x5, y5, w5] ∧ u'.get k6 = some [x6, y6, w6] ∧ Os cT 3 u' w5 (H.map mtext) ∧ Os cT 3 u' w6 B ∧
    ∀ k : List Fm, M ro K (.lop b169_0) (.bk 0 :: k) [(1, .pointer (some (EV.own kt 0))), (5, .pointer (some (EV.own k5 0))), (6, .pointer (some (EV.own k6 0))), (18, .slice a2 B.length c2), (19, vI B.length), (20, vI i)] u =
      Rk ro K .nrm k [(1, .pointer (some (EV.own kt 0))), (5, .pointer (some (EV.own k5 0))), (6, .pointer (some (EV.own k6 0))), (18, .slice a2 B.length c2), (19, vI B.length), (20, vI B.length), (21, .bool false)] u' := by
  intro j
  induction j with
  | zero =>
    intro i u v5 v6 he hs5 hs6 h g5 g6 o5 o6 d5 d6
    have : i = B.length := by omega
    subst this
    rw [List.take_of_length_le (by omega)] at o5
    rw [List.take_of_length_le (by omega)] at o6
    refine ⟨u, v5, v6, he, g5, g6, o5, o6, fun k => ?_⟩
    rw [M_lop]
    simp (disch := first | omega | assumption | exact S_wf (by assumption) _ | (simp; done) | (simp; omega)) [Mb _ _ b169_0.eq_1]
  | succ j ih =>
    intro i u v5 v6 he hs5 hs6 h g5 g6 o5 o6 d5 d6
    have hu := he.wf hs1
    have hun := he.n
    obtain ⟨b1, rfl, r1⟩ := Sl.at1 (fun i hi => hs5.at i hi) i (by omega)
    obtain ⟨b2, rfl, r2⟩ := Sl.at1 (fun i hi => hs6.at i hi) i (by omega)
    have gt : u.get kt = some rt := by
      rw [he.row kt (St.get_lt hrt) (by omega)]; exact hrt
    have hmt := fun (s : St) (hs : WF s) (pr : Option (List Nat)) => (mtext_fv hK H[i]).q (fun _ => rfl) hs (pr := pr)
    have hx := S_ex hu [some (cT (mtext H[i]))]
    have hu1 := hx.wf hu
    obtain ⟨a3, c3, s2, hv5, ha, he2, o5', hn2⟩ := Os.app (f := cT) (sz := 3) (l := (H.take i).map mtext) (new := [mtext H[i]]) (fun _ => rfl) (by decide) (by decide) hu1 (o5.ex hx) (by simp) (by simp only [List.length_map, List.length_take, List.length_cons, List.length_nil]; omega)
    simp only [List.flatMap_cons, List.flatMap_nil, List.append_nil, List.length_cons, List.length_nil, Nat.zero_add, S_n] at ha o5' hn2
    have hs2 := he2.wf hu1
    obtain ⟨w5, hw5⟩ : ∃ w5, w5 = Value.slice (some (EV.own (u.n + 1) 0)) (List.map mtext (List.take i H) ++ [mtext H[i]]).length 3 := ⟨_, rfl⟩
    rw [← hw5] at ha o5'
    have nd5 : ¬ Dv v5 k5 := fun hh => by have := d5 _ hh; omega
    have nd6 : ¬ Dv v5 k6 := fun hh => by have := d5 _ hh; omega
    have gk5 : s2.get k5 = some [x5, y5, v5] := by rw [he2.row k5 (by simp [S_n]; omega) nd5, S_old _ _ (by omega)]; exact g5
    have mk5 : s2.may k5 = true := by rw [he2.may, (hx.d (fun _ => False)).may, he.may]; exact hm5
    have hp5 := Exd.put hs2 gk5 (some [x5, y5, w5])
    obtain ⟨s3, hs3d⟩ : ∃ s3, s3 = s2.put k5 (some [x5, y5, w5]) := ⟨_, rfl⟩
    rw [← hs3d] at hp5
    have hs3 := hp5.wf hs2
    have dw5 : ∀ j, Dv w5 j → j = u.n + 1 := fun j ⟨n1, c1, hh⟩ => by rw [hw5] at hh; cases hh; rfl
    have o53 : Os cT 3 s3 w5 (List.map mtext (List.take i H) ++ [mtext H[i]]) := o5'.exd hp5 (fun j hj hd => by have := dw5 j hd; omega)
    have g53 : s3.get k5 = some [x5, y5, w5] := by rw [hs3d]; exact St.get_put_same gk5 _
    have e13 : Exd (fun j => j = k5 ∨ Dv v5 j) u s3 := ((hx.d (Dv v5)).trans (E := Dv v5) he2 (fun _ _ h => h) (fun _ _ h => h)).trans hp5 (fun _ _ h => .inr h) (fun _ _ h => .inl h)
    have hn3 := e13.n
    have o63 : Os cT 3 s3 v6 (B.take i) := o6.exd e13 (fun j hj hd => by
      have := d6 j hd
      rcases hj with hj | hj
      · omega
      · exact this.2 hj)
    have g63 : s3.get k6 = some [x6, y6, v6] := by rw [e13.row k6 (by omega) (by rintro (h | h); exact h56 h.symm; exact nd6 h)]; exact g6
    have hy := S_ex hs3 [some (cT B[i])]
    have hs3' := hy.wf hs3
    obtain ⟨a4, c4, s4, hv6, hb, he4, o6', hn4⟩ := Os.app (f := cT) (sz := 3) (l := B.take i) (new := [B[i]]) (fun _ => rfl) (by decide) (by decide) hs3' (o63.ex hy) (by simp) (by simp only [List.length_take, List.length_cons, List.length_nil]; omega)
    simp only [List.flatMap_cons, List.flatMap_nil, List.append_nil, List.length_cons, List.length_nil, Nat.zero_add, S_n] at hb o6' hn4
    have hs4 := he4.wf hs3'
    obtain ⟨w6, hw6⟩ : ∃ w6, w6 = Value.slice (some (EV.own (s3.n + 1) 0)) (List.take i B ++ [B[i]]).length 3 := ⟨_, rfl⟩
    rw [← hw6] at hb o6'
    have me5 : ¬ Dv v6 k5 := fun hh => by have := (d6 _ hh).1; omega
    have me6 : ¬ Dv v6 k6 := fun hh => by have := (d6 _ hh).1; omega
    have gk6 : s4.get k6 = some [x6, y6, v6] := by rw [he4.row k6 (by simp [S_n]; omega) me6, S_old _ _ (by omega)]; exact g63
    have mk6 : s4.may k6 = true := by rw [he4.may, (hy.d (fun _ => False)).may, e13.may, he.may]; exact hm6
    have hp6 := Exd.put hs4 gk6 (some [x6, y6, w6])
    obtain ⟨s5, hs5d⟩ : ∃ s5, s5 = s4.put k6 (some [x6, y6, w6]) := ⟨_, rfl⟩
    rw [← hs5d] at hp6
    have dw6 : ∀ j, Dv w6 j → j = s3.n + 1 := fun j ⟨n1, c1, hh⟩ => by rw [hw6] at hh; cases hh; rfl
    have e35 : Exd (fun j => j = k6 ∨ Dv v6 j) s3 s5 := ((hy.d (Dv v6)).trans (E := Dv v6) he4 (fun _ _ h => h) (fun _ _ h => h)).trans hp6 (fun _ _ h => .inr h) (fun _ _ h => .inl h)
    have s3n : s3.n = s2.n := by rw [hs3d]; rfl
    have o55 : Os cT 3 s5 w5 (List.map mtext (List.take i H) ++ [mtext H[i]]) := o53.exd e35 (fun j hj hd => by
      have h1 := dw5 j hd
      rcases hj with hj | hj
      · omega
      · have := o6.lt j hj; omega)
    have o65 : Os cT 3 s5 w6 (List.take i B ++ [B[i]]) := o6'.exd hp6 (fun j hj hd => by have := dw6 j hd; omega)
    have g55 : s5.get k5 = some [x5, y5, w5] := by rw [e35.row k5 (by omega) (by rintro (h | h); exact h56 h; exact me5 h)]; exact g53
    have g65 : s5.get k6 = some [x6, y6, w6] := by rw [hs5d]; exact St.get_put_same gk6 _
    have e15 : Exd (fun j => j = k5 ∨ j = k6) s1 s5 := (he.trans (E := fun j => j = k5 ∨ j = k6) (e13.trans (E := fun j => (j = k5 ∨ j = k6) ∨ s1.n ≤ j) e35 (fun j _ h => by rcases h with h | h; exact .inl (.inl h); exact .inr (d5 j h)) (fun j _ h => by rcases h with h | h; exact .inl (.inr h); exact .inr (d6 j h).1)) (fun _ _ h => h) (fun j hj h => by rcases h with h | h; exact h; omega))
    have hso : ∀ j, F j → ¬ (j = k5 ∨ j = k6) := fun j hj => by have := hF j hj; omega
    have keepF : Mo F u F s5 := ⟨by have := e35.n; omega, fun j hj hf => ⟨by rw [e15.row j (hF j hf).1 (hso j hf), he.row j (hF j hf).1 (hso j hf)], hf⟩⟩
    have ht5' : (H.take (i + 1)).map mtext = List.map mtext (List.take i H) ++ [mtext H[i]] := by rw [List.take_succ_eq_append_getElem (by omega), List.map_append]; rfl
    have ht6' : B.take (i + 1) = List.take i B ++ [B[i]] := List.take_succ_eq_append_getElem (by omega)
    obtain ⟨u', z5, z6, f1, f2, f3, f4, f5, f6⟩ := ih (i + 1) s5 w5 w6 e15 (hs5.mo keepF) (hs6.mo keepF) (by omega) g55 g65 (by rw [ht5']; exact o55) (by rw [ht6']; exact o65) (fun j hj => by have := dw5 j hj; omega) (fun j hj => by
      have h1 := dw6 j hj
      exact ⟨by omega, fun hh => by have := dw5 j hh; omega⟩)
    refine ⟨u', z5, z6, f1, f2, f3, f4, f5, fun k => ?_⟩
    rw [← f6 k, M_lop]
    subst hv5
    subst hv6
    have h20 : 20 ≤ rt.length := by
      have := (List.getElem?_eq_some_iff.1 hcut).1; omega
    have htd : List.take 1 (List.drop 19 rt) = [.slice (some b1) H.length c1] := by
      obtain ⟨h19, h19'⟩ := List.getElem?_eq_some_iff.1 hcut
      rw [List.drop_eq_getElem_cons h19, h19']; rfl
    have hl5 : (List.map mtext (List.take i H)).length = i := by simp; omega
    have hl6 : (List.take i B).length = i := by simp; omega
    have cw5 : cells w5 = [w5] := by rw [hw5]; rfl
    have pw5 : plainT w5 = true := by rw [hw5]; rfl
    have cw6 : cells w6 = [w6] := by rw [hw6]; rfl
    have pw6 : plainT w6 = true := by rw [hw6]; rfl
    rw [hl5] at ha
    rw [hl6] at hb
    simp only [EV.own] at ha hb ⊢
    simp (disch := first | omega | assumption | exact S_wf (by assumption) _ | (simp; done) | (simp; omega)) [Mb _ _ b169_0.eq_1, decide_eq_true, decide_eq_false, if_pos, if_neg, r1, r2, gt, h20, htd, hmt, wI, g5, rep, rdSl, ha, mk5, gk5, ← hs3d, g63, hs3, hb, mk6, gk6, ← hs5d, cw5, pw5, cw6, pw6]
def itemT (t : T) : Itm := .mk true [] [txt (be t.frm.toNat), txt (be t.nonce.toNat), txt (be t.tip.val), txt (be t.cap.val), txt (be t.bcap.val), txt (be t.value.val), txt (be t.gas.toNat), .mk true [] (t.hs.map fun h => txt (mtext h)), .mk true [] (t.bs.map txt)]
def bytesT (t : T) : List UInt8 := encI (itemT t)
def idT (t : T) : UInt64 := mark (bytesT t)
theorem longL_ok : ∀ (l : List Itm) (d m B : Nat), (∀ x ∈ l, ∃ q, q ≤ B ∧ longI x d = some q) → m + l.length * B ≤ 65536 → ∃ n, longL l d m = some n ∧ n ≤ m + l.length * B
  | [], d, m, B, _, _ => ⟨m, rfl, by simp⟩
  | x :: l, d, m, B, h, hb => by
    obtain ⟨q, hq, hx⟩ := h x (by simp)
    simp only [List.length_cons, Nat.succ_mul] at hb ⊢
    obtain ⟨n, h1, h2⟩ := longL_ok l d (m + q) B (fun y hy => h y (by simp [hy])) (by omega)
    refine ⟨n, ?_, by omega⟩
    rw [longL, hx]
    dsimp only
    rw [if_neg (by omega)]; exact h1
theorem txt_ok (t : List UInt8) (d : Nat) (h : t.length ≤ 64) : ∃ q, q ≤ 100 ∧ longI (txt t) d = some q := by
  rw [longI, if_neg (by simp; omega)]
  by_cases ha : aloneT t = true
  · rw [if_pos ha]; exact ⟨1, by omega, rfl⟩
  · rw [if_neg ha]
    have := ahead_le t.length (by omega)
    rw [if_pos (by omega)]
    exact ⟨_, by omega, rfl⟩
theorem lst_ok (l : List Itm) (d : Nat) (hd : d < 16) (h4 : l.length ≤ 9) (h : ∀ x ∈ l, ∃ q, q ≤ 700 ∧ longI x (d + 1) = some q) : ∃ q, q ≤ 6400 ∧ longI (.mk true [] l) d = some q := by
  obtain ⟨n, h1, h2⟩ := longL_ok l (d + 1) 0 700 h (by omega)
  rw [longI, if_neg (by simp; omega), h1]
  dsimp only
  have := ahead_le n (by omega)
  rw [if_pos (by omega)]
  exact ⟨_, by omega, rfl⟩
theorem be_le (n : Nat) (h : n < 2 ^ 256) : (be n).length ≤ 32 := by
  rw [be, beN_length]; exact be_len h
theorem okT_parts {t : T} (h : okT t = true) : 0 ≤ t.frm ∧ t.frm < 8 ∧ 0 ≤ t.nonce ∧ t.nonce ≤ 1099511627776 ∧ 0 ≤ t.gas ∧ t.gas ≤ 1073741824 ∧ t.tip.val ≤ t.cap.val ∧ fits t.hs t.bs = 0 := by
  unfold okT at h
  simp only [Bool.and_eq_true, decide_eq_true_eq] at h
  exact h.1
theorem fits_parts {H : List UInt64} {B : List (List UInt8)} (h : fits H B = 0) : 1 ≤ B.length ∧ B.length ≤ 4 ∧ H.length = B.length ∧ (∀ b ∈ B, b.length ≤ 64) ∧ H = B.map hashB := by
  unfold fits at h
  split at h
  · cases h
  · rename_i h1
    split at h
    · cases h
    · rename_i h2
      split at h
      · rename_i h3
        refine ⟨by omega, by omega, by omega, fun b hb => ?_, h3⟩
        rw [Bool.not_eq_true, List.any_eq_false] at h2
        have := h2 b hb
        simp at this; omega
      · cases h
theorem itemT_ok {t : T} (h : okT t = true) : (longI (itemT t) 0).isSome = true := by
  obtain ⟨h1, h2, h3, h4, h5, h6, h7, h8⟩ := okT_parts h
  obtain ⟨f1, f2, f3, f4, f5⟩ := fits_parts h8
  have hv := fun x : U => be_le x.val x.val_lt
  have hn := fun (n : Int) (hh : n < 2 ^ 256) => be_le n.toNat (by omega)
  have sm : ∀ t d, t.length ≤ 64 → ∃ q, q ≤ 700 ∧ longI (txt t) d = some q := fun t d ht => by
    obtain ⟨q, a, b⟩ := txt_ok t d ht; exact ⟨q, by omega, b⟩
  obtain ⟨q, _, hq⟩ : ∃ q, q ≤ 6400 ∧ longI (itemT t) 0 = some q := by
    refine lst_ok _ 0 (by omega) (by simp) (fun x hx => ?_)
    simp only [List.mem_cons, List.not_mem_nil, or_false] at hx
    rcases hx with rfl | rfl | rfl | rfl | rfl | rfl | rfl | rfl | rfl
    · exact sm _ _ (by have := hn t.frm (by omega); omega)
    · exact sm _ _ (by have := hn t.nonce (by omega); omega)
    · exact sm _ _ (by have := hv t.tip; omega)
    · exact sm _ _ (by have := hv t.cap; omega)
    · exact sm _ _ (by have := hv t.bcap; omega)
    · exact sm _ _ (by have := hv t.value; omega)
    · exact sm _ _ (by have := hn t.gas (by omega); omega)
    · obtain ⟨n, n1, n2⟩ := longL_ok (t.hs.map fun h => txt (mtext h)) 2 0 100 (fun x hx => by
        obtain ⟨y, -, rfl⟩ := List.mem_map.1 hx
        exact txt_ok _ _ (by rw [mtext, beN_length]; omega)) (by simp; omega)
      simp only [List.length_map] at n2
      have := ahead_le n (by omega)
      rw [longI, if_neg (by simp), n1]
      dsimp only
      rw [if_pos (by omega)]
      exact ⟨_, by omega, rfl⟩
    · obtain ⟨n, n1, n2⟩ := longL_ok (t.bs.map txt) 2 0 100 (fun x hx => by
        obtain ⟨y, hy, rfl⟩ := List.mem_map.1 hx
        exact txt_ok _ _ (f4 y hy)) (by simp; omega)
      simp only [List.length_map] at n2
      have := ahead_le n (by omega)
      rw [longI, if_neg (by simp), n1]
      dsimp only
      rw [if_pos (by omega)]
      exact ⟨_, by omega, rfl⟩
  rw [hq]; rfl
end Go.Proofs.YtakdnpafdadblaaGreat.EV.W
namespace Go.Proofs.YtakdnpafdadblaaGreat.EV.W
open Go
set_option maxRecDepth 8000
set_option maxHeartbeats 1000000
variable {ro : Addr → Option Value} {K : H}
theorem Os.txts {F : Fp} {s : St} {v : Value} {l : List (List UInt8)} (r : Os cT 3 s v l) (hF : ∀ j, Dv v j → F j) (n : Nat) : Sl (shIt (n + 1)) ro F s v (l.map txt) := by
  have r' : Os (fun x : Itm => [.bool x.list, Str x.text, .slice none 0 0]) 3 s v (l.map txt) := by
    rcases r with ⟨rfl, rfl⟩ | ⟨k, rfl, h3, hm⟩
    · exact .inl ⟨rfl, rfl⟩
    · refine .inr ⟨k, by simp, ?_, hm⟩
      rw [h3, List.flatMap_map]; rfl
  refine r'.sl (h := shIt (n + 1)) (shIt_sz _) (fun x hx => ?_) hF
  obtain ⟨t, -, rfl⟩ := List.mem_map.1 hx
  exact ⟨_, rfl, Sl.nil⟩
theorem R_txt {F : Fp} {s : St} (n : Nat) (t : List UInt8) : (shIt (n + 1)).R ro F s (cT t) (txt t) := ⟨_, rfl, Sl.nil⟩
theorem szL_map (l : List (List UInt8)) (B : Nat) (h : ∀ t ∈ l, t.length ≤ B) : szL (l.map txt) ≤ l.length * (B + 1) := by
  induction l with
  | nil => simp [szL]
  | cons t l ih =>
    have := h t (by simp)
    have := ih (fun t ht => h t (by simp [ht]))
    simp only [List.map_cons, szL, szI, List.length_cons, Nat.succ_mul]; omega
theorem bytes_t (hK : Std ro K) (t : T) (h b : Value) (F : Fp) (s : St) (hs : WF s) (r : TR ro F s t h b) :
    ∃ s', K (.func (.func 169) #[] #[]) [vT t h b] s = some (if okT t then .tuple #[Str (bytesT t), vI 0] else .tuple #[Str [], vI 1], s') := by
  rw [go169 hK _ _ rfl]
  have hex0 := S_ex hs [some (txC t h b)]
  have hch := fun (pr : Option (List Nat)) => check_q hK (hex0.wf hs) (r.mo (hex0.mo F)) pr
  by_cases hok : okT t = true
  · rw [if_pos hok] at hch ⊢
    obtain ⟨p1, p2, p3, p4, p5, p6, p7, p8⟩ := okT_parts hok
    obtain ⟨f1, f2, f3, f4, f5⟩ := fits_parts p8
    obtain ⟨a1, c1, rfl, -⟩ := r.hs.open
    obtain ⟨a2, c2, rfl, -⟩ := r.bs.open
    have hex := S_ex hs [some (txC t (.slice a1 t.hs.length c1) (.slice a2 t.bs.length c2)), some [.bool true, Str [], .slice none 0 0], some [.bool true, Str [], .slice none 0 0]]
    have hs1 := hex.wf hs
    have keep : Mo F s (fun j => F j ∧ j < s.n) (S s [some (txC t (.slice a1 t.hs.length c1) (.slice a2 t.bs.length c2)), some [.bool true, Str [], .slice none 0 0], some [.bool true, Str [], .slice none 0 0]]) := ⟨hex.n, fun j hj hF => ⟨hex.row j hj, hF, hj⟩⟩
    obtain ⟨u, w5, w6, e1, g5, g6, o5, o6, hlp⟩ := tb_loop hK t.hs t.bs f3 f2 a1 a2 c1 c2 (fun j => F j ∧ j < s.n) s.n (s.n + 1) (s.n + 2) _ hs1 (by simp [S_n]) (by simp [S_n]) (by omega) (S_may hs _ 1) (S_may hs _ 2) (by omega) (by omega)
      (txC t (.slice a1 t.hs.length c1) (.slice a2 t.bs.length c2)) (by rw [S_get0]; rfl) rfl (fun j hj => by simp [S_n]; omega) (.bool true) (Str []) (.bool true) (Str []) t.bs.length 0 _ (.slice none 0 0) (.slice none 0 0) ((Ex.refl hs1).d _) (r.hs.mo keep) (r.bs.mo keep) (by omega)
      (by rw [S_get]; rfl) (by rw [S_get]; rfl) (.inl ⟨rfl, rfl⟩) (.inl ⟨rfl, rfl⟩) (fun j ⟨n1, c1, hh⟩ => by cases hh) (fun j ⟨n1, c1, hh⟩ => by cases hh)
    simp only [show ((0 : Nat) : Int) = 0 from rfl, EV.own] at hlp
    have hu := e1.wf hs1
    have gt : u.get s.n = some (txC t (.slice a1 t.hs.length c1) (.slice a2 t.bs.length c2)) := by
      rw [e1.row s.n (by simp [S_n]) (by omega), S_get0]; rfl
    have hnum := fun (n : Int) (h0 : 0 ≤ n) (hn : n < 9223372036854775808) (s : St) (hs : WF s) (pr : Option (List Nat)) => number_q hK n h0 hn hs pr
    have hamt := fun (a b c d : UInt64) (s : St) (hs : WF s) (pr : Option (List Nat)) => amount_q hK a b c d hs pr
    have hrow : Rows (shIt 2) ro (fun _ => True) u (cT (be t.frm.toNat) ++ (cT (be t.nonce.toNat) ++ (cT (be t.tip.val) ++ (cT (be t.cap.val) ++ (cT (be t.bcap.val) ++ (cT (be t.value.val) ++ (cT (be t.gas.toNat) ++ ([.bool true, Str [], w5] ++ ([.bool true, Str [], w6] ++ []))))))))) (itemT t).items := by
      refine .cons _ _ _ _ (R_txt 1 _) (.cons _ _ _ _ (R_txt 1 _) (.cons _ _ _ _ (R_txt 1 _) (.cons _ _ _ _ (R_txt 1 _) (.cons _ _ _ _ (R_txt 1 _) (.cons _ _ _ _ (R_txt 1 _) (.cons _ _ _ _ (R_txt 1 _) (.cons _ _ _ _ ⟨_, rfl, ?_⟩ (.cons _ _ _ _ ⟨_, rfl, ?_⟩ .nil))))))))
      · have := o5.txts (ro := ro) (F := fun _ => True) (fun _ _ => trivial) 0
        simpa [Itm.items, Function.comp_def] using this
      · exact o6.txts (fun _ _ => trivial) 0
    simp only [cT, List.cons_append, List.nil_append] at hrow
    have hx2 := S_ex hu [some [.bool false, Str (be t.frm.toNat), .slice none 0 0, .bool false, Str (be t.nonce.toNat), .slice none 0 0, .bool false, Str (be t.tip.val), .slice none 0 0, .bool false, Str (be t.cap.val), .slice none 0 0, .bool false, Str (be t.bcap.val), .slice none 0 0, .bool false, Str (be t.value.val), .slice none 0 0, .bool false, Str (be t.gas.toNat), .slice none 0 0, .bool true, Str [], w5, .bool true, Str [], w6]]
    have hs2 := hx2.wf hu
    have hslI : Sl (shIt 2) ro (fun _ => True) (S u [some [.bool false, Str (be t.frm.toNat), .slice none 0 0, .bool false, Str (be t.nonce.toNat), .slice none 0 0, .bool false, Str (be t.tip.val), .slice none 0 0, .bool false, Str (be t.cap.val), .slice none 0 0, .bool false, Str (be t.bcap.val), .slice none 0 0, .bool false, Str (be t.value.val), .slice none 0 0, .bool false, Str (be t.gas.toNat), .slice none 0 0, .bool true, Str [], w5, .bool true, Str [], w6]])
        (.slice (some (EV.own u.n 0)) 9 3) (itemT t).items := by
      refine ⟨_, _, _, rfl, hrow.mo (hx2.mo _), (fun hh => by cases hh), fun b hb => ?_⟩
      cases hb
      have := RdA.own (ro := ro) (F := fun _ => True) (s := S u [some [.bool false, Str (be t.frm.toNat), .slice none 0 0, .bool false, Str (be t.nonce.toNat), .slice none 0 0, .bool false, Str (be t.tip.val), .slice none 0 0, .bool false, Str (be t.cap.val), .slice none 0 0, .bool false, Str (be t.bcap.val), .slice none 0 0, .bool false, Str (be t.value.val), .slice none 0 0, .bool false, Str (be t.gas.toNat), .slice none 0 0, .bool true, Str [], w5, .bool true, Str [], w6]]) (k := u.n) trivial (by rw [S_get0]; rfl) 0 27 (by simp)
      simpa using this
    have hz : szI (itemT t) < 4294967296 := by
      have hv := fun x : U => be_le x.val x.val_lt
      have hn := fun (n : Int) (hh : n < 2 ^ 256) => be_le n.toNat (by omega)
      have b1 := szL_map (t.hs.map mtext) 8 (fun x hx => by obtain ⟨y, -, rfl⟩ := List.mem_map.1 hx; rw [mtext, beN_length]; omega)
      have b2 := szL_map t.bs 64 (fun x hx => f4 x hx)
      simp only [List.map_map, List.length_map, Function.comp_def] at b1
      have := hv t.tip; have := hv t.cap; have := hv t.bcap; have := hv t.value
      have := hn t.frm (by omega); have := hn t.nonce (by omega); have := hn t.gas (by omega)
      simp only [itemT, szI, szL, List.length_nil]
      omega
    obtain ⟨s3, hb3⟩ := ibytes_fv hK (fun _ => True) 2 (itemT t) (qs (S u [some [.bool false, Str (be t.frm.toNat), .slice none 0 0, .bool false, Str (be t.nonce.toNat), .slice none 0 0, .bool false, Str (be t.tip.val), .slice none 0 0, .bool false, Str (be t.cap.val), .slice none 0 0, .bool false, Str (be t.bcap.val), .slice none 0 0, .bool false, Str (be t.value.val), .slice none 0 0, .bool false, Str (be t.gas.toNat), .slice none 0 0, .bool true, Str [], w5, .bool true, Str [], w6]])) _ hs2.q (hslI.mo (Mo.q _ _)) hz
    rw [if_pos (itemT_ok hok)] at hb3
    have hbq := fun pr => callq (pr := pr) hb3 rfl
    simp only [itemT, Itm.list, Itm.text, EV.own] at hbq
    have cw5 : cells w5 = [w5] := by obtain ⟨a, c, rfl⟩ := o5.len; rfl
    have pw5 : plainT w5 = true := by obtain ⟨a, c, rfl⟩ := o5.len; rfl
    have cw6 : cells w6 = [w6] := by obtain ⟨a, c, rfl⟩ := o6.len; rfl
    have pw6 : plainT w6 = true := by obtain ⟨a, c, rfl⟩ := o6.len; rfl
    simp (disch := first | omega | assumption | exact S_wf (by assumption) _ | (simp; done) | (simp; omega)) [c169, decide_eq_true, decide_eq_false, if_pos, if_neg, hs, hch, hlp, gt, hnum, hamt, U_eta, g5, g6, rep, hu, hbq, bytesT, itemT, cw5, pw5, cw6, pw6]
    trace_state
  · rw [if_neg hok] at hch ⊢
    simp (disch := first | omega | assumption | exact S_wf (by assumption) _ | (simp; done) | (simp; omega)) [c169, decide_eq_true, decide_eq_false, if_pos, if_neg, hs, hch]
theorem bytes_q (hK : Std ro K) {t : T} {h b : Value} {F : Fp} {s : St} (hs : WF s) (r : TR ro F s t h b) (pr : Option (List Nat)) : callK K (.func (.func 169) #[] #[]) [vT t h b] true pr s = some (if okT t then .tuple #[Str (bytesT t), vI 0] else .tuple #[Str [], vI 1], s) := by
  obtain ⟨s', h1⟩ := bytes_t hK t h b F (qs s) hs.q (r.mo (Mo.q F s))
  exact callq h1 (by split <;> rfl)
theorem bytesT_len {t : T} (h : okT t = true) : (bytesT t).length ≤ 65536 := by
  obtain ⟨q, hq⟩ := Option.isSome_iff_exists.1 (itemT_ok h)
  have := encI_len _ _ _ hq
  have := longI_le _ _ _ hq
  unfold bytesT; omega
theorem id_t (hK : Std ro K) (t : T) (h b : Value) (F : Fp) (s : St) (hs : WF s) (r : TR ro F s t h b) :
    ∃ s', K (.func (.func 89) #[] #[]) [vT t h b] s = some (if okT t then .tuple #[v64 (idT t), vI 0] else .tuple #[v64 0, vI 1], s') := by
  rw [go89 hK _ _ rfl]
  have hex0 := S_ex hs [some (txC t h b)]
  have hb := fun (pr : Option (List Nat)) => bytes_q hK (hex0.wf hs) (r.mo (hex0.mo F)) pr
  by_cases hok : okT t = true
  · rw [if_pos hok] at hb ⊢
    have hlen := bytesT_len hok
    have hm := fun (s : St) (hs : WF s) (pr : Option (List Nat)) => (mark_fv hK (bytesT t) (by omega)).q (fun _ => rfl) hs (pr := pr)
    simp (disch := first | omega | assumption | exact S_wf (by assumption) _ | (simp; done) | (simp; omega)) [c89, decide_eq_true, decide_eq_false, if_pos, if_neg, hs, hb, hm, idT]
  · rw [if_neg hok] at hb ⊢
    simp (disch := first | omega | assumption | exact S_wf (by assumption) _ | (simp; done) | (simp; omega)) [c89, decide_eq_true, decide_eq_false, if_pos, if_neg, hs, hb]
theorem id_q (hK : Std ro K) {t : T} {h b : Value} {F : Fp} {s : St} (hs : WF s) (r : TR ro F s t h b) (pr : Option (List Nat)) : callK K (.func (.func 89) #[] #[]) [vT t h b] true pr s = some (if okT t then .tuple #[v64 (idT t), vI 0] else .tuple #[v64 0, vI 1], s) := by
  obtain ⟨s', h1⟩ := id_t hK t h b F (qs s) hs.q (r.mo (Mo.q F s))
  exact callq h1 (by split <;> rfl)
end Go.Proofs.YtakdnpafdadblaaGreat.EV.W
namespace Go.Proofs.YtakdnpafdadblaaGreat.EV.W
open Go
set_option maxRecDepth 8000
set_option maxHeartbeats 1000000
variable {ro : Addr → Option Value} {K : H}
theorem rof_fv (hK : Std ro K) (n : Int) : Fv K 98 [vI n] (vU ⟨UInt64.ofNat (n % 18446744073709551616).toNat, 0, 0, 0⟩) := by
  intro s hs
  rw [go98 hK _ _ rfl]
  simp (disch := first | omega | assumption | exact S_wf (by assumption) _ | (simp; done) | (simp; omega)) [c98, hs]
theorem rof_q (hK : Std ro K) (n : Int) {s : St} (hs : WF s) (pr : Option (List Nat)) : callK K (.func (.func 98) #[] #[]) [vI n] true pr s = some (vU ⟨UInt64.ofNat (n % 18446744073709551616).toNat, 0, 0, 0⟩, s) :=
  (rof_fv hK n).q (fun _ => rfl) hs
def acr (x y c : UInt64) : UInt64 := if x + y + c < x + y then 1 else if x + y < x then 1 else 0
theorem acr_eq (x y c : UInt64) (hc : c.toNat ≤ 1) : acr x y c = ac x y c := by
  have hx := x.toNat_lt; have hy := y.toNat_lt
  unfold acr ac
  simp only [UInt64.lt_iff_toNat_lt, UInt64.toNat_add]
  split
  · rw [if_neg (by omega)]
  · split
    · rw [if_neg (by omega)]
    · rw [if_pos (by omega)]
theorem radd_step0 (s : St) (hs : WF s) (x y : U) (r2 : Option (List Value)) (c o0 o1 o2 o3 : UInt64) (k : List Fm) :
    M ro K (.lop b35_0) k [(2, .pointer (some (EV.own s.n 0))), (3, .pointer (some (EV.own (s.n + 1) 0))), (4, .pointer (some (EV.own (s.n + 2) 0))), (6, .pointer (some (EV.own (s.n + 3) 0))), (7, v64 c), (8, vI 0)] (S s [some (cU x), some (cU y), r2, some [v64 o0, v64 o1, v64 o2, v64 o3]]) =
    M ro K (.lop b35_0) k [(2, .pointer (some (EV.own s.n 0))), (3, .pointer (some (EV.own (s.n + 1) 0))), (4, .pointer (some (EV.own (s.n + 2) 0))), (6, .pointer (some (EV.own (s.n + 3) 0))), (7, v64 (acr x.a y.a c)), (8, vI 1)] (S s [some (cU x), some (cU y), r2, some [v64 (x.a + y.a + c), v64 o1, v64 o2, v64 o3]]) := by
  rw [M_lop]
  unfold acr
  by_cases h1 : x.a + y.a < x.a
  · by_cases h2 : x.a + y.a + c < x.a + y.a
    · simp (disch := first | omega | assumption | exact S_wf (by assumption) _ | (simp; done) | (simp; omega)) [Mb _ _ b35_0.eq_1, hs, wI, h1, h2]
    · simp (disch := first | omega | assumption | exact S_wf (by assumption) _ | (simp; done) | (simp; omega)) [Mb _ _ b35_0.eq_1, hs, wI, h1, h2]
  · by_cases h2 : x.a + y.a + c < x.a + y.a
    · simp (disch := first | omega | assumption | exact S_wf (by assumption) _ | (simp; done) | (simp; omega)) [Mb _ _ b35_0.eq_1, hs, wI, h1, h2]
    · simp (disch := first | omega | assumption | exact S_wf (by assumption) _ | (simp; done) | (simp; omega)) [Mb _ _ b35_0.eq_1, hs, wI, h1, h2]
theorem radd_step1 (s : St) (hs : WF s) (x y : U) (r2 : Option (List Value)) (c o0 o1 o2 o3 : UInt64) (k : List Fm) :
    M ro K (.lop b35_0) k [(2, .pointer (some (EV.own s.n 0))), (3, .pointer (some (EV.own (s.n + 1) 0))), (4, .pointer (some (EV.own (s.n + 2) 0))), (6, .pointer (some (EV.own (s.n + 3) 0))), (7, v64 c), (8, vI 1)] (S s [some (cU x), some (cU y), r2, some [v64 o0, v64 o1, v64 o2, v64 o3]]) =
    M ro K (.lop b35_0) k [(2, .pointer (some (EV.own s.n 0))), (3, .pointer (some (EV.own (s.n + 1) 0))), (4, .pointer (some (EV.own (s.n + 2) 0))), (6, .pointer (some (EV.own (s.n + 3) 0))), (7, v64 (acr x.b y.b c)), (8, vI 2)] (S s [some (cU x), some (cU y), r2, some [v64 o0, v64 (x.b + y.b + c), v64 o2, v64 o3]]) := by
  rw [M_lop]
  unfold acr
  by_cases h1 : x.b + y.b < x.b
  · by_cases h2 : x.b + y.b + c < x.b + y.b
    · simp (disch := first | omega | assumption | exact S_wf (by assumption) _ | (simp; done) | (simp; omega)) [Mb _ _ b35_0.eq_1, hs, wI, h1, h2]
    · simp (disch := first | omega | assumption | exact S_wf (by assumption) _ | (simp; done) | (simp; omega)) [Mb _ _ b35_0.eq_1, hs, wI, h1, h2]
  · by_cases h2 : x.b + y.b + c < x.b + y.b
    · simp (disch := first | omega | assumption | exact S_wf (by assumption) _ | (simp; done) | (simp; omega)) [Mb _ _ b35_0.eq_1, hs, wI, h1, h2]
    · simp (disch := first | omega | assumption | exact S_wf (by assumption) _ | (simp; done) | (simp; omega)) [Mb _ _ b35_0.eq_1, hs, wI, h1, h2]
theorem radd_step2 (s : St) (hs : WF s) (x y : U) (r2 : Option (List Value)) (c o0 o1 o2 o3 : UInt64) (k : List Fm) :
    M ro K (.lop b35_0) k [(2, .pointer (some (EV.own s.n 0))), (3, .pointer (some (EV.own (s.n + 1) 0))), (4, .pointer (some (EV.own (s.n + 2) 0))), (6, .pointer (some (EV.own (s.n + 3) 0))), (7, v64 c), (8, vI 2)] (S s [some (cU x), some (cU y), r2, some [v64 o0, v64 o1, v64 o2, v64 o3]]) =
    M ro K (.lop b35_0) k [(2, .pointer (some (EV.own s.n 0))), (3, .pointer (some (EV.own (s.n + 1) 0))), (4, .pointer (some (EV.own (s.n + 2) 0))), (6, .pointer (some (EV.own (s.n + 3) 0))), (7, v64 (acr x.c y.c c)), (8, vI 3)] (S s [some (cU x), some (cU y), r2, some [v64 o0, v64 o1, v64 (x.c + y.c + c), v64 o3]]) := by
  rw [M_lop]
  unfold acr
  by_cases h1 : x.c + y.c < x.c
  · by_cases h2 : x.c + y.c + c < x.c + y.c
    · simp (disch := first | omega | assumption | exact S_wf (by assumption) _ | (simp; done) | (simp; omega)) [Mb _ _ b35_0.eq_1, hs, wI, h1, h2]
    · simp (disch := first | omega | assumption | exact S_wf (by assumption) _ | (simp; done) | (simp; omega)) [Mb _ _ b35_0.eq_1, hs, wI, h1, h2]
  · by_cases h2 : x.c + y.c + c < x.c + y.c
    · simp (disch := first | omega | assumption | exact S_wf (by assumption) _ | (simp; done) | (simp; omega)) [Mb _ _ b35_0.eq_1, hs, wI, h1, h2]
    · simp (disch := first | omega | assumption | exact S_wf (by assumption) _ | (simp; done) | (simp; omega)) [Mb _ _ b35_0.eq_1, hs, wI, h1, h2]
theorem radd_step3 (s : St) (hs : WF s) (x y : U) (r2 : Option (List Value)) (c o0 o1 o2 o3 : UInt64) (k : List Fm) :
    M ro K (.lop b35_0) k [(2, .pointer (some (EV.own s.n 0))), (3, .pointer (some (EV.own (s.n + 1) 0))), (4, .pointer (some (EV.own (s.n + 2) 0))), (6, .pointer (some (EV.own (s.n + 3) 0))), (7, v64 c), (8, vI 3)] (S s [some (cU x), some (cU y), r2, some [v64 o0, v64 o1, v64 o2, v64 o3]]) =
    M ro K (.lop b35_0) k [(2, .pointer (some (EV.own s.n 0))), (3, .pointer (some (EV.own (s.n + 1) 0))), (4, .pointer (some (EV.own (s.n + 2) 0))), (6, .pointer (some (EV.own (s.n + 3) 0))), (7, v64 (acr x.d y.d c)), (8, vI 4)] (S s [some (cU x), some (cU y), r2, some [v64 o0, v64 o1, v64 o2, v64 (x.d + y.d + c)]]) := by
  rw [M_lop]
  unfold acr
  by_cases h1 : x.d + y.d < x.d
  · by_cases h2 : x.d + y.d + c < x.d + y.d
    · simp (disch := first | omega | assumption | exact S_wf (by assumption) _ | (simp; done) | (simp; omega)) [Mb _ _ b35_0.eq_1, hs, wI, h1, h2]
    · simp (disch := first | omega | assumption | exact S_wf (by assumption) _ | (simp; done) | (simp; omega)) [Mb _ _ b35_0.eq_1, hs, wI, h1, h2]
  · by_cases h2 : x.d + y.d + c < x.d + y.d
    · simp (disch := first | omega | assumption | exact S_wf (by assumption) _ | (simp; done) | (simp; omega)) [Mb _ _ b35_0.eq_1, hs, wI, h1, h2]
    · simp (disch := first | omega | assumption | exact S_wf (by assumption) _ | (simp; done) | (simp; omega)) [Mb _ _ b35_0.eq_1, hs, wI, h1, h2]
def addO (x y : U) : Value := if x.val + y.val < 2 ^ 256 then vUB (U.of (x.val + y.val)) true else vUB U0 false
theorem radd_fv (hK : Std ro K) (x y : U) : Fv K 35 [vU x, vU y] (addO x y) := by
  intro s hs
  rw [go35 hK _ _ rfl]
  unfold addO
  have q0 := fun k => radd_step0 (ro := ro) (K := K) s hs x y (some (cU U0)) 0 0 0 0 0 k
  have q1 := fun k => radd_step1 (ro := ro) (K := K) s hs x y (some (cU U0)) (acr x.a y.a 0) (x.a + y.a + 0) 0 0 0 k
  have q2 := fun k => radd_step2 (ro := ro) (K := K) s hs x y (some (cU U0)) (acr x.b y.b (acr x.a y.a 0)) (x.a + y.a + 0) (x.b + y.b + acr x.a y.a 0) 0 0 k
  have q3 := fun k => radd_step3 (ro := ro) (K := K) s hs x y (some (cU U0)) (acr x.c y.c (acr x.b y.b (acr x.a y.a 0))) (x.a + y.a + 0) (x.b + y.b + acr x.a y.a 0) (x.c + y.c + acr x.b y.b (acr x.a y.a 0)) 0 k
  have l0 := ac_le x.a y.a 0
  have l1 := ac_le x.b y.b (ac x.a y.a 0)
  have l2 := ac_le x.c y.c (ac x.b y.b (ac x.a y.a 0))
  rw [acr_eq x.a y.a 0 (by decide)] at q0 q1 q2 q3
  rw [acr_eq x.b y.b _ l0] at q1 q2 q3
  rw [acr_eq x.c y.c _ l1] at q2 q3
  rw [acr_eq x.d y.d _ l2] at q3
  have h1 := ac_val x.a y.a 0 (by decide)
  have h2 := ac_val x.b y.b _ l0
  have h3 := ac_val x.c y.c _ l1
  have h4 := ac_val x.d y.d _ l2
  have hend := fun (c o0 o1 o2 o3 : UInt64) (k : List Fm) => show M ro K (.lop b35_0) (.bk 0 :: k) [(2, .pointer (some (EV.own s.n 0))), (3, .pointer (some (EV.own (s.n + 1) 0))), (4, .pointer (some (EV.own (s.n + 2) 0))), (6, .pointer (some (EV.own (s.n + 3) 0))), (7, v64 c), (8, vI 4)] (S s [some (cU x), some (cU y), some (cU U0), some [v64 o0, v64 o1, v64 o2, v64 o3]]) =
    Rk ro K .nrm k [(2, .pointer (some (EV.own s.n 0))), (3, .pointer (some (EV.own (s.n + 1) 0))), (4, .pointer (some (EV.own (s.n + 2) 0))), (6, .pointer (some (EV.own (s.n + 3) 0))), (7, v64 c), (8, vI 4), (13, .bool false)] (S s [some (cU x), some (cU y), some (cU U0), some [v64 o0, v64 o1, v64 o2, v64 o3]]) from by
      rw [M_lop]; simp (disch := first | omega | assumption | exact S_wf (by assumption) _ | (simp; done) | (simp; omega)) [Mb _ _ b35_0.eq_1]
  simp only [EV.own, cU] at q0 q1 q2 q3 hend
  rw [show (0 : UInt64).toNat = 0 from rfl] at h1
  have hv : U.val ⟨x.a + y.a + 0, x.b + y.b + ac x.a y.a 0, x.c + y.c + ac x.b y.b (ac x.a y.a 0), x.d + y.d + ac x.c y.c (ac x.b y.b (ac x.a y.a 0))⟩ + 2 ^ 256 * (ac x.d y.d (ac x.c y.c (ac x.b y.b (ac x.a y.a 0)))).toNat = x.val + y.val := by
    simp only [U.val]; omega
  have hb := U.val_lt ⟨x.a + y.a + 0, x.b + y.b + ac x.a y.a 0, x.c + y.c + ac x.b y.b (ac x.a y.a 0), x.d + y.d + ac x.c y.c (ac x.b y.b (ac x.a y.a 0))⟩
  by_cases hc : 0 < ac x.d y.d (ac x.c y.c (ac x.b y.b (ac x.a y.a 0)))
  · have hc' := hc; rw [UInt64.lt_iff_toNat_lt] at hc'; rw [show (0 : UInt64).toNat = 0 from rfl] at hc'
    rw [if_neg (by omega)]
    simp only [UInt64.add_zero] at q0 q1 q2 q3
    simp (disch := first | omega | assumption | exact S_wf (by assumption) _ | (simp; done) | (simp; omega)) [c35, hs, q0, q1, q2, q3, hend, hc]
  · have hc' := hc; rw [UInt64.lt_iff_toNat_lt] at hc'; rw [show (0 : UInt64).toNat = 0 from rfl] at hc'
    have h0 : x.val + y.val = U.val ⟨x.a + y.a + 0, x.b + y.b + ac x.a y.a 0, x.c + y.c + ac x.b y.b (ac x.a y.a 0), x.d + y.d + ac x.c y.c (ac x.b y.b (ac x.a y.a 0))⟩ := by omega
    rw [if_pos (by omega), h0, U.of_val]
    simp only [UInt64.add_zero] at q0 q1 q2 q3
    simp (disch := first | omega | assumption | exact S_wf (by assumption) _ | (simp; done) | (simp; omega)) [c35, hs, q0, q1, q2, q3, hend, hc]
end Go.Proofs.YtakdnpafdadblaaGreat.EV.W
namespace Go.Proofs.YtakdnpafdadblaaGreat.EV.W
open Go
set_option maxRecDepth 8000
set_option maxHeartbeats 1000000
variable {ro : Addr → Option Value} {K : H}
def dg (x : U) (i : Nat) : UInt64 := UInt64.ofNat (x.val / 2 ^ (32 * i) % 4294967296)
theorem dg_nat (x : U) (i : Nat) : (dg x i).toNat = x.val / 2 ^ (32 * i) % 4294967296 := by
  unfold dg; rw [UInt64.toNat_ofNat', Nat.mod_eq_of_lt (by omega)]
theorem dg_lt (x : U) (i : Nat) : (dg x i).toNat < 4294967296 := by rw [dg_nat]; omega
theorem digit_fv (hK : Std ro K) (x : U) (i : Nat) (hi : i < 8) : Fv K 180 [vU x, vI i] (v64 (dg x i)) := by
  intro s hs
  rw [go180 hK _ _ rfl]
  have e : ∀ q, q < 4 → shrU (x.limb q) 0 &&& 4294967295 = dg x (2 * q) ∧ shrU (x.limb q) 32 &&& 4294967295 = dg x (2 * q + 1) := fun q hq => by
    have hl := limb_nat x hq
    constructor
    · apply UInt64.toNat.inj
      rw [and32, shrU_nat, hl, dg_nat, show min 0 64 = 0 from rfl, Nat.pow_zero, Nat.div_one, Nat.mod_mod_of_dvd _ (by decide), show 32 * (2 * q) = 64 * q by omega]
    · apply UInt64.toNat.inj
      rw [and32, shrU_nat, hl, dg_nat, show min 32 64 = 32 from rfl, show (2 : Nat) ^ 64 = 2 ^ 32 * 2 ^ 32 by decide, Nat.mod_mul_left_div_self, Nat.div_div_eq_div_mul, ← Nat.pow_add, show (4294967296 : Nat) = 2 ^ 32 from rfl, Nat.mod_mod, show 64 * q + 32 = 32 * (2 * q + 1) by omega]
  match i, hi with
  | 0, _ => have := (e 0 (by omega)).1; simp only [U.limb] at this; simp (disch := first | omega | assumption | exact S_wf (by assumption) _ | (simp; done) | (simp; omega)) [c180, hs, wI, this]
  | 1, _ => have := (e 0 (by omega)).2; simp only [U.limb] at this; simp (disch := first | omega | assumption | exact S_wf (by assumption) _ | (simp; done) | (simp; omega)) [c180, hs, wI, this]
  | 2, _ => have := (e 1 (by omega)).1; simp only [U.limb] at this; simp (disch := first | omega | assumption | exact S_wf (by assumption) _ | (simp; done) | (simp; omega)) [c180, hs, wI, this]
  | 3, _ => have := (e 1 (by omega)).2; simp only [U.limb] at this; simp (disch := first | omega | assumption | exact S_wf (by assumption) _ | (simp; done) | (simp; omega)) [c180, hs, wI, this]
  | 4, _ => have := (e 2 (by omega)).1; simp only [U.limb] at this; simp (disch := first | omega | assumption | exact S_wf (by assumption) _ | (simp; done) | (simp; omega)) [c180, hs, wI, this]
  | 5, _ => have := (e 2 (by omega)).2; simp only [U.limb] at this; simp (disch := first | omega | assumption | exact S_wf (by assumption) _ | (simp; done) | (simp; omega)) [c180, hs, wI, this]
  | 6, _ => have := (e 3 (by omega)).1; simp only [U.limb] at this; simp (disch := first | omega | assumption | exact S_wf (by assumption) _ | (simp; done) | (simp; omega)) [c180, hs, wI, this]
  | 7, _ => have := (e 3 (by omega)).2; simp only [U.limb] at this; simp (disch := first | omega | assumption | exact S_wf (by assumption) _ | (simp; done) | (simp; omega)) [c180, hs, wI, this]
theorem digit_q (hK : Std ro K) (a b c d : UInt64) (i : Nat) (hi : i < 8) {s : St} (hs : WF s) (pr : Option (List Nat)) : callK K (.func (.func 180) #[] #[]) [.agg #[v64 a, v64 b, v64 c, v64 d], vI i] true pr s = some (v64 (dg ⟨a, b, c, d⟩ i), s) :=
  (digit_fv hK ⟨a, b, c, d⟩ i hi).q (fun _ => rfl) hs
def V32 : List UInt64 → Nat
  | [] => 0
  | x :: l => x.toNat + 4294967296 * V32 l
theorem V32_set : ∀ (l : List UInt64) (p : Nat) (v : UInt64) (h : p < l.length), V32 (l.set p v) + l[p].toNat * 2 ^ (32 * p) = V32 l + v.toNat * 2 ^ (32 * p)
  | [], p, v, h => by simp at h
  | x :: l, 0, v, h => by simp [V32]; omega
  | x :: l, p + 1, v, h => by
    have hp : p < l.length := by simpa using h
    have := V32_set l p v hp
    simp only [List.set_cons_succ, V32, List.getElem_cons_succ]
    rw [show 32 * (p + 1) = 32 * p + 32 by omega, Nat.pow_add, ← Nat.mul_assoc, ← Nat.mul_assoc, show (2 : Nat) ^ 32 = 4294967296 from rfl]
    generalize (l[p]'hp).toNat * 2 ^ (32 * p) = A at *
    generalize v.toNat * 2 ^ (32 * p) = B at *
    omega
def inn (x : UInt64) (y : U) (i : Nat) : Nat → Nat → List UInt64 → UInt64 → List UInt64 × UInt64
  | 0, _, o, c => (o, c)
  | j + 1, k, o, c => inn x y i j (k + 1) (o.set (i + k) ((o.getD (i + k) 0 + x * dg y k + c) &&& 4294967295)) (shrU (o.getD (i + k) 0 + x * dg y k + c) 32)
theorem take1_map (l : List UInt64) (p : Nat) (h : p < l.length) : List.take 1 (List.drop p (l.map v64)) = [v64 (l.getD p 0)] := by
  rw [List.drop_eq_getElem_cons (by simpa using h)]
  simp [List.getD_eq_getElem?_getD, List.getElem?_eq_getElem h]
theorem rmul_inn (hK : Std ro K) (s : St) (hs : WF s) (x y : U) (r2 : Option (List Value)) (i : Nat) (hi : i < 8) (k : List Fm) : ∀ (j q : Nat) (o : List UInt64) (c : UInt64), q + j = 8 → o.length = 16 →
    M ro K (.lop b97_0) (.bk 2 :: k) [(2, .pointer (some (EV.own s.n 0))), (3, .pointer (some (EV.own (s.n + 1) 0))), (4, .pointer (some (EV.own (s.n + 2) 0))), (6, .pointer (some (EV.own (s.n + 3) 0))), (7, vI i), (8, v64 c), (9, vI q)] (S s [some (cU x), some (cU y), r2, some (o.map v64)]) =
    Rk ro K .nrm k [(2, .pointer (some (EV.own s.n 0))), (3, .pointer (some (EV.own (s.n + 1) 0))), (4, .pointer (some (EV.own (s.n + 2) 0))), (6, .pointer (some (EV.own (s.n + 3) 0))), (7, vI i), (8, v64 (inn (dg x i) y i j q o c).2), (9, vI 8), (18, .bool false)] (S s [some (cU x), some (cU y), r2, some ((inn (dg x i) y i j q o c).1.map v64)]) := by
  intro j
  induction j with
  | zero =>
    intro q o c h ho
    have : q = 8 := by omega
    subst this
    rw [M_lop]
    simp (disch := first | omega | assumption | exact S_wf (by assumption) _ | (simp; done) | (simp; omega)) [Mb _ _ b97_0.eq_1, inn]
  | succ j ih =>
    intro q o c h ho
    have hd := fun (a b c d : UInt64) (i : Nat) (hi : i < 8) (s : St) (hs : WF s) (pr : Option (List Nat)) => digit_q hK a b c d i hi hs pr
    rw [M_lop, inn, ← ih (q + 1) _ _ (by omega) (by simpa using ho)]
    have e1 : ((i : Int) + (q : Int)).toNat = i + q := by omega
    have t1 := take1_map o (i + q) (by omega)
    have lt : i + q < 16 := by omega
    simp (disch := first | omega | assumption | exact S_wf (by assumption) _ | (simp; done) | (simp; omega)) [Mb _ _ b97_0.eq_1, decide_eq_true, decide_eq_false, if_pos, if_neg, hs, wI, hd, U_eta, e1, t1, ho, List.map_set]
theorem rmul_out (hK : Std ro K) (s : St) (hs : WF s) (x y : U) (r2 : Option (List Value)) (k : List Fm) (i : Nat) (hi : i < 8) (o : List UInt64) (ho : o.length = 16) :
    M ro K (.lop b97_1) k [(2, .pointer (some (EV.own s.n 0))), (3, .pointer (some (EV.own (s.n + 1) 0))), (4, .pointer (some (EV.own (s.n + 2) 0))), (6, .pointer (some (EV.own (s.n + 3) 0))), (7, vI i)] (S s [some (cU x), some (cU y), r2, some (o.map v64)]) =
    M ro K (.lop b97_1) k [(2, .pointer (some (EV.own s.n 0))), (3, .pointer (some (EV.own (s.n + 1) 0))), (4, .pointer (some (EV.own (s.n + 2) 0))), (6, .pointer (some (EV.own (s.n + 3) 0))), (7, vI (i + 1 : Nat))] (S s [some (cU x), some (cU y), r2, some (((inn (dg x i) y i 8 0 o 0).1.set (i + 8) (inn (dg x i) y i 8 0 o 0).2).map v64)]) := by
  have hin := fun k => rmul_inn hK s hs x y r2 i hi k 8 0 o 0 (by omega) ho
  have hlen : (inn (dg x i) y i 8 0 o 0).1.length = 16 := by
    have : ∀ j q o c, (inn (dg x i) y i j q o c).1.length = o.length := by
      intro j
      induction j with
      | zero => intros; rfl
      | succ j ih => intro q o c; rw [inn, ih]; simp
    rw [this, ho]
  have e1 : ((i : Int) + 8).toNat = i + 8 := by omega
  simp only [EV.own, show ((0 : Nat) : Int) = 0 from rfl] at hin
  rw [M_lop]
  simp (disch := first | omega | assumption | exact S_wf (by assumption) _ | (simp; done) | (simp; omega)) [Mb _ _ b97_1.eq_1, decide_eq_true, decide_eq_false, if_pos, if_neg, hs, wI, hin, e1, hlen, List.map_set]
def D32 (o : List UInt64) : Prop := ∀ x ∈ o, x.toNat < 4294967296
theorem D32.set {o : List UInt64} (h : D32 o) (p : Nat) {v : UInt64} (hv : v.toNat < 4294967296) : D32 (o.set p v) := fun x hx => by
  rcases List.mem_or_eq_of_mem_set hx with hx | hx
  · exact h x hx
  · rw [hx]; exact hv
theorem D32.getD {o : List UInt64} (h : D32 o) (p : Nat) : (o.getD p 0).toNat < 4294967296 := by
  rw [List.getD_eq_getElem?_getD]
  cases hp : o[p]? with
  | none => simp
  | some x => exact h x (List.mem_of_getElem? hp)
theorem ydiv (y : U) (k : Nat) : y.val / 2 ^ (32 * k) = (dg y k).toNat + 4294967296 * (y.val / 2 ^ (32 * (k + 1))) := by
  rw [dg_nat, show 32 * (k + 1) = 32 * k + 32 by omega, Nat.pow_add, ← Nat.div_div_eq_div_mul, show (2 : Nat) ^ 32 = 4294967296 from rfl]
  omega
theorem inn_val (x : UInt64) (hx : x.toNat < 4294967296) (y : U) (i : Nat) : ∀ (j k : Nat) (o : List UInt64) (c : UInt64), k + j = 8 → D32 o → c.toNat < 4294967296 → i + 8 ≤ o.length →
    D32 (inn x y i j k o c).1 ∧ (inn x y i j k o c).2.toNat < 4294967296 ∧ (inn x y i j k o c).1.length = o.length ∧ (∀ p, i + 8 ≤ p → (inn x y i j k o c).1[p]? = o[p]?) ∧
    V32 (inn x y i j k o c).1 + (inn x y i j k o c).2.toNat * 2 ^ (32 * (i + 8)) = V32 o + (c.toNat + x.toNat * (y.val / 2 ^ (32 * k))) * 2 ^ (32 * (i + k)) := by
  intro j
  induction j with
  | zero =>
    intro k o c h ho hc hl
    have : k = 8 := by omega
    subst this
    have hy : y.val / 2 ^ (32 * 8) = 0 := Nat.div_eq_of_lt y.val_lt
    refine ⟨ho, hc, rfl, fun _ _ => rfl, ?_⟩
    rw [hy]; simp [inn]
  | succ j ih =>
    intro k o c h ho hc hl
    have hp : i + k < o.length := by omega
    have hd := dg_lt y k
    have ho1 := ho.getD (i + k)
    obtain ⟨t, ht⟩ : ∃ t, t = o.getD (i + k) 0 + x * dg y k + c := ⟨_, rfl⟩
    obtain ⟨m1, m2⟩ := mul_small hx hd
    have tn : t.toNat = (o.getD (i + k) 0).toNat + x.toNat * (dg y k).toNat + c.toNat := by
      have a1 : (o.getD (i + k) 0 + x * dg y k).toNat = (o.getD (i + k) 0).toNat + x.toNat * (dg y k).toNat := by rw [add_small (by rw [m1]; omega), m1]
      rw [ht, add_small (by rw [a1]; omega), a1]
    have tm : (t &&& 4294967295).toNat = t.toNat % 4294967296 := and32 t
    have tq : (shrU t 32).toNat = t.toNat / 4294967296 := shr32 t
    have htl := t.toNat_lt
    rw [inn, ← ht]
    obtain ⟨q1, q2, q3, q4, q5⟩ := ih (k + 1) (o.set (i + k) (t &&& 4294967295)) (shrU t 32) (by omega) (ho.set _ (by rw [tm]; omega)) (by rw [tq]; omega) (by simpa using hl)
    refine ⟨q1, q2, by simpa using q3, fun p hp => by rw [q4 p hp, List.getElem?_set_ne (by omega)], ?_⟩
    have vs := V32_set o (i + k) (t &&& 4294967295) hp
    have og : o[i + k] = o.getD (i + k) 0 := by simp [List.getD_eq_getElem?_getD, List.getElem?_eq_getElem hp]
    rw [og] at vs
    have yd := ydiv y k
    rw [q5, yd, tq]
    rw [tm] at vs
    have e3 : 2 ^ (32 * (i + (k + 1))) = 4294967296 * 2 ^ (32 * (i + k)) := by
      rw [show 32 * (i + (k + 1)) = 32 + 32 * (i + k) by omega, Nat.pow_add]
    rw [e3]
    have tt : t.toNat = t.toNat % 4294967296 + 4294967296 * (t.toNat / 4294967296) := by omega
    have tw := congrArg (· * 2 ^ (32 * (i + k))) (tn.symm.trans tt)
    generalize 2 ^ (32 * (i + k)) = W at *
    generalize y.val / 2 ^ (32 * (k + 1)) = Y1 at *
    generalize t.toNat % 4294967296 = r at *
    generalize t.toNat / 4294967296 = q at *
    generalize (o.getD (i + k) 0).toNat = a at *
    generalize (dg y k).toNat = d at *
    generalize x.toNat = xx at *
    generalize c.toNat = cc at *
    simp only [Nat.add_mul, Nat.mul_add, Nat.mul_assoc, Nat.mul_comm, Nat.mul_left_comm] at *
    omega
def outs (x y : U) : Nat → List UInt64
  | 0 => List.replicate 16 0
  | i + 1 => (inn (dg x i) y i 8 0 (outs x y i) 0).1.set (i + 8) (inn (dg x i) y i 8 0 (outs x y i) 0).2
theorem outs_val (x y : U) : ∀ i, i ≤ 8 → D32 (outs x y i) ∧ (outs x y i).length = 16 ∧ (∀ p, i + 8 ≤ p → (outs x y i).getD p 0 = 0) ∧ V32 (outs x y i) = (x.val % 2 ^ (32 * i)) * y.val
  | 0, _ => by
    refine ⟨fun x hx => ?_, by simp [outs], fun p hp => ?_, ?_⟩
    · rw [outs] at hx; rw [List.eq_of_mem_replicate hx]; decide
    · rw [outs, List.getD_eq_getElem?_getD, List.getElem?_replicate]; split <;> rfl
    · rw [outs, Nat.mul_zero, Nat.pow_zero, Nat.mod_one, Nat.zero_mul]; decide
  | i + 1, hi => by
    obtain ⟨h1, h2, h3, h4⟩ := outs_val x y i (by omega)
    obtain ⟨q1, q2, q3, q4, q5⟩ := inn_val (dg x i) (dg_lt x i) y i 8 0 (outs x y i) 0 (by omega) h1 (by decide) (by omega)
    have hl : (inn (dg x i) y i 8 0 (outs x y i) 0).1.length = 16 := by rw [q3, h2]
    have hp8 : i + 8 < (inn (dg x i) y i 8 0 (outs x y i) 0).1.length := by omega
    have z8 : (inn (dg x i) y i 8 0 (outs x y i) 0).1[i + 8] = 0 := by
      have a1 := q4 (i + 8) (by omega)
      have a2 := h3 (i + 8) (by omega)
      rw [List.getElem?_eq_getElem hp8] at a1
      rw [List.getD_eq_getElem?_getD, ← a1] at a2
      exact a2
    have vs := V32_set (inn (dg x i) y i 8 0 (outs x y i) 0).1 (i + 8) (inn (dg x i) y i 8 0 (outs x y i) 0).2 hp8
    refine ⟨q1.set _ q2, by rw [outs, List.length_set, hl], fun p hp => ?_, ?_⟩
    · rw [outs, List.getD_eq_getElem?_getD, List.getElem?_set_ne (by omega), q4 p (by omega), ← List.getD_eq_getElem?_getD]
      exact h3 p (by omega)
    · rw [outs]
      rw [z8, show (0 : UInt64).toNat = 0 from rfl, Nat.zero_mul, Nat.add_zero] at vs
      rw [vs, q5, h4]
      have xd : x.val % 2 ^ (32 * (i + 1)) = x.val % 2 ^ (32 * i) + (dg x i).toNat * 2 ^ (32 * i) := by
        rw [show 32 * (i + 1) = 32 * i + 32 by omega, Nat.pow_add, Nat.mod_mul, dg_nat, show (2 : Nat) ^ 32 = 4294967296 from rfl, Nat.mul_comm (2 ^ (32 * i))]
      rw [xd, show (0 : UInt64).toNat = 0 from rfl, Nat.mul_zero, Nat.pow_zero, Nat.div_one, Nat.zero_add, Nat.add_zero, Nat.add_mul, Nat.mul_right_comm]
theorem list16 {α : Type} {l : List α} (h : l.length = 16) : ∃ a0 a1 a2 a3 a4 a5 a6 a7 a8 a9 a10 a11 a12 a13 a14 a15, l = [a0, a1, a2, a3, a4, a5, a6, a7, a8, a9, a10, a11, a12, a13, a14, a15] := by
  match l, h with
  | [a0, a1, a2, a3, a4, a5, a6, a7, a8, a9, a10, a11, a12, a13, a14, a15], _ => exact ⟨a0, a1, a2, a3, a4, a5, a6, a7, a8, a9, a10, a11, a12, a13, a14, a15, rfl⟩
def mulO (x y : U) : Value := if x.val * y.val < 2 ^ 256 then vUB (U.of (x.val * y.val)) true else vUB U0 false
theorem two32 (a b : UInt64) (ha : a.toNat < 4294967296) (hb : b.toNat < 4294967296) : (0 ||| shlU a 0 ||| shlU b 32).toNat = a.toNat + 4294967296 * b.toNat := by
  have e1 : shlU a 0 = a := by
    apply UInt64.toNat.inj
    rw [shlU_nat, show min 0 64 = 0 from rfl, Nat.pow_zero, Nat.mul_one, Nat.mod_eq_of_lt (by omega)]
  have e2 : (shlU b 32).toNat = b.toNat * 4294967296 := by
    rw [shlU_nat, show min 32 64 = 32 from rfl, show (2 : Nat) ^ 32 = 4294967296 from rfl, Nat.mod_eq_of_lt (by omega)]
  rw [e1, UInt64.toNat_or, UInt64.toNat_or, e2, show (0 : UInt64).toNat = 0 from rfl, Nat.zero_or]
  have := Nat.two_pow_add_eq_or_of_lt (i := 32) (b := a.toNat) (by omega) b.toNat
  rw [Nat.or_comm, Nat.mul_comm, ← show (2 : Nat) ^ 32 = 4294967296 from rfl, ← this]; omega
theorem rmul_rows (hK : Std ro K) (s : St) (hs : WF s) (x y : U) (r2 : Option (List Value)) (k : List Fm) : ∀ (j i : Nat), i + j = 8 →
    M ro K (.lop b97_1) (.bk 0 :: k) [(2, .pointer (some (EV.own s.n 0))), (3, .pointer (some (EV.own (s.n + 1) 0))), (4, .pointer (some (EV.own (s.n + 2) 0))), (6, .pointer (some (EV.own (s.n + 3) 0))), (7, vI i)] (S s [some (cU x), some (cU y), r2, some ((outs x y i).map v64)]) =
    Rk ro K .nrm k [(2, .pointer (some (EV.own s.n 0))), (3, .pointer (some (EV.own (s.n + 1) 0))), (4, .pointer (some (EV.own (s.n + 2) 0))), (6, .pointer (some (EV.own (s.n + 3) 0))), (7, vI 8), (14, .bool false)] (S s [some (cU x), some (cU y), r2, some ((outs x y 8).map v64)]) := by
  intro j
  induction j with
  | zero =>
    intro i h
    have : i = 8 := by omega
    subst this
    rw [M_lop]
    simp (disch := first | omega | assumption | exact S_wf (by assumption) _ | (simp; done) | (simp; omega)) [Mb _ _ b97_1.eq_1]
  | succ j ih =>
    intro i h
    rw [rmul_out hK s hs x y r2 _ i (by omega) _ (outs_val x y i (by omega)).2.1]
    exact ih (i + 1) (by omega)
theorem join8 (n0 n1 n2 n3 n4 n5 n6 n7 R : Nat) : n0 + 4294967296 * (n1 + 4294967296 * (n2 + 4294967296 * (n3 + 4294967296 * (n4 + 4294967296 * (n5 + 4294967296 * (n6 + 4294967296 * (n7 + 4294967296 * R))))))) =
    (n0 + 4294967296 * n1) + 2 ^ 64 * ((n2 + 4294967296 * n3) + 2 ^ 64 * ((n4 + 4294967296 * n5) + 2 ^ 64 * (n6 + 4294967296 * n7))) + 2 ^ 256 * R := by omega
theorem tail8 (n0 n1 n2 n3 n4 n5 n6 n7 : Nat) (h : ¬ (n0 = 0 ∧ n1 = 0 ∧ n2 = 0 ∧ n3 = 0 ∧ n4 = 0 ∧ n5 = 0 ∧ n6 = 0 ∧ n7 = 0)) : 0 < n0 + 4294967296 * (n1 + 4294967296 * (n2 + 4294967296 * (n3 + 4294967296 * (n4 + 4294967296 * (n5 + 4294967296 * (n6 + 4294967296 * (n7 + 4294967296 * 0))))))) := by omega
theorem bigT {A R N : Nat} (h : 0 < R) (e : A + 2 ^ 256 * R = N) : ¬ N < 2 ^ 256 := by omega
theorem rmul_fv (hK : Std ro K) (x y : U) : Fv K 97 [vU x, vU y] (mulO x y) := by
  intro s hs
  rw [go97 hK _ _ rfl]
  have hrows := fun k => rmul_rows hK s hs x y (some (cU U0)) k 8 0 (by omega)
  obtain ⟨d1, d2, -, d4⟩ := outs_val x y 8 (by omega)
  obtain ⟨a0, a1, a2, a3, a4, a5, a6, a7, a8, a9, a10, a11, a12, a13, a14, a15, hl⟩ := list16 d2
  rw [hl] at hrows d1 d4
  simp only [EV.own, cU, outs, List.map_replicate, show ((0 : Nat) : Int) = 0 from rfl, List.replicate, List.map_cons, List.map_nil] at hrows
  have hx : x.val % 2 ^ (32 * 8) = x.val := Nat.mod_eq_of_lt x.val_lt
  rw [hx] at d4
  have hd : ∀ z ∈ [a0, a1, a2, a3, a4, a5, a6, a7, a8, a9, a10, a11, a12, a13, a14, a15], z.toNat < 4294967296 := d1
  simp only [List.mem_cons, List.not_mem_nil, or_false, forall_eq_or_imp, forall_eq] at hd
  obtain ⟨b0, b1, b2, b3, b4, b5, b6, b7, b8, b9, b10, b11, b12, b13, b14, b15⟩ := hd
  simp only [V32] at d4
  rw [join8] at d4
  unfold mulO
  by_cases hz : a8 = 0 ∧ a9 = 0 ∧ a10 = 0 ∧ a11 = 0 ∧ a12 = 0 ∧ a13 = 0 ∧ a14 = 0 ∧ a15 = 0
  · obtain ⟨rfl, rfl, rfl, rfl, rfl, rfl, rfl, rfl⟩ := hz
    have z0 : (0 : UInt64).toNat = 0 := rfl
    have hv : x.val * y.val = U.val ⟨0 ||| shlU a0 0 ||| shlU a1 32, 0 ||| shlU a2 0 ||| shlU a3 32, 0 ||| shlU a4 0 ||| shlU a5 32, 0 ||| shlU a6 0 ||| shlU a7 32⟩ := by
      simp only [z0, Nat.mul_zero, Nat.add_zero] at d4
      rw [← d4]
      simp only [U.val, two32 _ _ b0 b1, two32 _ _ b2 b3, two32 _ _ b4 b5, two32 _ _ b6 b7]
    rw [hv, if_pos (U.val_lt _), U.of_val]
    simp (disch := first | omega | assumption | exact S_wf (by assumption) _ | (simp; done) | (simp; omega)) [c97, hs, hrows, M_lop b97_2, Mb _ _ b97_2.eq_1, wI]
  · have z0 : (0 : UInt64).toNat = 0 := rfl
    have nz : ∀ z : UInt64, ¬ z = 0 → 0 < z.toNat := fun z h => ne0 h
    have nz' : ∀ z : UInt64, ¬ z = 0 → 0 < z := fun z h => by rw [UInt64.lt_iff_toNat_lt]; exact ne0 h
    have hge : ¬ x.val * y.val < 2 ^ 256 := by
      have h8 := tail8 a8.toNat a9.toNat a10.toNat a11.toNat a12.toNat a13.toNat a14.toNat a15.toNat (fun hh => hz (by
        obtain ⟨e0, e1, e2, e3, e4, e5, e6, e7⟩ := hh
        exact ⟨UInt64.toNat.inj e0, UInt64.toNat.inj e1, UInt64.toNat.inj e2, UInt64.toNat.inj e3, UInt64.toNat.inj e4, UInt64.toNat.inj e5, UInt64.toNat.inj e6, UInt64.toNat.inj e7⟩))
      exact bigT h8 d4
    rw [if_neg hge]
    clear hl d1 d4 hx hge
    by_cases ga8 : a8 = 0
    case neg => simp (disch := first | omega | assumption | exact S_wf (by assumption) _ | (simp; done) | (simp; omega)) [c97, hs, hrows, M_lop b97_2, Mb _ _ b97_2.eq_1, wI, nz' _ ga8]
    rw [ga8] at hrows
    by_cases ga9 : a9 = 0
    case neg => simp (disch := first | omega | assumption | exact S_wf (by assumption) _ | (simp; done) | (simp; omega)) [c97, hs, hrows, M_lop b97_2, Mb _ _ b97_2.eq_1, wI, nz' _ ga9]
    rw [ga9] at hrows
    by_cases ga10 : a10 = 0
    case neg => simp (disch := first | omega | assumption | exact S_wf (by assumption) _ | (simp; done) | (simp; omega)) [c97, hs, hrows, M_lop b97_2, Mb _ _ b97_2.eq_1, wI, nz' _ ga10]
    rw [ga10] at hrows
    by_cases ga11 : a11 = 0
    case neg => simp (disch := first | omega | assumption | exact S_wf (by assumption) _ | (simp; done) | (simp; omega)) [c97, hs, hrows, M_lop b97_2, Mb _ _ b97_2.eq_1, wI, nz' _ ga11]
    rw [ga11] at hrows
    by_cases ga12 : a12 = 0
    case neg => simp (disch := first | omega | assumption | exact S_wf (by assumption) _ | (simp; done) | (simp; omega)) [c97, hs, hrows, M_lop b97_2, Mb _ _ b97_2.eq_1, wI, nz' _ ga12]
    rw [ga12] at hrows
    by_cases ga13 : a13 = 0
    case neg => simp (disch := first | omega | assumption | exact S_wf (by assumption) _ | (simp; done) | (simp; omega)) [c97, hs, hrows, M_lop b97_2, Mb _ _ b97_2.eq_1, wI, nz' _ ga13]
    rw [ga13] at hrows
    by_cases ga14 : a14 = 0
    case neg => simp (disch := first | omega | assumption | exact S_wf (by assumption) _ | (simp; done) | (simp; omega)) [c97, hs, hrows, M_lop b97_2, Mb _ _ b97_2.eq_1, wI, nz' _ ga14]
    rw [ga14] at hrows
    have ga15 : ¬ a15 = 0 := fun h => hz ⟨ga8, ga9, ga10, ga11, ga12, ga13, ga14, h⟩
    simp (disch := first | omega | assumption | exact S_wf (by assumption) _ | (simp; done) | (simp; omega)) [c97, hs, hrows, M_lop b97_2, Mb _ _ b97_2.eq_1, wI, nz' _ ga15]
theorem rmul_q (hK : Std ro K) (a b c d e f g h : UInt64) {s : St} (hs : WF s) (pr : Option (List Nat)) : callK K (.func (.func 97) #[] #[]) [.agg #[v64 a, v64 b, v64 c, v64 d], .agg #[v64 e, v64 f, v64 g, v64 h]] true pr s = some (mulO ⟨a, b, c, d⟩ ⟨e, f, g, h⟩, s) :=
  (rmul_fv hK ⟨a, b, c, d⟩ ⟨e, f, g, h⟩).q (fun _ => by unfold mulO; split <;> rfl) hs
theorem radd_q (hK : Std ro K) (a b c d e f g h : UInt64) {s : St} (hs : WF s) (pr : Option (List Nat)) : callK K (.func (.func 35) #[] #[]) [.agg #[v64 a, v64 b, v64 c, v64 d], .agg #[v64 e, v64 f, v64 g, v64 h]] true pr s = some (addO ⟨a, b, c, d⟩ ⟨e, f, g, h⟩, s) :=
  (radd_fv hK ⟨a, b, c, d⟩ ⟨e, f, g, h⟩).q (fun _ => by unfold addO; split <;> rfl) hs
end Go.Proofs.YtakdnpafdadblaaGreat.EV.W
namespace Go.Proofs.YtakdnpafdadblaaGreat.EV.W
open Go
set_option maxRecDepth 8000
set_option maxHeartbeats 1000000
variable {ro : Addr → Option Value} {K : H}
end Go.Proofs.YtakdnpafdadblaaGreat.EV.W
namespace Go.Proofs.YtakdnpafdadblaaGreat.EV.W
open Go
set_option maxRecDepth 8000
set_option maxHeartbeats 1000000
variable {ro : Addr → Option Value} {K : H}
end Go.Proofs.YtakdnpafdadblaaGreat.EV.W
namespace Go.Proofs.YtakdnpafdadblaaGreat.EV.W
open Go
set_option maxRecDepth 8000
set_option maxHeartbeats 1000000
variable {ro : Addr → Option Value} {K : H}
theorem mulO_pos {x y : U} (h : x.val * y.val < 2 ^ 256) : mulO x y = vUB (U.of (x.val * y.val)) true := by unfold mulO; rw [if_pos h]
theorem mulO_neg {x y : U} (h : ¬ x.val * y.val < 2 ^ 256) : mulO x y = vUB U0 false := by unfold mulO; rw [if_neg h]
theorem addO_pos {x y : U} (h : x.val + y.val < 2 ^ 256) : addO x y = vUB (U.of (x.val + y.val)) true := by unfold addO; rw [if_pos h]
theorem addO_neg {x y : U} (h : ¬ x.val + y.val < 2 ^ 256) : addO x y = vUB U0 false := by unfold addO; rw [if_neg h]
theorem rcost_fv (hK : Std ro K) (t : T) (h b : Value) (F : Fp) (s : St) (hs : WF s) (r2 : Sl shStr ro F s b t.bs) (hl1 : 1 ≤ t.bs.length) (hl4 : t.bs.length ≤ 4) :
    ∃ s', K (.func (.func 34) #[] #[]) [vT t h b] s = some (costV (costT t), s') := by
  rw [go34 hK _ _ rfl]
  obtain ⟨a2, c2, rfl, o2⟩ := r2.open
  unfold costT
  rw [if_neg (by omega)]
  obtain ⟨g, hgd⟩ : ∃ g, g = (t.gas % 18446744073709551616).toNat := ⟨_, rfl⟩
  obtain ⟨n, hnd⟩ : ∃ n, n = t.bs.length * 131072 := ⟨_, rfl⟩
  have hgl : g < 18446744073709551616 := by omega
  have hnl : n < 18446744073709551616 := by omega
  have hn2 : (131072 * (t.bs.length : Int) % 18446744073709551616).toNat = n := by omega
  rw [← hgd, ← hnd]
  have hm := fun (a b c d e f g h : UInt64) (s : St) (hs : WF s) (pr : Option (List Nat)) => rmul_q hK a b c d e f g h hs pr
  have ha := fun (a b c d e f g h : UInt64) (s : St) (hs : WF s) (pr : Option (List Nat)) => radd_q hK a b c d e f g h hs pr
  have ho := fun (n : Int) (s : St) (hs : WF s) (pr : Option (List Nat)) => rof_q hK n hs pr
  have hgv := small_val g hgl
  have hnv := small_val n hnl
  have q1 := @mulO_pos t.cap ⟨UInt64.ofNat g, 0, 0, 0⟩
  have r1 := @mulO_neg t.cap ⟨UInt64.ofNat g, 0, 0, 0⟩
  have q2 := @mulO_pos t.bcap ⟨UInt64.ofNat n, 0, 0, 0⟩
  have r2 := @mulO_neg t.bcap ⟨UInt64.ofNat n, 0, 0, 0⟩
  rw [hgv] at q1 r1
  rw [hnv] at q2 r2
  simp only [vU] at ho
  by_cases p1 : t.cap.val * g < 2 ^ 256
  · have q1 := q1 p1
    by_cases p2 : t.bcap.val * n < 2 ^ 256
    · have q2 := q2 p2
      have q3 := @addO_pos (U.of (t.cap.val * g)) (U.of (t.bcap.val * n))
      have r3 := @addO_neg (U.of (t.cap.val * g)) (U.of (t.bcap.val * n))
      rw [U.val_of p1, U.val_of p2] at q3 r3
      by_cases p3 : t.cap.val * g + t.bcap.val * n < 2 ^ 256
      · have q3 := q3 p3
        have q4 := @addO_pos (U.of (t.cap.val * g + t.bcap.val * n)) t.value
        have r4 := @addO_neg (U.of (t.cap.val * g + t.bcap.val * n)) t.value
        rw [U.val_of p3] at q4 r4
        by_cases p4 : t.cap.val * g + t.bcap.val * n + t.value.val < 2 ^ 256
        · have q4 := q4 p4
          rw [if_neg (by omega), if_neg (by omega), if_neg (by omega), if_neg (by omega)]
          simp (disch := first | omega | assumption | exact S_wf (by assumption) _ | (simp; done) | (simp; omega)) [c34, decide_eq_true, decide_eq_false, if_pos, if_neg, hs, hm, ha, ho, hn2, ← hgd, U_eta, q1, q2, q3, q4, wI, costV]
        · have q4 := r4 p4
          rw [if_neg (by omega), if_neg (by omega), if_neg (by omega), if_pos (by omega)]
          simp (disch := first | omega | assumption | exact S_wf (by assumption) _ | (simp; done) | (simp; omega)) [c34, decide_eq_true, decide_eq_false, if_pos, if_neg, hs, hm, ha, ho, hn2, ← hgd, U_eta, q1, q2, q3, q4, wI, costV]
      · have q3 := r3 p3
        rw [if_neg (by omega), if_neg (by omega), if_pos (by omega)]
        simp (disch := first | omega | assumption | exact S_wf (by assumption) _ | (simp; done) | (simp; omega)) [c34, decide_eq_true, decide_eq_false, if_pos, if_neg, hs, hm, ha, ho, hn2, ← hgd, U_eta, q1, q2, q3, wI, costV]
    · have q2 := r2 p2
      rw [if_neg (by omega), if_pos (by omega)]
      simp (disch := first | omega | assumption | exact S_wf (by assumption) _ | (simp; done) | (simp; omega)) [c34, decide_eq_true, decide_eq_false, if_pos, if_neg, hs, hm, ha, ho, hn2, ← hgd, U_eta, q1, q2, wI, costV]
  · have q1 := r1 p1
    rw [if_pos (by omega)]
    by_cases p2 : t.bcap.val * n < 2 ^ 256
    · have q2 := q2 p2
      simp (disch := first | omega | assumption | exact S_wf (by assumption) _ | (simp; done) | (simp; omega)) [c34, decide_eq_true, decide_eq_false, if_pos, if_neg, hs, hm, ha, ho, hn2, ← hgd, U_eta, q1, q2, wI, costV]
    · have q2 := r2 p2
      simp (disch := first | omega | assumption | exact S_wf (by assumption) _ | (simp; done) | (simp; omega)) [c34, decide_eq_true, decide_eq_false, if_pos, if_neg, hs, hm, ha, ho, hn2, ← hgd, U_eta, q1, q2, wI, costV]
theorem rcost_q (hK : Std ro K) {t : T} {h b : Value} {F : Fp} {s : St} (hs : WF s) (r : TR ro F s t h b) (hl1 : 1 ≤ t.bs.length) (hl4 : t.bs.length ≤ 4) (pr : Option (List Nat)) : callK K (.func (.func 34) #[] #[]) [vT t h b] true pr s = some (costV (costT t), s) := by
  obtain ⟨s', h1⟩ := rcost_fv hK t h b F (qs s) hs.q (r.bs.mo (Mo.q F s)) hl1 hl4
  exact callq h1 (by cases costT t <;> rfl)
end Go.Proofs.YtakdnpafdadblaaGreat.EV.W
namespace Go.Proofs.YtakdnpafdadblaaGreat.EV.W
open Go
set_option maxRecDepth 8000
set_option maxHeartbeats 1000000
variable {ro : Addr → Option Value} {K : H}
end Go.Proofs.YtakdnpafdadblaaGreat.EV.W
namespace Go.Proofs.YtakdnpafdadblaaGreat.EV.W
open Go
set_option maxRecDepth 8000
set_option maxHeartbeats 1000000
variable {ro : Addr → Option Value} {K : H}
def shelfN (n : Nat) : Nat := if n ≤ 112 then 0 else if n ≤ 240 then 1 else if n ≤ 496 then 2 else 3
def roomT (t : T) : Nat := 128 * 2 ^ shelfN (bytesT t).length
theorem ahead3 {n : Nat} (h : n < 65536) : ahead n ≤ 3 := by
  unfold ahead
  split
  · omega
  · have : (be n).length ≤ 2 := by
      rw [be, beN_length]
      have := (bl_le n 16).2 (by omega)
      omega
    omega
theorem enc_txt (t : List UInt8) (B : Nat) (h : t.length ≤ B) (hB : B < 65536) : (encI (txt t)).length ≤ B + 3 := by
  rw [encI]
  split
  · omega
  · rw [List.length_append, frontB_len]
    have := ahead3 (n := t.length) (by omega)
    omega
theorem encL_map (l : List (List UInt8)) (B : Nat) (h : ∀ t ∈ l, t.length ≤ B) (hB : B < 65536) : (encL (l.map txt)).length ≤ l.length * (B + 3) := by
  induction l with
  | nil => simp [encL]
  | cons t l ih =>
    have := enc_txt t B (h t (by simp)) hB
    have := ih (fun t ht => h t (by simp [ht]))
    simp only [List.map_cons, encL, List.length_append, List.length_cons, Nat.succ_mul]; omega
theorem enc_lst (l : List Itm) (B : Nat) (h : (encL l).length ≤ B) (hB : B < 65536) : (encI (.mk true [] l)).length ≤ B + 3 := by
  rw [encI, List.length_append, frontB_len]
  have := ahead3 (n := (encL l).length) (by omega)
  omega
theorem bytesT_le {t : T} (hok : okT t = true) : (bytesT t).length ≤ 1008 := by
  obtain ⟨p1, p2, p3, p4, p5, p6, p7, p8⟩ := okT_parts hok
  obtain ⟨f1, f2, f3, f4, f5⟩ := fits_parts p8
  have hv := fun x : U => enc_txt _ 32 (be_le x.val x.val_lt) (by omega)
  have hn := fun (n : Int) (hh : n < 2 ^ 256) => enc_txt _ 32 (be_le n.toNat (by omega)) (by omega)
  have b1 := encL_map (t.hs.map mtext) 8 (fun x hx => by obtain ⟨y, -, rfl⟩ := List.mem_map.1 hx; rw [mtext, beN_length]; omega) (by omega)
  have b2 := encL_map t.bs 64 (fun x hx => f4 x hx) (by omega)
  simp only [List.map_map, List.length_map, Function.comp_def] at b1
  have b3 := enc_lst _ 44 (Nat.le_trans b1 (by omega)) (by omega)
  have b4 := enc_lst _ 268 (Nat.le_trans b2 (by omega)) (by omega)
  have := hv t.tip; have := hv t.cap; have := hv t.bcap; have := hv t.value
  have := hn t.frm (by omega); have := hn t.nonce (by omega); have := hn t.gas (by omega)
  refine enc_lst _ 1005 ?_ (by omega)
  simp only [encL, List.length_append, List.length_nil]
  omega
theorem shelfN_lt (n : Nat) : shelfN n < 4 := by unfold shelfN; repeat' split
                                                 all_goals omega
end Go.Proofs.YtakdnpafdadblaaGreat.EV.W
namespace Go.Proofs.YtakdnpafdadblaaGreat.EV.W
open Go
set_option maxRecDepth 8000
set_option maxHeartbeats 1000000
variable {ro : Addr → Option Value} {K : H}
theorem callq_own {f : Value} {as : List Value} {pr : Option (List Nat)} {s s' : St} {v : Value} (hk : K f as (qs s) = some (v, s')) (he : Ex (qs s) s') (hs : WF s) :
    ∃ s'', callK K f as true pr s = some (v, s'') ∧ Ex s s'' ∧ ∀ (w : Value), (clean s.n v = true → clean0 s.n w = true) → ∀ {α : Type} (h : Sh α) (l : List α), Ow h ro (Fresh s.n) s' w l → Ow h ro (Fresh s.n) s'' w l := by
  cases hc : clean s.n v with
  | true =>
    refine ⟨s, callq hk hc, Ex.refl hs, fun w hw α h l r => ?_⟩
    rcases r with ⟨rfl, rfl⟩ | ⟨k, cs, rfl, h2, h3, h4⟩
    · exact .nil
    · have h1 := hw rfl
      simp only [clean0, cleanA, EV.own, decide_eq_true_eq] at h1
      exact absurd h2 (Nat.not_le.2 (of_decide_eq_true h1))
  | false =>
    refine ⟨_, callq_keep hk hc, he.unq, fun w hw α h l r => r.mo ⟨Nat.le_refl _, fun j _ hF => ⟨rfl, hF⟩⟩⟩
theorem Ow.appendN {α : Type} {h : Sh α} {s0 s s2 : St} {v : Value} {l l' : List α} {new : List Value} (hs0 : WF s0) (he : Ex s0 s) (r : Ow h ro (Fresh s0.n) s v l) (he2 : Ex s s2) (hnew : Rows h ro (Fresh s.n) s2 new l') (hl' : 0 < l'.length) (hb : l.length + l'.length ≤ 4294967296) (hz : h.sz ≤ 1024) :
    ∃ a c v' s', v = .slice a l.length c ∧ appendTo s2 h.sz a l.length c new l'.length = some (v', s') ∧ Ex s0 s' ∧ Ow h ro (Fresh s0.n) s' v' (l ++ l') := by
  have hs := he.wf hs0
  have hn := he.n
  have hlt : ∀ b, v = .slice (some (EV.own b 0)) l.length h.sz → b < s.n := fun b hb => by
    rcases r with ⟨hh, -⟩ | ⟨k, cs, hh, h2, h3, h4⟩
    · rw [hh] at hb; cases hb
    · rw [hh] at hb; cases hb; exact St.get_lt h3
  obtain ⟨a, c, v', s', h1, h2, h3, h4, -, -⟩ := Ow.append (new := new) (l' := l') hs0 (he.trans he2) (r.mo (he2.mo _)) (hnew.mo (Mo.weak _ fun j hj => ⟨by simp only [Fresh] at hj; omega, fun b hb => by have := hlt b hb; simp only [Fresh] at hj; omega⟩)) hl' hb hz
  exact ⟨a, c, v', s', h1, h2, h3, h4⟩
theorem Ow.len {α : Type} {h : Sh α} {F : Fp} {s : St} {v : Value} {l : List α} (r : Ow h ro F s v l) : ∃ a c, v = .slice a l.length c := by
  rcases r with ⟨rfl, rfl⟩ | ⟨k, cs, rfl, -⟩
  · exact ⟨none, 0, rfl⟩
  · exact ⟨_, _, rfl⟩
theorem Ow.cells {α : Type} {h : Sh α} {F : Fp} {s : St} {v : Value} {l : List α} (r : Ow h ro F s v l) : EV.cells v = [v] ∧ plainT v = true := by
  obtain ⟨a, c, rfl⟩ := r.len
  exact ⟨rfl, rfl⟩
theorem Rows.map {α : Type} {h h' : Sh α} {F F' : Fp} {s : St} (hR : ∀ c x, h.R ro F s c x → h'.R ro F' s c x) {cs : List Value} {l : List α} (r : Rows h ro F s cs l) : Rows h' ro F' s cs l := by
  induction r with
  | nil => exact .nil
  | cons c cs x l hc hl ih => exact .cons _ _ _ _ (hR _ _ hc) ih
def shTxO : Sh T where
  sz := 21
  pos := by decide
  R := fun ro F s c t => ∃ h b, c = txC t h b ∧ Ow sh64 ro F s h t.hs ∧ Ow shStr ro F s b t.bs
  len := fun h => by obtain ⟨h, b, rfl, _⟩ := h; rfl
  mo := fun h m => by obtain ⟨h, b, rfl, h1, h2⟩ := h; exact ⟨h, b, rfl, h1.mo m, h2.mo m⟩
def shHeldO : Sh Held where
  sz := 22
  pos := by decide
  R := fun ro F s c x => ∃ h b, c = txC x.tx h b ++ [vI x.block] ∧ Ow sh64 ro F s h x.tx.hs ∧ Ow shStr ro F s b x.tx.bs
  len := fun h => by obtain ⟨h, b, rfl, _⟩ := h; rfl
  mo := fun h m => by obtain ⟨h, b, rfl, h1, h2⟩ := h; exact ⟨h, b, rfl, h1.mo m, h2.mo m⟩
theorem Ow.txs {F : Fp} {s : St} {v : Value} {l : List T} (r : Ow shTxO ro F s v l) : Sl shTx ro F s v l := by
  obtain ⟨a, c, cs, h1, h2, h3, h4⟩ := r.sl
  exact ⟨a, c, cs, h1, Rows.map (h := shTxO) (h' := shTx) (F := F) (F' := F) (fun c x hh => by obtain ⟨h, b, e, q1, q2⟩ := hh; exact ⟨h, b, e, q1.sl, q2.sl⟩) h2, h3, h4⟩
theorem Ow.helds {F : Fp} {s : St} {v : Value} {l : List Held} (r : Ow shHeldO ro F s v l) : Sl shHeld ro F s v l := by
  obtain ⟨a, c, cs, h1, h2, h3, h4⟩ := r.sl
  exact ⟨a, c, cs, h1, Rows.map (h := shHeldO) (h' := shHeld) (F := F) (F' := F) (fun c x hh => by obtain ⟨h, b, e, q1, q2⟩ := hh; exact ⟨h, b, e, q1.sl, q2.sl⟩) h2, h3, h4⟩
abbrev Sm (t : T) : Prop := ∀ b ∈ t.bs, b.length < 1048576
theorem Sl.atT {F : Fp} {s : St} {a : Option Addr} {n c : Nat} {L : List T} (r : Sl shTx ro F s (.slice a n c) L) (hsm : ∀ t ∈ L, Sm t) (i : Nat) (hi : i < L.length) :
    ∃ b h bb, a = some b ∧ rdAt ro s (shift b (i * 21)) 21 = some (txC L[i] h bb) ∧ TR ro F s L[i] h bb := by
  obtain ⟨b, hb, cs, ⟨h, bb, rfl, h1, h2⟩, h3⟩ := r.at i hi
  refine ⟨b, h, bb, hb, ?_, h1, h2, hsm _ (by simp)⟩
  have := h3.rd 21 (by simp)
  simpa [shTx] using this
theorem Sl.atA {F : Fp} {s : St} {a : Option Addr} {n c : Nat} {L : List Acct} (r : Sl shAcct ro F s (.slice a n c) L) (i : Nat) (hi : i < L.length) :
    ∃ b, a = some b ∧ RdA ro F s (shift b (i * 5)) [vI L[i].nonce, v64 L[i].bal.a, v64 L[i].bal.b, v64 L[i].bal.c, v64 L[i].bal.d] := by
  obtain ⟨b, hb, cs, h1, h3⟩ := r.at i hi
  refine ⟨b, hb, ?_⟩
  simp only [shAcct] at h1 h3
  rw [h1] at h3
  exact h3
theorem Sl.atH {F : Fp} {s : St} {a : Option Addr} {n c : Nat} {L : List Held} (r : Sl shHeld ro F s (.slice a n c) L) (hsm : ∀ x ∈ L, Sm x.tx) (i : Nat) (hi : i < L.length) :
    ∃ b h bb, a = some b ∧ RdA ro F s (shift b (i * 22)) (txC L[i].tx h bb ++ [vI L[i].block]) ∧ TR ro F s L[i].tx h bb := by
  obtain ⟨b, hb, cs, ⟨h, bb, rfl, h1, h2⟩, h3⟩ := r.at i hi
  exact ⟨b, h, bb, hb, h3, h1, h2, hsm _ (by simp)⟩
theorem Sl.len {α : Type} {h : Sh α} {F : Fp} {s : St} {v : Value} {l : List α} (r : Sl h ro F s v l) : ∃ a c, v = .slice a l.length c := by
  obtain ⟨a, c, h1, -⟩ := r.open
  exact ⟨a, c, h1⟩
theorem Sl.cells {α : Type} {h : Sh α} {F : Fp} {s : St} {v : Value} {l : List α} (r : Sl h ro F s v l) : EV.cells v = [v] ∧ plainT v = true := by
  obtain ⟨a, c, rfl⟩ := r.len
  exact ⟨rfl, rfl⟩
end Go.Proofs.YtakdnpafdadblaaGreat.EV.W
namespace Go.Proofs.YtakdnpafdadblaaGreat.EV.W
open Go
set_option maxRecDepth 8000
set_option maxHeartbeats 1000000
variable {ro : Addr → Option Value} {K : H}
end Go.Proofs.YtakdnpafdadblaaGreat.EV.W
