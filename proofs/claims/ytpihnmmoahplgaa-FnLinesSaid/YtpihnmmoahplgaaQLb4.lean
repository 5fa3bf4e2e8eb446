import Derived.Test.YtpihnmmoahplgaaQLb3
namespace Go.Proofs.Ytpihnmmoahplgaa.PAll
open Go.RowKit Go.Proofs.YtpihnmmoahplgaaW.PrintWords Go.Proofs.YtpihnmmoahplgaaW.PrintLast Go.Proofs.YtpihnmmoahplgaaW.PrintMore
attribute [local go_sem] Go.Proofs.Ytpihnmmoahplgaa.Aux.setCell_drewN Go.Proofs.Ytpihnmmoahplgaa.Aux.isSome_setCell Go.Proofs.Ytpihnmmoahplgaa.Aux.max_eight bq bo cG cF ba bZ bp bm
set_option linter.unusedVariables false
set_option linter.unusedSimpArgs false
attribute [local go_sem high] eqA25 eqA28
set_option maxHeartbeats 8000000 in
set_option maxRecDepth 100000 in
noncomputable def laws_FnLines.cut4:PSigma fun P:Prop=>PSigma fun R:Prop=>aA P→aA R→(laws_FnLines.cut3.1):=by
 apply PSigma.mk
 apply PSigma.mk
 ·
  intro hcutP hcutQ
  conv=>whnf
  intro k A0 c0 l0 r w hu28 hu25 HR0 HC0 A2 t725 t726 t727 t728 t729 t730 A4 t733 t736 A5 t737 t740 A6 _ gb731 GW731 GE731 gb732 LT731_732 GW732 GE732 hnb11 w17 v738 kj6 HJ6 _ _ _ _ x11_2 k2 HK2 t749 t750 t751 t752 t753 t754 t755 A43 t759 t760 t761 t762 A44 t764 t765 t766 t767 A45 Ao47 co47 HO739 HO735 gb756 LT731_756 LT732_756 GW756 GE756 gb757 LT731_757 LT732_757 LT756_757 GW757 GE757 gb758 LT731_758 LT732_758 LT756_758 LT757_758 GW758 GE758 hnb52 hnb53 hnb54 hnb55 hnb57 hnb58 hnb59 hnb61 hnb62 gb763 LT731_763 LT732_763 LT756_763 LT757_763 LT758_763 GW763 GE763 hnb66 hnb67 hnb68 hnb69 hnb70 gb768 w76 LT731_768 LT732_768 LT756_768 LT757_768 LT758_768 LT763_768 GW768 GE768 HO_7 hnb77 hnb78 hnb79 hnb80 hnb81 hnb82 kj45 HJ45 _ _ _ _ _ _ _ _ _ _ _ _ _ _ _ _ _ _ _ _ _ _ _ _ _ _ _ _ _ _ _ _ _ _ _ _ _ _ _ _ _ _ _ _ _ _ _ _ _ _ _ _ _ _ _ _ _ _ _ _ _ _ _ _ _ _ _ _ _ _ _ _ _ _ _ _ _ _ _ _ _ _ _ _ _ _ _ _ _ _ _ _ _ _ _ _ _ _ _ _ _ _ _ _ _ _ _ _ _ _ _ _ _ _ _ _ _ _ _ _ _ _ _ _ _ _ _ _ _ _ _ _ _ _ _ _ _ _ _ _ _ _ _ _ _ _ _ _ _ _ _ _ _ _ _ _ _ _ _ _ _ _ _ _ _ _ _ _ _ _ _ _ _ _ _ _ _ _ _ _ _ _ _ _ _ _ _ _ _ _ _ _ _ _ _ _ _ _ _ _ _ _ _ _ _ _ _ _ _ _ _ _ _ _ _ _ _ _ _ _ _ _ _ _ _ _ _ _ _ _ _ _ _ _ _ _ _ _ _ _ _ _ _ _ _ _ _ _ _ _ _ _ _ _ _ _ _ _ _ _ _ _ _ _ _ _ _ _ _ _ _ _ _ _ _ _ _ _ _ _ _ _ _ kj98 HJ98 t780 t781 t782 t783 t784 t785 t786 t787 t788 A158 t793 t794 A159 t795 t796 A160 t797 t798 t799 A161 t801 t802 t803 A162 gb789 LT731_789 LT732_789 LT756_789 LT757_789 LT758_789 LT763_789 LT768_789 GW789 GE789 gb790 LT731_790 LT732_790 LT756_790 LT757_790 LT758_790 LT763_790 LT768_790 LT789_790 GW790 GE790 gb791 LT731_791 LT732_791 LT756_791 LT757_791 LT758_791 LT763_791 LT768_791 LT789_791 LT790_791 GW791 GE791 gb792 LT731_792 LT732_792 LT756_792 LT757_792 LT758_792 LT763_792 LT768_792 LT789_792 LT790_792 LT791_792 GW792 GE792 hnb169 hnb170 hnb171 hnb172 hnb173 hnb174 hnb175 hnb176 hnb177 hnb178 hnb180 hnb181 hnb182 hnb183 hnb184 hnb185 hnb186 hnb187 hnb188 hnb190 hnb191 hnb192 hnb193 hnb194 hnb195 hnb196 hnb197 hnb199 hnb200 hnb201 hnb202 hnb203 hnb204 hnb205 gb800 LT731_800 LT732_800 LT756_800 LT757_800 LT758_800 LT763_800 LT768_800 LT789_800 LT790_800 LT791_800 LT792_800 GW800 GE800 hnb219 hnb220 hnb221 hnb222 hnb223 hnb224 hnb225 hnb226 hnb227 hnb228 hnb229 gb804 w236 LT731_804 LT732_804 LT756_804 LT757_804 LT758_804 LT763_804 LT768_804 LT789_804 LT790_804 LT791_804 LT792_804 LT800_804 BK804 GW804 GE804 BK731 BK732 BK756 BK757 BK758 BK763 BK768 BK789 BK790 BK791 BK792 BK800 HB hnb237 hnb238 hnb239 hnb240 hnb241 hnb242 hnb243 hnb244 hnb245 hnb246 hnb247 hnb248 _ _ _ _ wc _ _ _ _ _ _ _ _ _ _ _ _ _ _ _ _ _ _ hcut
  obtain ⟨kq,x294_162,rfl,HA,HJ162,BK731,BK732,BK756,BK757,BK758,BK763,BK768,BK789,BK790,BK791,BK792,BK800,BK804,HB⟩:=hcut
  cases kq with
  | zero=>exact absurd HA.out (by simp [laws_FnLines.j5])
  | succ kj162=>
   have H:=HA.out
   clear HA
   simp only [laws_FnLines.j5] at H
   by_cases c278:x294_162=true
   ·
    subst c278
    rw [if_pos rfl] at H
    try dsimp only at H
    exact absurd H (by simp)
   replace c278:=Bool.eq_false_iff.mpr c278
   subst c278
   rw [if_neg (show ¬ (false=true) by decide)] at H
   try dsimp only at H
   have HC279:=aA.mk H
   clear H
   go_upto_if 296 with (fail)
   go_cut [] (fun wc=>∃ (kq:Nat),aA (laws_FnLines.j7 kq l0=some r)∧aA (kq≤kj162)∧aA (wc.heap[gb731]?=some (.cells #[.int .i64 t726,.int .i64 t727] 28 (0,0)))∧aA (wc.heap[gb732]?=some (.cells #[.int .i64 t728,.int .i64 t729] 28 (0,0)))∧aA (wc.heap[gb756]?=some (.cells #[.int .i64 t750,.int .i64 t751] 28 (0,0)))∧aA (wc.heap[gb757]?=some (.cells #[.int .i64 t752,.int .i64 t753] 28 (0,0)))∧aA (wc.heap[gb758]?=some (.cells #[.int .i64 t754,.int .i64 t755] 28 (0,0)))∧aA (wc.heap[gb763]?=some (.cells #[.int .i64 t759,.int .i64 t760,.int .i64 t761] 25 (0,0)))∧aA (wc.heap[gb768]?=some (.cells #[.int .i64 t764,.int .i64 t765,.int .i64 t766] 25 (0,0)))∧aA (wc.heap[gb789]?=some (.cells #[.int .i64 t781,.int .i64 t782] 28 (0,0)))∧aA (wc.heap[gb790]?=some (.cells #[.int .i64 t783,.int .i64 t784] 28 (0,0)))∧aA (wc.heap[gb791]?=some (.cells #[.int .i64 t785,.int .i64 t786] 28 (0,0)))∧aA (wc.heap[gb792]?=some (.cells #[.int .i64 t787,.int .i64 t788] 28 (0,0)))∧aA (wc.heap[gb800]?=some (.cells #[.int .i64 t797,.int .i64 t798] 28 (0,0)))∧aA (wc.heap[gb804]?=some (.cells #[.int .i64 t801,.int .i64 t802] 28 (0,0)))∧aA (Below w.heap.size w wc))
   case first=>
    expose_names
    clear BK804_1 BK731_1 BK732_1 BK756_1 BK757_1 BK758_1 BK763_1 BK768_1 BK789_1 BK790_1 BK791_1 BK792_1 BK800_1 HB_1 h
    revert k A0 c0 l0 r w hu28 hu25 t725 t726 t727 t728 t729 t730 t733 t736 t737 t740 gb731 gb732 w17 v738 kj6 u12 u13 u14 u15 x11_2 k2 t749 t750 t751 t752 t753 t754 t755 t759 t760 t761 t762 t764 t765 t766 t767 Ao47 co47 gb756 gb757 gb758 gb763 gb768 w76 kj45 u2 u24 u25 u26 u27 u28 u29 u30 u31 u60 u61 u62 u63 u64 u65 u66 u67 u68 u69 u70 u71 u72 u73 u74 u75 u76 u77 u78 u79 u80 u81 u82 u83 u84 u85 u86 u87 u88 u89 u90 u91 u92 u93 u94 u95 u96 u97 u98 u99 u100 u101 u102 u103 u104 u105 u106 u107 u108 u109 u110 u111 u112 u113 u114 u115 u116 u117 u118 u119 u120 u121 u122 u123 u124 u125 u126 u127 u128 u129 u130 u131 u132 u133 u134 u135 u136 u137 u138 u139 u140 u141 u142 u143 u144 u145 u146 u147 u148 u149 u150 u151 u152 u153 u154 u155 u156 u157 u158 u159 u160 u161 u162 u163 u164 u165 u166 u167 u168 u169 u170 u171 u172 u173 u174 u175 u176 u177 u178 u179 u180 u181 u182 u183 u184 u185 u186 u187 u188 u189 u190 u191 u192 u193 u194 u195 u196 u197 u198 u199 u200 u201 u202 u203 u204 u205 u206 u207 u208 u209 u210 u211 u212 u213 u214 u215 u216 u217 u218 u219 u220 u221 u222 u223 u224 u225 u226 u227 u228 u229 u230 u231 u232 u233 u234 u297 u298 u299 u300 u301 u302 u303 u304 u305 u306 u307 u308 u309 u310 u311 u312 u313 u314 u315 u316 u317 u318 u319 u320 u321 u322 u323 u324 u325 u326 u327 u328 u329 u330 u331 u332 u333 u334 u335 u336 u337 u338 u339 u340 u341 u342 u343 u344 u345 u346 u347 u348 u349 u350 u351 u352 u353 u354 u355 u356 u357 u358 u359 u360 u361 u362 u363 u364 u365 u366 u367 u368 u369 u370 u371 u372 u373 u374 u375 u376 u377 u378 u379 u380 u381 u382 u383 u384 u385 u386 u387 u388 u389 u390 u391 u392 u393 kj98 t780 t781 t782 t783 t784 t785 t786 t787 t788 t793 t794 t795 t796 t797 t798 t799 t801 t802 t803 gb789 gb790 gb791 gb792 gb800 gb804 wc u277 u278 u279 u280 u281 u282 u283 u284 u285 u286 u287 u288 u289 u290 u291 u292 u293 kj162 J K'
    exact hcutP.out
   case rest=>
    expose_names
    clear BK804_1 BK731_1 BK732_1 BK756_1 BK757_1 BK758_1 BK763_1 BK768_1 BK789_1 BK790_1 BK791_1 BK792_1 BK800_1 HB_1 HC279
    revert k A0 c0 l0 r w hu28 hu25 t725 t726 t727 t728 t729 t730 t733 t736 t737 t740 gb731 gb732 w17 v738 kj6 u12 u13 u14 u15 x11_2 k2 t749 t750 t751 t752 t753 t754 t755 t759 t760 t761 t762 t764 t765 t766 t767 Ao47 co47 gb756 gb757 gb758 gb763 gb768 w76 kj45 u24 u25 u26 u27 u28 u29 u30 u31 kj98 t780 t781 t782 t783 t784 t785 t786 t787 t788 t793 t794 t795 t796 t797 t798 t799 t801 t802 t803 gb789 gb790 gb791 gb792 gb800 gb804 wc_1 kj162 K wc u2 u45 u46 u47 u48 u60 u61 u62 u63 u64 u65 u66 u67 u68 u69 u70 u71 u72 u73 u74 u75 u76 u77 u78 u79 u80 u81 u82 u83 u84 u85 u86 u87 u88 u89 u90 u91 u92 u93 u94 u95 u96 u97 u98 u99 u100 u101 u102 u103 u104 u105 u106 u107 u108 u109 u110 u111 u112 u113 u114 u115 u116 u117 u118 u119 u120 u121 u122 u123 u124 u125 u126 u127 u128 u129 u130 u131 u132 u133 u134 u135 u136 u137 u138 u139 u140 u141 u142 u143 u144 u145 u146 u147 u148 u149 u150 u151 u152 u153 u154 u155 u156 u157 u158 u159 u160 u161 u162 u163 u164 u165 u166 u167 u168 u169 u170 u171 u172 u173 u174 u175 u176 u177 u178 u179 u180 u181 u182 u183 u184 u185 u186 u187 u188 u189 u190 u191 u192 u193 u194 u195 u196 u197 u198 u199 u200 u201 u202 u203 u204 u205 u206 u207 u208 u209 u210 u211 u212 u213 u214 u215 u216 u217 u218 u219 u220 u221 u222 u223 u224 u225 u226 u227 u228 u229 u230 u231 u232 u233 u234 u235 u236 u237 u238 u239 u240 u241 u242 u243 u244 u245 u246 u247 u248 u249 u250 u251 u252 u253 u254 u255 u256 u257 u258 u259 u260 u261 u262 u263 u264 u265 u266 u267 u268 u269 u270 u271 u272 u273 u274 u275 u276 u277 u278 u279 u280 u281 u282 u283 u284 u285 u286 u287 u288 u289 u290 u291 u292 u293 u294 u295 u296 u297 u298 u299 u300 u301 u302 u303 u304 u305 u306 u307 u308 u309 u310 u311 u312 u313 u314 u315 u316 u317 u318 u319 u320 u321 u322 u323 u324 u325 u326 u327 u328 u329 u330 u331 u332 u333 u334 u335 u336 u337 u338 u339 u340 u341 u342 u343 u344 u345 u346 u347 u348 u349 u350 u351 u352 u353 u354 u355 u356 u357 u358 u359 u360 u361 u362 u363 u364 u365 u366 u367 u368 u369 u370 u371 u372 u373 u374 u375 u376 u377 u378 u379 u380 u381 u382 u383 u384 u385 u386 u387 u388 u389 u390 u391 u392 u393
    exact hcutQ.out
end Go.Proofs.Ytpihnmmoahplgaa.PAll
