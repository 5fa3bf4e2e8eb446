import Derived.Test.YtpihnmmoahplgaaQLb1
namespace Go.Proofs.Ytpihnmmoahplgaa.PAll
open Go.RowKit Go.Proofs.YtpihnmmoahplgaaW.PrintWords Go.Proofs.YtpihnmmoahplgaaW.PrintLast Go.Proofs.YtpihnmmoahplgaaW.PrintMore
attribute [local go_sem] Go.Proofs.Ytpihnmmoahplgaa.Aux.setCell_drewN Go.Proofs.Ytpihnmmoahplgaa.Aux.isSome_setCell Go.Proofs.Ytpihnmmoahplgaa.Aux.max_eight bq bo cG cF ba bZ bp bm
set_option linter.unusedVariables false
set_option linter.unusedSimpArgs false
attribute [local go_sem high] eqA25 eqA28
set_option maxHeartbeats 8000000 in
set_option maxRecDepth 100000 in
noncomputable def laws_FnLines.cut2:PSigma fun P:Prop=>aA P→(laws_FnLines.cut1.1):=by
 apply PSigma.mk
 ·
  intro hcutP
  conv=>whnf
  intro k A0 c0 l0 r w hu28 hu25 HR0 HC0 A2 t725 t726 t727 t728 t729 t730 A4 t733 t736 A5 t737 t740 A6 _ gb731 GW731 GE731 gb732 LT731_732 GW732 GE732 hnb11 w17 v738 _ _ _ _ _ _ _ _ kj6 HJ6 _ _ _ _ _ _ _ _ _ _ _ _ _ _ _ _ _ _ _ _ _ _ _ _ _ _ _ _ _ _ _ _ _ _ _ _ _ _ _ _ _ _ _ _ _ _ x11_2 k2 HK2 t749 t750 t751 t752 t753 t754 t755 A43 t759 t760 t761 t762 A44 t764 t765 t766 t767 A45 Ao47 co47 HO739 HO735 gb756 LT731_756 LT732_756 GW756 GE756 gb757 LT731_757 LT732_757 LT756_757 GW757 GE757 gb758 LT731_758 LT732_758 LT756_758 LT757_758 GW758 GE758 hnb52 hnb53 hnb54 hnb55 hnb57 hnb58 hnb59 hnb61 hnb62 gb763 LT731_763 LT732_763 LT756_763 LT757_763 LT758_763 GW763 GE763 hnb66 hnb67 hnb68 hnb69 hnb70 gb768 w76 LT731_768 LT732_768 LT756_768 LT757_768 LT758_768 LT763_768 BK768 GW768 GE768 HO_7 BK731 BK732 BK756 BK757 BK758 BK763 HB hnb77 hnb78 hnb79 hnb80 hnb81 hnb82 _ _ _ _ wc _ _ _ _ _ _ _ _ hcut
  obtain ⟨kq,x169_45,rfl,HA,HJ45,BK731,BK732,BK756,BK757,BK758,BK763,BK768,HB⟩:=hcut
  cases kq with
  | zero=>exact absurd HA.out (by simp [laws_FnLines.j3])
  | succ kj45=>
   have H:=HA.out
   clear HA
   simp only [laws_FnLines.j3] at H
   by_cases c98:x169_45=true
   ·
    subst c98
    rw [if_pos rfl] at H
    try dsimp only at H
    exact absurd H (by simp)
   replace c98:=Bool.eq_false_iff.mpr c98
   subst c98
   rw [if_neg (show ¬ (false=true) by decide)] at H
   try dsimp only at H
   have HC99:=aA.mk H
   clear H
   go_upto_if 171 with (fail)
   go_cut [] (fun wc=>∃ (kq:Nat),aA (laws_FnLines.j4 kq l0=some r)∧aA (kq≤kj45)∧aA (wc.heap[gb731]?=some (.cells #[.int .i64 t726,.int .i64 t727] 28 (0,0)))∧aA (wc.heap[gb732]?=some (.cells #[.int .i64 t728,.int .i64 t729] 28 (0,0)))∧aA (wc.heap[gb756]?=some (.cells #[.int .i64 t750,.int .i64 t751] 28 (0,0)))∧aA (wc.heap[gb757]?=some (.cells #[.int .i64 t752,.int .i64 t753] 28 (0,0)))∧aA (wc.heap[gb758]?=some (.cells #[.int .i64 t754,.int .i64 t755] 28 (0,0)))∧aA (wc.heap[gb763]?=some (.cells #[.int .i64 t759,.int .i64 t760,.int .i64 t761] 25 (0,0)))∧aA (wc.heap[gb768]?=some (.cells #[.int .i64 t764,.int .i64 t765,.int .i64 t766] 25 (0,0)))∧aA (Below w.heap.size w wc))
   case first=>
    have H:=HC99.out
    clear HC99
    by_cases c100:t762=0
    ·
     rw [if_pos c100] at H
     have c100b0:(t762 == 0)=true:=beq_iff_eq.mpr c100
     have c100b1:(t762 != 0)=false:=bne_eq_false_iff_eq.mpr c100
     clear c100
     (first|rw [c100b0]|(simp only [cl,co];rw [c100b0])|skip)
     replace H:=bS H
     obtain ⟨⟨t769,t770,t771,t772⟩,A101,H⟩:=H
     try dsimp only at H
     replace H:=bS H
     obtain ⟨⟨t774,t775⟩,A102,H⟩:=H
     try dsimp only at H
     replace H:=bS H
     obtain ⟨⟨t776,t777⟩,A103,H⟩:=H
     try dsimp only at H
     replace H:=bS H
     obtain ⟨⟨t778,t779⟩,A104,H⟩:=H
     try dsimp only at H
     by_cases c105:t772=0
     rotate_left
     ·
      rw [if_neg c105] at H
      exact absurd H (by simp)
     rw [if_pos c105] at H
     have c105b0:(t772 == 0)=true:=beq_iff_eq.mpr c105
     have c105b1:(t772 != 0)=false:=bne_eq_false_iff_eq.mpr c105
     clear c105
     by_cases c106:t775=0
     rotate_left
     ·
      rw [if_neg c106] at H
      exact absurd H (by simp)
     rw [if_pos c106] at H
     have c106b0:(t775 == 0)=true:=beq_iff_eq.mpr c106
     have c106b1:(t775 != 0)=false:=bne_eq_false_iff_eq.mpr c106
     clear c106
     by_cases c107:t777=0
     rotate_left
     ·
      rw [if_neg c107] at H
      exact absurd H (by simp)
     rw [if_pos c107] at H
     have c107b0:(t777 == 0)=true:=beq_iff_eq.mpr c107
     have c107b1:(t777 != 0)=false:=bne_eq_false_iff_eq.mpr c107
     clear c107
     by_cases c108:t779=0
     rotate_left
     ·
      rw [if_neg c108] at H
      exact absurd H (by simp)
     rw [if_pos c108] at H
     have c108b0:(t779 == 0)=true:=beq_iff_eq.mpr c108
     have c108b1:(t779 != 0)=false:=bne_eq_false_iff_eq.mpr c108
     clear c108
     by_cases c109:(!(t769 == t759) || (!(t770 == t760) || (!(t771 == t761))))=true
     ·
      rw [if_pos c109] at H
      exact absurd H (by simp)
     rw [if_neg c109] at H
     have c109b0:(!(t769 == t759) || (!(t770 == t760) || (!(t771 == t761))))=false:=by simpa using c109
     clear c109
     by_cases c110:t774=true
     rotate_left
     ·
      replace c110:=Bool.eq_false_iff.mpr c110
      subst c110
      rw [if_neg (show ¬ (false=true) by decide)] at H
      try dsimp only at H
      exact absurd H (by simp)
     subst c110
     rw [if_pos rfl] at H
     try dsimp only at H
     by_cases c111:t776=true
     rotate_left
     ·
      replace c111:=Bool.eq_false_iff.mpr c111
      subst c111
      rw [if_neg (show ¬ (false=true) by decide)] at H
      try dsimp only at H
      exact absurd H (by simp)
     subst c111
     rw [if_pos rfl] at H
     try dsimp only at H
     by_cases c112:t778=true
     rotate_left
     ·
      replace c112:=Bool.eq_false_iff.mpr c112
      subst c112
      rw [if_neg (show ¬ (false=true) by decide)] at H
      try dsimp only at H
      exact absurd H (by simp)
     subst c112
     rw [if_pos rfl] at H
     try dsimp only at H
     have H':=aA.mk H
     clear H
     try clear hnb11
     try clear hnb52 hnb53 hnb54 hnb55 hnb57 hnb58 hnb59 hnb61 hnb62
     try clear hnb66 hnb67 hnb68 hnb69 hnb70
     try clear hnb77 hnb78 hnb79 hnb80 hnb81 hnb82
     have hnb113:=LT731_758.out
     have hnb114:=LT732_758.out
     have hnb115:=LT756_758.out
     have hnb116:=LT757_758.out
     have hnb117:=LT758_763.out
     have hnb118:=LT758_768.out
     obtain ⟨hcz119_0,hcz119_1,hfz119_0,hfz119_1⟩:=cz2 BK758
     have hnb120:=LT731_756.out
     have hnb121:=LT732_756.out
     have hnb122:=LT756_757.out
     have hnb123:=LT756_763.out
     have hnb124:=LT756_768.out
     obtain ⟨hcz125_0,hcz125_1,hfz125_0,hfz125_1⟩:=cz2 BK756
     have hnb126:=LT731_757.out
     have hnb127:=LT732_757.out
     have hnb128:=LT757_763.out
     have hnb129:=LT757_768.out
     obtain ⟨hcz130_0,hcz130_1,hfz130_0,hfz130_1⟩:=cz2 BK757
     go_wp2_with (first|((with_reducible refine gd 177 rfl ?_);refine gC (some 177) rfl Try.func7 (aC.calls (w:=_) (h:=A101.out)) ?_;intro w131 hb;replace BK731:=kB BK731 hb;replace BK732:=kB BK732 hb;replace BK756:=kB BK756 hb;replace BK757:=kB BK757 hb;replace BK758:=kB BK758 hb;replace BK763:=kB BK763 hb;replace BK768:=kB BK768 hb;replace HB:=lB hb;clear hb)|((with_reducible refine aH (N:=24) rfl ?_);refine bxE (cs:=#[.int .i64 0,.int .i64 0,.int .i64 0]) (t:=25) ?_;intro gb773 hg w132 hbox hb;have LT731_773:=nL hg BK731;have LT732_773:=nL hg BK732;have LT756_773:=nL hg BK756;have LT757_773:=nL hg BK757;have LT758_773:=nL hg BK758;have LT763_773:=nL hg BK763;have LT768_773:=nL hg BK768;have BK773:=aA.mk hbox;have GW773:=sA hg;have GE773:=sA hg;replace BK731:=kB BK731 hb;replace BK732:=kB BK732 hb;replace BK756:=kB BK756 hb;replace BK757:=kB BK757 hb;replace BK758:=kB BK758 hb;replace BK763:=kB BK763 hb;replace BK768:=kB BK768 hb;replace HB:=lB hb;clear hb hbox hg;have hnb133:=LT731_773.out;have hnb134:=LT732_773.out;have hnb135:=LT756_773.out;have hnb136:=LT757_773.out;have hnb137:=LT758_773.out;have hnb138:=LT763_773.out;have hnb139:=LT768_773.out;obtain ⟨hcz140_0,hcz140_1,hcz140_2,hfz140_0,hfz140_1,hfz140_2⟩:=cz3 BK773;have hnb141:=LT731_763.out;have hnb142:=LT732_763.out;have hnb143:=LT763_768.out;obtain ⟨hcz144_0,hcz144_1,hcz144_2,hfz144_0,hfz144_1,hfz144_2⟩:=cz3 BK763;obtain ⟨hcz145_0,hcz145_1,hfz145_0,hfz145_1⟩:=cz2 BK756;obtain ⟨hcz146_0,hcz146_1,hfz146_0,hfz146_1⟩:=cz2 BK757)|((with_reducible refine gd 185 rfl ?_);refine gC (some 185) rfl Try.func14 (bP.calls (w:=_) (h:=A102.out)) ?_;intro w147 hb;replace BK731:=aA.mk (aE (g:=gb731) (o:=.cells #[.int .i64 t726,.int .i64 t727] 28 (0,0)) (bkF BK731) hb);replace BK732:=aA.mk (aE (g:=gb732) (o:=.cells #[.int .i64 t728,.int .i64 t729] 28 (0,0)) (bkF BK732) hb);replace BK756:=aA.mk (aE (g:=gb756) (o:=.cells #[.int .i64 t750,.int .i64 t751] 28 (0,0)) (bkF BK756) hb);replace BK757:=aA.mk (aE (g:=gb757) (o:=.cells #[.int .i64 t752,.int .i64 t753] 28 (0,0)) (bkF BK757) hb);replace BK758:=aA.mk (aE (g:=gb758) (o:=.cells #[.int .i64 t754,.int .i64 t755] 28 (0,0)) (bkF BK758) hb);replace BK763:=aA.mk (aE (g:=gb763) (o:=.cells #[.int .i64 t759,.int .i64 t760,.int .i64 t761] 25 (0,0)) (bkF BK763) hb);replace BK768:=aA.mk (aE (g:=gb768) (o:=.cells #[.int .i64 t764,.int .i64 t765,.int .i64 t766] 25 (0,0)) (bkF BK768) hb);replace BK773:=aA.mk (aE (g:=gb773) (o:=.cells #[.int .i64 t769,.int .i64 t770,.int .i64 t771] 25 (0,0)) (bpA BK773) hb);replace HB:=lB hb;clear hb;obtain ⟨hcz148_0,hcz148_1,hcz148_2,hfz148_0,hfz148_1,hfz148_2⟩:=cz3 BK763;obtain ⟨hcz149_0,hcz149_1,hfz149_0,hfz149_1⟩:=cz2 BK757;obtain ⟨hcz150_0,hcz150_1,hfz150_0,hfz150_1⟩:=cz2 BK758)|((with_reducible refine gd 193 rfl ?_);refine gC (some 193) rfl Try.func14 (bP.calls (w:=_) (h:=A103.out)) ?_;intro w151 hb;replace BK731:=kB BK731 hb;replace BK732:=kB BK732 hb;replace BK756:=kB BK756 hb;replace BK757:=kB BK757 hb;replace BK758:=kB BK758 hb;replace BK763:=kB BK763 hb;replace BK768:=kB BK768 hb;replace BK773:=kB BK773 hb;replace HB:=lB hb;clear hb;obtain ⟨hcz152_0,hcz152_1,hcz152_2,hfz152_0,hfz152_1,hfz152_2⟩:=cz3 BK763;obtain ⟨hcz153_0,hcz153_1,hfz153_0,hfz153_1⟩:=cz2 BK758;obtain ⟨hcz154_0,hcz154_1,hfz154_0,hfz154_1⟩:=cz2 BK756)|((with_reducible refine gd 201 rfl ?_);refine gC (some 201) rfl Try.func14 (bP.calls (w:=_) (h:=A104.out)) ?_;intro w155 hb;replace BK731:=kB BK731 hb;replace BK732:=kB BK732 hb;replace BK756:=kB BK756 hb;replace BK757:=kB BK757 hb;replace BK758:=kB BK758 hb;replace BK763:=kB BK763 hb;replace BK768:=kB BK768 hb;replace BK773:=kB BK773 hb;replace HB:=lB hb;clear hb;obtain ⟨hcz156_0,hcz156_1,hcz156_2,hfz156_0,hfz156_1,hfz156_2⟩:=cz3 BK773;obtain ⟨hcz157_0,hcz157_1,hcz157_2,hfz157_0,hfz157_1,hfz157_2⟩:=cz3 BK763))
     go_meet
     case rel=>exact ⟨_,H',⟨by have:=HJ6.out;have:=HK2.out;have:=HJ45.out;first|omega|exact Nat.le_refl _⟩,⟨bkA BK731⟩,⟨bkA BK732⟩,⟨bkA BK756⟩,⟨bkA BK757⟩,⟨bkA BK758⟩,⟨bkA BK763⟩,⟨bkA BK768⟩,⟨blA⟩⟩
    ·
     rw [if_neg c100] at H
     have c100b0:(t762 == 0)=false:=beq_eq_false_iff_ne.mpr c100
     have c100b1:(t762 != 0)=true:=bne_iff_ne.mpr c100
     (first|rw [c100b0]|(simp only [cl,co];rw [c100b0])|skip)
     have H':=aA.mk H
     clear H
     go_wp2
     go_meet
     case rel=>exact ⟨_,H',⟨by have:=HJ6.out;have:=HK2.out;have:=HJ45.out;first|omega|exact Nat.le_refl _⟩,⟨bkA BK731⟩,⟨bkA BK732⟩,⟨bkA BK756⟩,⟨bkA BK757⟩,⟨bkA BK758⟩,⟨bkA BK763⟩,⟨bkA BK768⟩,⟨blA⟩⟩
   case rest=>
    expose_names
    clear BK768_1 BK731_1 BK732_1 BK756_1 BK757_1 BK758_1 BK763_1 HB_1 HC99
    revert k A0 c0 l0 r w hu28 hu25 t725 t726 t727 t728 t729 t730 t733 t736 t737 t740 gb731 gb732 w17 v738 kj6 u12 u13 u14 u15 x11_2 k2 t749 t750 t751 t752 t753 t754 t755 t759 t760 t761 t762 t764 t765 t766 t767 Ao47 co47 gb756 gb757 gb758 gb763 gb768 w76 wc_1 kj45 K wc u2 u24 u25 u26 u27 u28 u29 u30 u31 u60 u61 u62 u63 u64 u65 u66 u67 u68 u69 u70 u71 u72 u73 u74 u75 u76 u77 u78 u79 u80 u81 u82 u83 u84 u85 u86 u87 u88 u89 u90 u91 u92 u93 u94 u95 u96 u97 u98 u99 u100 u101 u102 u103 u104 u105 u106 u107 u108 u109 u110 u111 u112 u113 u114 u115 u116 u117 u118 u119 u120 u121 u122 u123 u124 u125 u126 u127 u128 u129 u130 u131 u132 u133 u134 u135 u136 u137 u138 u139 u140 u141 u142 u143 u144 u145 u146 u147 u148 u149 u150 u151 u152 u153 u154 u155 u156 u157 u158 u159 u160 u161 u162 u163 u164 u165 u166 u167 u168 u169 u170 u171 u172 u173 u174 u175 u176 u177 u178 u179 u180 u181 u182 u183 u184 u185 u186 u187 u188 u189 u190 u191 u192 u193 u194 u195 u196 u197 u198 u199 u200 u201 u202 u203 u204 u205 u206 u207 u208 u209 u210 u211 u212 u213 u214 u215 u216 u217 u218 u219 u220 u221 u222 u223 u224 u225 u226 u227 u228 u229 u230 u231 u232 u233 u234 u235 u236 u237 u238 u239 u240 u241 u242 u243 u244 u245 u246 u247 u248 u249 u250 u251 u252 u253 u254 u255 u256 u257 u258 u259 u260 u261 u262 u263 u264 u265 u266 u267 u268 u269 u270 u271 u272 u273 u274 u275 u276 u277 u278 u279 u280 u281 u282 u283 u284 u285 u286 u287 u288 u289 u290 u291 u292 u293 u294 u295 u296 u297 u298 u299 u300 u301 u302 u303 u304 u305 u306 u307 u308 u309 u310 u311 u312 u313 u314 u315 u316 u317 u318 u319 u320 u321 u322 u323 u324 u325 u326 u327 u328 u329 u330 u331 u332 u333 u334 u335 u336 u337 u338 u339 u340 u341 u342 u343 u344 u345 u346 u347 u348 u349 u350 u351 u352 u353 u354 u355 u356 u357 u358 u359 u360 u361 u362 u363 u364 u365 u366 u367 u368 u369 u370 u371 u372 u373 u374 u375 u376 u377 u378 u379 u380 u381 u382 u383 u384 u385 u386 u387 u388 u389 u390 u391 u392 u393
    exact hcutP.out
end Go.Proofs.Ytpihnmmoahplgaa.PAll
