import Derived.Test.YtpihnmmoahplgaaQLb4
namespace Go.Proofs.Ytpihnmmoahplgaa.PAll
open Go.RowKit Go.Proofs.YtpihnmmoahplgaaW.PrintWords Go.Proofs.YtpihnmmoahplgaaW.PrintLast Go.Proofs.YtpihnmmoahplgaaW.PrintMore
attribute [local go_sem] Go.Proofs.Ytpihnmmoahplgaa.Aux.setCell_drewN Go.Proofs.Ytpihnmmoahplgaa.Aux.isSome_setCell Go.Proofs.Ytpihnmmoahplgaa.Aux.max_eight bq bo cG cF ba bZ bp bm
set_option linter.unusedVariables false
set_option linter.unusedSimpArgs false
attribute [local go_sem high] eqA25 eqA28
set_option maxHeartbeats 8000000 in
set_option maxRecDepth 100000 in
theorem laws_FnLines.cut5:laws_FnLines.cut4.1:=by
 conv=>whnf
 intro k A0 c0 l0 r w hu28 hu25 HR0 HC0 A2 t725 t726 t727 t728 t729 t730 A4 t733 t736 A5 t737 t740 A6 _ gb731 GW731 GE731 gb732 LT731_732 GW732 GE732 hnb11 w17 v738 kj6 HJ6 _ _ _ _ x11_2 k2 HK2 t749 t750 t751 t752 t753 t754 t755 A43 t759 t760 t761 t762 A44 t764 t765 t766 t767 A45 Ao47 co47 HO739 HO735 gb756 LT731_756 LT732_756 GW756 GE756 gb757 LT731_757 LT732_757 LT756_757 GW757 GE757 gb758 LT731_758 LT732_758 LT756_758 LT757_758 GW758 GE758 hnb52 hnb53 hnb54 hnb55 hnb57 hnb58 hnb59 hnb61 hnb62 gb763 LT731_763 LT732_763 LT756_763 LT757_763 LT758_763 GW763 GE763 hnb66 hnb67 hnb68 hnb69 hnb70 gb768 w76 LT731_768 LT732_768 LT756_768 LT757_768 LT758_768 LT763_768 GW768 GE768 HO_7 hnb77 hnb78 hnb79 hnb80 hnb81 hnb82 kj45 HJ45 _ _ _ _ _ _ _ _ _ _ _ _ _ _ _ _ _ _ _ _ _ _ _ _ _ _ _ _ _ _ _ _ _ _ _ _ _ _ _ _ _ _ _ _ _ _ _ _ _ _ _ _ _ _ _ _ _ _ _ _ _ _ _ _ _ _ _ _ _ _ _ _ _ _ _ _ _ _ _ _ _ _ _ _ _ _ _ _ _ _ _ _ _ _ _ _ _ _ _ _ _ _ _ _ _ _ _ _ _ _ _ _ _ _ _ _ _ _ _ _ _ _ _ _ _ _ _ _ _ _ _ _ _ _ _ _ _ _ _ _ _ _ _ _ _ _ _ _ _ _ _ _ _ _ _ _ _ _ _ _ _ _ _ _ _ _ _ _ _ _ _ _ _ _ _ _ _ _ _ _ _ _ _ _ _ _ _ _ _ _ _ _ _ _ _ _ _ _ _ _ _ _ _ _ _ _ _ _ _ _ _ _ _ _ _ _ _ _ _ _ _ _ _ _ _ _ _ _ _ _ _ _ _ _ _ _ _ _ _ _ _ _ _ _ _ _ _ _ _ _ _ _ _ _ _ _ _ _ _ _ _ _ _ _ _ _ _ _ _ _ _ _ _ _ _ _ _ _ _ _ _ kj98 HJ98 t780 t781 t782 t783 t784 t785 t786 t787 t788 A158 t793 t794 A159 t795 t796 A160 t797 t798 t799 A161 t801 t802 t803 A162 gb789 LT731_789 LT732_789 LT756_789 LT757_789 LT758_789 LT763_789 LT768_789 GW789 GE789 gb790 LT731_790 LT732_790 LT756_790 LT757_790 LT758_790 LT763_790 LT768_790 LT789_790 GW790 GE790 gb791 LT731_791 LT732_791 LT756_791 LT757_791 LT758_791 LT763_791 LT768_791 LT789_791 LT790_791 GW791 GE791 gb792 LT731_792 LT732_792 LT756_792 LT757_792 LT758_792 LT763_792 LT768_792 LT789_792 LT790_792 LT791_792 GW792 GE792 hnb169 hnb170 hnb171 hnb172 hnb173 hnb174 hnb175 hnb176 hnb177 hnb178 hnb180 hnb181 hnb182 hnb183 hnb184 hnb185 hnb186 hnb187 hnb188 hnb190 hnb191 hnb192 hnb193 hnb194 hnb195 hnb196 hnb197 hnb199 hnb200 hnb201 hnb202 hnb203 hnb204 hnb205 gb800 LT731_800 LT732_800 LT756_800 LT757_800 LT758_800 LT763_800 LT768_800 LT789_800 LT790_800 LT791_800 LT792_800 GW800 GE800 hnb219 hnb220 hnb221 hnb222 hnb223 hnb224 hnb225 hnb226 hnb227 hnb228 hnb229 gb804 LT731_804 LT732_804 LT756_804 LT757_804 LT758_804 LT763_804 LT768_804 LT789_804 LT790_804 LT791_804 LT792_804 LT800_804 GW804 GE804 hnb237 hnb238 hnb239 hnb240 hnb241 hnb242 hnb243 hnb244 hnb245 hnb246 hnb247 hnb248 wc _ _ _ _ _ _ _ _ _ _ _ _ _ _ _ _ _ BK731 BK732 BK756 BK757 BK758 BK763 BK768 BK789 BK790 BK791 BK792 BK800 BK804 HB kj162 HJ162 HC279 _ _ _ _
 have H:=HC279.out
 clear HC279
 by_cases c280:t794=0
 ·
  rw [if_pos c280] at H
  have c280b0:(t794 == 0)=true:=beq_iff_eq.mpr c280
  have c280b1:(t794 != 0)=false:=bne_eq_false_iff_eq.mpr c280
  clear c280
  (first|rw [c280b0]|(simp only [cl,co];rw [c280b0])|skip)
  replace H:=bS H
  obtain ⟨⟨t805,t806⟩,A281,H⟩:=H
  try dsimp only at H
  have HC282:=aA.mk H
  clear H
  try clear hnb11
  try clear hnb52 hnb53 hnb54 hnb55 hnb57 hnb58 hnb59 hnb61 hnb62
  try clear hnb66 hnb67 hnb68 hnb69 hnb70
  try clear hnb77 hnb78 hnb79 hnb80 hnb81 hnb82
  try clear hnb169 hnb170 hnb171 hnb172 hnb173 hnb174 hnb175 hnb176 hnb177 hnb178 hnb180 hnb181 hnb182 hnb183 hnb184 hnb185 hnb186 hnb187 hnb188 hnb190 hnb191 hnb192 hnb193 hnb194 hnb195 hnb196 hnb197 hnb199 hnb200 hnb201 hnb202 hnb203 hnb204 hnb205
  try clear hnb219 hnb220 hnb221 hnb222 hnb223 hnb224 hnb225 hnb226 hnb227 hnb228 hnb229
  try clear hnb237 hnb238 hnb239 hnb240 hnb241 hnb242 hnb243 hnb244 hnb245 hnb246 hnb247 hnb248
  have hnb283:=LT731_789.out
  have hnb284:=LT732_789.out
  have hnb285:=LT756_789.out
  have hnb286:=LT757_789.out
  have hnb287:=LT758_789.out
  have hnb288:=LT763_789.out
  have hnb289:=LT768_789.out
  have hnb290:=LT789_790.out
  have hnb291:=LT789_791.out
  have hnb292:=LT789_792.out
  have hnb293:=LT789_800.out
  have hnb294:=LT789_804.out
  obtain ⟨hcz295_0,hcz295_1,hfz295_0,hfz295_1⟩:=cz2 BK789
  have hnb296:=LT731_790.out
  have hnb297:=LT732_790.out
  have hnb298:=LT756_790.out
  have hnb299:=LT757_790.out
  have hnb300:=LT758_790.out
  have hnb301:=LT763_790.out
  have hnb302:=LT768_790.out
  have hnb303:=LT790_791.out
  have hnb304:=LT790_792.out
  have hnb305:=LT790_800.out
  have hnb306:=LT790_804.out
  obtain ⟨hcz307_0,hcz307_1,hfz307_0,hfz307_1⟩:=cz2 BK790
  have hnb308:=LT731_792.out
  have hnb309:=LT732_792.out
  have hnb310:=LT756_792.out
  have hnb311:=LT757_792.out
  have hnb312:=LT758_792.out
  have hnb313:=LT763_792.out
  have hnb314:=LT768_792.out
  have hnb315:=LT791_792.out
  have hnb316:=LT792_800.out
  have hnb317:=LT792_804.out
  obtain ⟨hcz318_0,hcz318_1,hfz318_0,hfz318_1⟩:=cz2 BK792
  have hnb319:=LT731_791.out
  have hnb320:=LT732_791.out
  have hnb321:=LT756_791.out
  have hnb322:=LT757_791.out
  have hnb323:=LT758_791.out
  have hnb324:=LT763_791.out
  have hnb325:=LT768_791.out
  have hnb326:=LT791_800.out
  have hnb327:=LT791_804.out
  obtain ⟨hcz328_0,hcz328_1,hfz328_0,hfz328_1⟩:=cz2 BK791
  go_upto_region 39 with (first|((with_reducible refine gd 303 rfl ?_);refine gC (some 303) rfl Try.func18 (bF.calls (w:=_) (h:=A281.out)) ?_;intro w329 hb;replace BK731:=kB BK731 hb;replace BK732:=kB BK732 hb;replace BK756:=kB BK756 hb;replace BK757:=kB BK757 hb;replace BK758:=kB BK758 hb;replace BK763:=kB BK763 hb;replace BK768:=kB BK768 hb;replace BK789:=kB BK789 hb;replace BK790:=kB BK790 hb;replace BK791:=kB BK791 hb;replace BK792:=kB BK792 hb;replace BK800:=kB BK800 hb;replace BK804:=kB BK804 hb;replace HB:=lB hb;clear hb))
  (try simp only [Act.put,List.setIfInBounds_toArray,List.set_cons_zero,List.set_cons_succ])
  go_cut [313] from 313 to 313 (fun v313 wc=>∃ (kq:Nat) (x313_281:Bool),v313=.bool x313_281∧aA (laws_FnLines.j6 kq l0 t780 t793 t799 x313_281 t797 t798=some r)∧aA (kq≤kj162)∧aA (wc.heap[gb731]?=some (.cells #[.int .i64 t726,.int .i64 t727] 28 (0,0)))∧aA (wc.heap[gb732]?=some (.cells #[.int .i64 t728,.int .i64 t729] 28 (0,0)))∧aA (wc.heap[gb756]?=some (.cells #[.int .i64 t750,.int .i64 t751] 28 (0,0)))∧aA (wc.heap[gb757]?=some (.cells #[.int .i64 t752,.int .i64 t753] 28 (0,0)))∧aA (wc.heap[gb758]?=some (.cells #[.int .i64 t754,.int .i64 t755] 28 (0,0)))∧aA (wc.heap[gb763]?=some (.cells #[.int .i64 t759,.int .i64 t760,.int .i64 t761] 25 (0,0)))∧aA (wc.heap[gb768]?=some (.cells #[.int .i64 t764,.int .i64 t765,.int .i64 t766] 25 (0,0)))∧aA (wc.heap[gb789]?=some (.cells #[.int .i64 t781,.int .i64 t782] 28 (0,0)))∧aA (wc.heap[gb790]?=some (.cells #[.int .i64 t783,.int .i64 t784] 28 (0,0)))∧aA (wc.heap[gb791]?=some (.cells #[.int .i64 t785,.int .i64 t786] 28 (0,0)))∧aA (wc.heap[gb792]?=some (.cells #[.int .i64 t787,.int .i64 t788] 28 (0,0)))∧aA (wc.heap[gb800]?=some (.cells #[.int .i64 t797,.int .i64 t798] 28 (0,0)))∧aA (wc.heap[gb804]?=some (.cells #[.int .i64 t801,.int .i64 t802] 28 (0,0)))∧aA (Below w.heap.size w wc))
  case first=>
   have H:=HC282.out
   clear HC282
   by_cases c330:t806=0
   ·
    rw [if_pos c330] at H
    have c330b0:(t806 == 0)=true:=beq_iff_eq.mpr c330
    have c330b1:(t806 != 0)=false:=bne_eq_false_iff_eq.mpr c330
    clear c330
    (first|rw [c330b0]|(simp only [cl,co];rw [c330b0])|skip)
    have H':=aA.mk H
    clear H
    go_wp2
    go_meet
    case rel=>exact ⟨_,((t805 != (wrap64 (-t793)))),hB,H',⟨by have:=HJ6.out;have:=HK2.out;have:=HJ45.out;have:=HJ98.out;have:=HJ162.out;first|omega|exact Nat.le_refl _⟩,⟨bkA BK731⟩,⟨bkA BK732⟩,⟨bkA BK756⟩,⟨bkA BK757⟩,⟨bkA BK758⟩,⟨bkA BK763⟩,⟨bkA BK768⟩,⟨bkA BK789⟩,⟨bkA BK790⟩,⟨bkA BK791⟩,⟨bkA BK792⟩,⟨bkA BK800⟩,⟨bkA BK804⟩,⟨blA⟩⟩
   ·
    rw [if_neg c330] at H
    have c330b0:(t806 == 0)=false:=beq_eq_false_iff_ne.mpr c330
    have c330b1:(t806 != 0)=true:=bne_iff_ne.mpr c330
    (first|rw [c330b0]|(simp only [cl,co];rw [c330b0])|skip)
    have H':=aA.mk H
    clear H
    go_wp2
    go_meet
    case rel=>exact ⟨_,(true),hB,H',⟨by have:=HJ6.out;have:=HK2.out;have:=HJ45.out;have:=HJ98.out;have:=HJ162.out;first|omega|exact Nat.le_refl _⟩,⟨bkA BK731⟩,⟨bkA BK732⟩,⟨bkA BK756⟩,⟨bkA BK757⟩,⟨bkA BK758⟩,⟨bkA BK763⟩,⟨bkA BK768⟩,⟨bkA BK789⟩,⟨bkA BK790⟩,⟨bkA BK791⟩,⟨bkA BK792⟩,⟨bkA BK800⟩,⟨bkA BK804⟩,⟨blA⟩⟩
  case rest=>
   clear HC282
   try clear c3
   try clear c18
   try clear c22
   try clear c23
   try clear c24
   try clear c30
   try clear c30b0
   try clear c30b1
   try clear c31
   try clear c32
   try clear c32b0
   try clear c34
   try clear c34b0
   try clear c35
   try clear c35b0
   try clear c36
   try clear c36b0
   try clear c37
   try clear c37b0
   try clear c39
   try clear c39b0
   try clear c39b1
   try clear c40
   try clear c40b0
   try clear c40b1
   try clear c84
   try clear c84b0
   try clear c84b1
   try clear c98
   try clear c100
   try clear c100b0
   try clear c100b1
   try clear c105
   try clear c105b0
   try clear c105b1
   try clear c106
   try clear c106b0
   try clear c106b1
   try clear c107
   try clear c107b0
   try clear c107b1
   try clear c108
   try clear c108b0
   try clear c108b1
   try clear c109
   try clear c109b0
   try clear c110
   try clear c111
   try clear c112
   try clear c250
   try clear c250b0
   try clear c250b1
   try clear c251
   try clear c251b0
   try clear c251b1
   try clear c252
   try clear c252b0
   try clear c252b1
   try clear c278
   try clear c280
   try clear c280b0
   try clear c280b1
   try clear c330
   try clear c330b0
   try clear c330b1
   try clear hcz119_0
   try clear hcz119_1
   try clear hcz125_0
   try clear hcz125_1
   try clear hcz12_0
   try clear hcz12_1
   try clear hcz130_0
   try clear hcz130_1
   try clear hcz13_0
   try clear hcz13_1
   try clear hcz140_0
   try clear hcz140_1
   try clear hcz140_2
   try clear hcz144_0
   try clear hcz144_1
   try clear hcz144_2
   try clear hcz145_0
   try clear hcz145_1
   try clear hcz146_0
   try clear hcz146_1
   try clear hcz148_0
   try clear hcz148_1
   try clear hcz148_2
   try clear hcz149_0
   try clear hcz149_1
   try clear hcz150_0
   try clear hcz150_1
   try clear hcz152_0
   try clear hcz152_1
   try clear hcz152_2
   try clear hcz153_0
   try clear hcz153_1
   try clear hcz154_0
   try clear hcz154_1
   try clear hcz156_0
   try clear hcz156_1
   try clear hcz156_2
   try clear hcz157_0
   try clear hcz157_1
   try clear hcz157_2
   try clear hcz15_0
   try clear hcz15_1
   try clear hcz16_0
   try clear hcz16_1
   try clear hcz179_0
   try clear hcz179_1
   try clear hcz189_0
   try clear hcz189_1
   try clear hcz198_0
   try clear hcz198_1
   try clear hcz206_0
   try clear hcz206_1
   try clear hcz208_0
   try clear hcz208_1
   try clear hcz209_0
   try clear hcz209_1
   try clear hcz210_0
   try clear hcz210_1
   try clear hcz211_0
   try clear hcz211_1
   try clear hcz213_0
   try clear hcz213_1
   try clear hcz214_0
   try clear hcz214_1
   try clear hcz215_0
   try clear hcz215_1
   try clear hcz216_0
   try clear hcz216_1
   try clear hcz230_0
   try clear hcz230_1
   try clear hcz231_0
   try clear hcz231_1
   try clear hcz232_0
   try clear hcz232_1
   try clear hcz233_0
   try clear hcz233_1
   try clear hcz234_0
   try clear hcz234_1
   try clear hcz249_0
   try clear hcz249_1
   try clear hcz265_0
   try clear hcz265_1
   try clear hcz277_0
   try clear hcz277_1
   try clear hcz295_0
   try clear hcz295_1
   try clear hcz307_0
   try clear hcz307_1
   try clear hcz318_0
   try clear hcz318_1
   try clear hcz328_0
   try clear hcz328_1
   try clear hcz56_0
   try clear hcz56_1
   try clear hcz60_0
   try clear hcz60_1
   try clear hcz63_0
   try clear hcz63_1
   try clear hcz71_0
   try clear hcz71_1
   try clear hcz71_2
   try clear hcz72_0
   try clear hcz72_1
   try clear hcz73_0
   try clear hcz73_1
   try clear hcz74_0
   try clear hcz74_1
   try clear hcz83_0
   try clear hcz83_1
   try clear hcz83_2
   try clear hcz91_0
   try clear hcz91_1
   try clear hcz91_2
   try clear hcz97_0
   try clear hcz97_1
   try clear hcz97_2
   try clear hfz119_0
   try clear hfz119_1
   try clear hfz125_0
   try clear hfz125_1
   try clear hfz12_0
   try clear hfz12_1
   try clear hfz130_0
   try clear hfz130_1
   try clear hfz13_0
   try clear hfz13_1
   try clear hfz140_0
   try clear hfz140_1
   try clear hfz140_2
   try clear hfz144_0
   try clear hfz144_1
   try clear hfz144_2
   try clear hfz145_0
   try clear hfz145_1
   try clear hfz146_0
   try clear hfz146_1
   try clear hfz148_0
   try clear hfz148_1
   try clear hfz148_2
   try clear hfz149_0
   try clear hfz149_1
   try clear hfz150_0
   try clear hfz150_1
   try clear hfz152_0
   try clear hfz152_1
   try clear hfz152_2
   try clear hfz153_0
   try clear hfz153_1
   try clear hfz154_0
   try clear hfz154_1
   try clear hfz156_0
   try clear hfz156_1
   try clear hfz156_2
   try clear hfz157_0
   try clear hfz157_1
   try clear hfz157_2
   try clear hfz15_0
   try clear hfz15_1
   try clear hfz16_0
   try clear hfz16_1
   try clear hfz179_0
   try clear hfz179_1
   try clear hfz189_0
   try clear hfz189_1
   try clear hfz198_0
   try clear hfz198_1
   try clear hfz206_0
   try clear hfz206_1
   try clear hfz208_0
   try clear hfz208_1
   try clear hfz209_0
   try clear hfz209_1
   try clear hfz210_0
   try clear hfz210_1
   try clear hfz211_0
   try clear hfz211_1
   try clear hfz213_0
   try clear hfz213_1
   try clear hfz214_0
   try clear hfz214_1
   try clear hfz215_0
   try clear hfz215_1
   try clear hfz216_0
   try clear hfz216_1
   try clear hfz230_0
   try clear hfz230_1
   try clear hfz231_0
   try clear hfz231_1
   try clear hfz232_0
   try clear hfz232_1
   try clear hfz233_0
   try clear hfz233_1
   try clear hfz234_0
   try clear hfz234_1
   try clear hfz249_0
   try clear hfz249_1
   try clear hfz265_0
   try clear hfz265_1
   try clear hfz277_0
   try clear hfz277_1
   try clear hfz295_0
   try clear hfz295_1
   try clear hfz307_0
   try clear hfz307_1
   try clear hfz318_0
   try clear hfz318_1
   try clear hfz328_0
   try clear hfz328_1
   try clear hfz56_0
   try clear hfz56_1
   try clear hfz60_0
   try clear hfz60_1
   try clear hfz63_0
   try clear hfz63_1
   try clear hfz71_0
   try clear hfz71_1
   try clear hfz71_2
   try clear hfz72_0
   try clear hfz72_1
   try clear hfz73_0
   try clear hfz73_1
   try clear hfz74_0
   try clear hfz74_1
   try clear hfz83_0
   try clear hfz83_1
   try clear hfz83_2
   try clear hfz91_0
   try clear hfz91_1
   try clear hfz91_2
   try clear hfz97_0
   try clear hfz97_1
   try clear hfz97_2
   try clear hx742_0
   try clear hx742_1
   try clear hx742_2
   try clear hx745_0
   try clear hx745_1
   try clear hx745_2
   try clear hx746_0
   try clear hx746_1
   try clear hx746_2
   try clear p742
   try clear p745
   try clear p746
   try clear q742
   try clear q745
   try clear q746
   obtain ⟨kq,x313_281,rfl,HA,HJ281,BK731,BK732,BK756,BK757,BK758,BK763,BK768,BK789,BK790,BK791,BK792,BK800,BK804,HB⟩:=hcut
   cases kq with
   | zero=>exact absurd HA.out (by simp [laws_FnLines.j6])
   | succ kj281=>
    have H:=HA.out
    clear HA
    simp only [laws_FnLines.j6] at H
    by_cases c331:x313_281=true
    ·
     subst c331
     rw [if_pos rfl] at H
     try dsimp only at H
     exact absurd H (by simp)
    replace c331:=Bool.eq_false_iff.mpr c331
    subst c331
    rw [if_neg (show ¬ (false=true) by decide)] at H
    try dsimp only at H
    by_cases c332:t799=0
    ·
     rw [if_pos c332] at H
     have c332b0:(t799 == 0)=true:=beq_iff_eq.mpr c332
     have c332b1:(t799 != 0)=false:=bne_eq_false_iff_eq.mpr c332
     clear c332
     replace H:=bS H
     obtain ⟨⟨t807,t808⟩,A333,H⟩:=H
     try dsimp only at H
     by_cases c334:t808=0
     rotate_left
     ·
      rw [if_neg c334] at H
      exact absurd H (by simp)
     rw [if_pos c334] at H
     have c334b0:(t808 == 0)=true:=beq_iff_eq.mpr c334
     have c334b1:(t808 != 0)=false:=bne_eq_false_iff_eq.mpr c334
     clear c334
     by_cases c335:t807=t793
     rotate_left
     ·
      rw [if_neg c335] at H
      exact absurd H (by simp)
     rw [if_pos c335] at H
     have c335b0:(t807 == t793)=true:=beq_iff_eq.mpr c335
     have c335b1:(t807 != t793)=false:=bne_eq_false_iff_eq.mpr c335
     clear c335
     have H':=aA.mk H
     clear H
     try clear hnb283 hnb284 hnb285 hnb286 hnb287 hnb288 hnb289 hnb290 hnb291 hnb292 hnb293 hnb294
     try clear hnb296 hnb297 hnb298 hnb299 hnb300 hnb301 hnb302 hnb303 hnb304 hnb305 hnb306
     try clear hnb308 hnb309 hnb310 hnb311 hnb312 hnb313 hnb314 hnb315 hnb316 hnb317
     try clear hnb319 hnb320 hnb321 hnb322 hnb323 hnb324 hnb325 hnb326 hnb327
     have hnb336:=LT731_800.out
     have hnb337:=LT732_800.out
     have hnb338:=LT756_800.out
     have hnb339:=LT757_800.out
     have hnb340:=LT758_800.out
     have hnb341:=LT763_800.out
     have hnb342:=LT768_800.out
     have hnb343:=LT789_800.out
     have hnb344:=LT790_800.out
     have hnb345:=LT791_800.out
     have hnb346:=LT792_800.out
     have hnb347:=LT800_804.out
     obtain ⟨hcz348_0,hcz348_1,hfz348_0,hfz348_1⟩:=cz2 BK800
     go_wp2_with (first|((with_reducible refine gd 322 rfl ?_);refine gC (some 322) rfl Try.func22 (bT.calls (w:=_) (h:=A333.out)) ?_;intro w349 hb;replace BK731:=kB BK731 hb;replace BK732:=kB BK732 hb;replace BK756:=kB BK756 hb;replace BK757:=kB BK757 hb;replace BK758:=kB BK758 hb;replace BK763:=kB BK763 hb;replace BK768:=kB BK768 hb;replace BK789:=kB BK789 hb;replace BK790:=kB BK790 hb;replace BK791:=kB BK791 hb;replace BK792:=kB BK792 hb;replace BK800:=kB BK800 hb;replace BK804:=kB BK804 hb;replace HB:=lB hb;clear hb))
     go_meet
     case rel=>exact ⟨_,H',⟨by have:=HJ6.out;have:=HK2.out;have:=HJ45.out;have:=HJ98.out;have:=HJ162.out;have:=HJ281.out;first|omega|exact Nat.le_refl _⟩,⟨bkA BK731⟩,⟨bkA BK732⟩,⟨bkA BK756⟩,⟨bkA BK757⟩,⟨bkA BK758⟩,⟨bkA BK763⟩,⟨bkA BK768⟩,⟨bkA BK789⟩,⟨bkA BK790⟩,⟨bkA BK791⟩,⟨bkA BK792⟩,⟨bkA BK800⟩,⟨bkA BK804⟩,⟨blA⟩⟩
    ·
     rw [if_neg c332] at H
     have c332b0:(t799 == 0)=false:=beq_eq_false_iff_ne.mpr c332
     have c332b1:(t799 != 0)=true:=bne_iff_ne.mpr c332
     have H':=aA.mk H
     clear H
     go_wp2
     go_meet
     case rel=>exact ⟨_,H',⟨by have:=HJ6.out;have:=HK2.out;have:=HJ45.out;have:=HJ98.out;have:=HJ162.out;have:=HJ281.out;first|omega|exact Nat.le_refl _⟩,⟨bkA BK731⟩,⟨bkA BK732⟩,⟨bkA BK756⟩,⟨bkA BK757⟩,⟨bkA BK758⟩,⟨bkA BK763⟩,⟨bkA BK768⟩,⟨bkA BK789⟩,⟨bkA BK790⟩,⟨bkA BK791⟩,⟨bkA BK792⟩,⟨bkA BK800⟩,⟨bkA BK804⟩,⟨blA⟩⟩
 ·
  rw [if_neg c280] at H
  have c280b0:(t794 == 0)=false:=beq_eq_false_iff_ne.mpr c280
  have c280b1:(t794 != 0)=true:=bne_iff_ne.mpr c280
  (first|rw [c280b0]|(simp only [cl,co];rw [c280b0])|skip)
  have H':=aA.mk H
  clear H
  go_wp2
  go_meet
  case rel=>exact ⟨_,H',⟨by have:=HJ6.out;have:=HK2.out;have:=HJ45.out;have:=HJ98.out;have:=HJ162.out;first|omega|exact Nat.le_refl _⟩,⟨bkA BK731⟩,⟨bkA BK732⟩,⟨bkA BK756⟩,⟨bkA BK757⟩,⟨bkA BK758⟩,⟨bkA BK763⟩,⟨bkA BK768⟩,⟨bkA BK789⟩,⟨bkA BK790⟩,⟨bkA BK791⟩,⟨bkA BK792⟩,⟨bkA BK800⟩,⟨bkA BK804⟩,⟨blA⟩⟩
end Go.Proofs.Ytpihnmmoahplgaa.PAll
