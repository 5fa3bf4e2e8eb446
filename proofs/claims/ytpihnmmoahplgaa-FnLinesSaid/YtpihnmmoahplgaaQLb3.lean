import Derived.Test.YtpihnmmoahplgaaQLb2
namespace Go.Proofs.Ytpihnmmoahplgaa.PAll
open Go.RowKit Go.Proofs.YtpihnmmoahplgaaW.PrintWords Go.Proofs.YtpihnmmoahplgaaW.PrintLast Go.Proofs.YtpihnmmoahplgaaW.PrintMore
attribute [local go_sem] Go.Proofs.Ytpihnmmoahplgaa.Aux.setCell_drewN Go.Proofs.Ytpihnmmoahplgaa.Aux.isSome_setCell Go.Proofs.Ytpihnmmoahplgaa.Aux.max_eight bq bo cG cF ba bZ bp bm
set_option linter.unusedVariables false
set_option linter.unusedSimpArgs false
attribute [local go_sem high] eqA25 eqA28
set_option maxHeartbeats 8000000 in
set_option maxRecDepth 100000 in
noncomputable def laws_FnLines.cut3:PSigma fun P:Prop=>aA P→(laws_FnLines.cut2.1):=by
 apply PSigma.mk
 ·
  intro hcutP
  conv=>whnf
  intro k A0 c0 l0 r w hu28 hu25 HR0 HC0 A2 t725 t726 t727 t728 t729 t730 A4 t733 t736 A5 t737 t740 A6 _ gb731 GW731 GE731 gb732 LT731_732 GW732 GE732 hnb11 w17 v738 kj6 HJ6 _ _ _ _ x11_2 k2 HK2 t749 t750 t751 t752 t753 t754 t755 A43 t759 t760 t761 t762 A44 t764 t765 t766 t767 A45 Ao47 co47 HO739 HO735 gb756 LT731_756 LT732_756 GW756 GE756 gb757 LT731_757 LT732_757 LT756_757 GW757 GE757 gb758 LT731_758 LT732_758 LT756_758 LT757_758 GW758 GE758 hnb52 hnb53 hnb54 hnb55 hnb57 hnb58 hnb59 hnb61 hnb62 gb763 LT731_763 LT732_763 LT756_763 LT757_763 LT758_763 GW763 GE763 hnb66 hnb67 hnb68 hnb69 hnb70 gb768 w76 LT731_768 LT732_768 LT756_768 LT757_768 LT758_768 LT763_768 GW768 GE768 HO_7 hnb77 hnb78 hnb79 hnb80 hnb81 hnb82 _ BK731 BK732 BK756 BK757 BK758 BK763 BK768 HB kj45 HJ45 _ _ wc _ _ _ _ _ _ _ _ _ _ _ _ _ _ _ _ _ _ _ _ _ _ _ _ _ _ _ _ _ _ _ _ _ _ _ _ _ _ _ _ _ _ _ _ _ _ _ _ _ _ _ _ _ _ _ _ _ _ _ _ _ _ _ _ _ _ _ _ _ _ _ _ _ _ _ _ _ _ _ _ _ _ _ _ _ _ _ _ _ _ _ _ _ _ _ _ _ _ _ _ _ _ _ _ _ _ _ _ _ _ _ _ _ _ _ _ _ _ _ _ _ _ _ _ _ _ _ _ _ _ _ _ _ _ _ _ _ _ _ _ _ _ _ _ _ _ _ _ _ _ _ _ _ _ _ _ _ _ _ _ _ _ _ _ _ _ _ _ _ _ _ _ _ _ _ _ _ _ _ _ _ _ _ _ _ _ _ _ _ _ _ _ _ _ _ _ _ _ _ _ _ _ _ _ _ _ _ _ _ _ _ _ _ _ _ _ _ _ _ _ _ _ _ _ _ _ _ _ _ _ _ _ _ _ _ _ _ _ _ _ _ _ _ _ _ _ _ _ _ _ _ _ _ _ _ _ _ _ _ _ _ _ _ _ _ _ _ _ _ _ _ _ _ _ _ _ _ _ _ _ _ _ _ _ _ _ _ _ _ _ _ _ _ _ _ _ _ _ _ _ _ _ _ _ _ _ _ _ _ _ _ _ _ _ _ _ _ _ _ _ _ _ _ _ _ _ _ _ _ _ _ _ _ _ _ _ _ _ _ _ _ _ _ hcut
  obtain ⟨kq,HA,HJ98,BK731,BK732,BK756,BK757,BK758,BK763,BK768,HB⟩:=hcut
  cases kq with
  | zero=>exact absurd HA.out (by simp [laws_FnLines.j4])
  | succ kj98=>
   have H:=HA.out
   clear HA
   simp only [laws_FnLines.j4] at H
   replace H:=bS H
   obtain ⟨⟨t780,t781,t782,t783,t784,t785,t786,t787,t788⟩,A158,H⟩:=H
   try dsimp only at H
   replace H:=bS H
   obtain ⟨⟨t793,t794⟩,A159,H⟩:=H
   try dsimp only at H
   replace H:=bS H
   obtain ⟨⟨t795,t796⟩,A160,H⟩:=H
   try dsimp only at H
   replace H:=bS H
   obtain ⟨⟨t797,t798,t799⟩,A161,H⟩:=H
   try dsimp only at H
   replace H:=bS H
   obtain ⟨⟨t801,t802,t803⟩,A162,H⟩:=H
   try dsimp only at H
   have HC163:=aA.mk H
   clear H
   go_upto_region 35 with (first|((with_reducible refine gd 237 rfl ?_);refine gC (some 237) rfl Try.func17 (aD.calls (w:=_) (hr0:=cR (Kd.C_below HR0.out HB.out)) (hc0:=HC0.out) (h:=A158.out)) ?_;intro w164 hb;replace BK731:=kB BK731 hb;replace BK732:=kB BK732 hb;replace BK756:=kB BK756 hb;replace BK757:=kB BK757 hb;replace BK758:=kB BK758 hb;replace BK763:=kB BK763 hb;replace BK768:=kB BK768 hb;replace HB:=lB hb;clear hb)|((with_reducible refine aH (N:=33) rfl ?_);refine bxE (cs:=#[.int .i64 0,.int .i64 0]) (t:=28) ?_;intro gb789 hg w165 hbox hb;have LT731_789:=nL hg BK731;have LT732_789:=nL hg BK732;have LT756_789:=nL hg BK756;have LT757_789:=nL hg BK757;have LT758_789:=nL hg BK758;have LT763_789:=nL hg BK763;have LT768_789:=nL hg BK768;have BK789:=aA.mk hbox;have GW789:=sA hg;have GE789:=sA hg;replace BK731:=kB BK731 hb;replace BK732:=kB BK732 hb;replace BK756:=kB BK756 hb;replace BK757:=kB BK757 hb;replace BK758:=kB BK758 hb;replace BK763:=kB BK763 hb;replace BK768:=kB BK768 hb;replace HB:=lB hb;clear hb hbox hg)|((with_reducible refine aH (N:=34) rfl ?_);refine bxE (cs:=#[.int .i64 0,.int .i64 0]) (t:=28) ?_;intro gb790 hg w166 hbox hb;have LT731_790:=nL hg BK731;have LT732_790:=nL hg BK732;have LT756_790:=nL hg BK756;have LT757_790:=nL hg BK757;have LT758_790:=nL hg BK758;have LT763_790:=nL hg BK763;have LT768_790:=nL hg BK768;have LT789_790:=nL hg BK789;have BK790:=aA.mk hbox;have GW790:=sA hg;have GE790:=sA hg;replace BK731:=kB BK731 hb;replace BK732:=kB BK732 hb;replace BK756:=kB BK756 hb;replace BK757:=kB BK757 hb;replace BK758:=kB BK758 hb;replace BK763:=kB BK763 hb;replace BK768:=kB BK768 hb;replace BK789:=kB BK789 hb;replace HB:=lB hb;clear hb hbox hg)|((with_reducible refine aH (N:=35) rfl ?_);refine bxE (cs:=#[.int .i64 0,.int .i64 0]) (t:=28) ?_;intro gb791 hg w167 hbox hb;have LT731_791:=nL hg BK731;have LT732_791:=nL hg BK732;have LT756_791:=nL hg BK756;have LT757_791:=nL hg BK757;have LT758_791:=nL hg BK758;have LT763_791:=nL hg BK763;have LT768_791:=nL hg BK768;have LT789_791:=nL hg BK789;have LT790_791:=nL hg BK790;have BK791:=aA.mk hbox;have GW791:=sA hg;have GE791:=sA hg;replace BK731:=kB BK731 hb;replace BK732:=kB BK732 hb;replace BK756:=kB BK756 hb;replace BK757:=kB BK757 hb;replace BK758:=kB BK758 hb;replace BK763:=kB BK763 hb;replace BK768:=kB BK768 hb;replace BK789:=kB BK789 hb;replace BK790:=kB BK790 hb;replace HB:=lB hb;clear hb hbox hg)|((with_reducible refine aH (N:=36) rfl ?_);refine bxE (cs:=#[.int .i64 0,.int .i64 0]) (t:=28) ?_;intro gb792 hg w168 hbox hb;have LT731_792:=nL hg BK731;have LT732_792:=nL hg BK732;have LT756_792:=nL hg BK756;have LT757_792:=nL hg BK757;have LT758_792:=nL hg BK758;have LT763_792:=nL hg BK763;have LT768_792:=nL hg BK768;have LT789_792:=nL hg BK789;have LT790_792:=nL hg BK790;have LT791_792:=nL hg BK791;have BK792:=aA.mk hbox;have GW792:=sA hg;have GE792:=sA hg;replace BK731:=kB BK731 hb;replace BK732:=kB BK732 hb;replace BK756:=kB BK756 hb;replace BK757:=kB BK757 hb;replace BK758:=kB BK758 hb;replace BK763:=kB BK763 hb;replace BK768:=kB BK768 hb;replace BK789:=kB BK789 hb;replace BK790:=kB BK790 hb;replace BK791:=kB BK791 hb;replace HB:=lB hb;clear hb hbox hg;have hnb169:=LT731_789.out;have hnb170:=LT732_789.out;have hnb171:=LT756_789.out;have hnb172:=LT757_789.out;have hnb173:=LT758_789.out;have hnb174:=LT763_789.out;have hnb175:=LT768_789.out;have hnb176:=LT789_790.out;have hnb177:=LT789_791.out;have hnb178:=LT789_792.out;obtain ⟨hcz179_0,hcz179_1,hfz179_0,hfz179_1⟩:=cz2 BK789;have hnb180:=LT731_790.out;have hnb181:=LT732_790.out;have hnb182:=LT756_790.out;have hnb183:=LT757_790.out;have hnb184:=LT758_790.out;have hnb185:=LT763_790.out;have hnb186:=LT768_790.out;have hnb187:=LT790_791.out;have hnb188:=LT790_792.out;obtain ⟨hcz189_0,hcz189_1,hfz189_0,hfz189_1⟩:=cz2 BK790;have hnb190:=LT731_791.out;have hnb191:=LT732_791.out;have hnb192:=LT756_791.out;have hnb193:=LT757_791.out;have hnb194:=LT758_791.out;have hnb195:=LT763_791.out;have hnb196:=LT768_791.out;have hnb197:=LT791_792.out;obtain ⟨hcz198_0,hcz198_1,hfz198_0,hfz198_1⟩:=cz2 BK791;have hnb199:=LT731_792.out;have hnb200:=LT732_792.out;have hnb201:=LT756_792.out;have hnb202:=LT757_792.out;have hnb203:=LT758_792.out;have hnb204:=LT763_792.out;have hnb205:=LT768_792.out;obtain ⟨hcz206_0,hcz206_1,hfz206_0,hfz206_1⟩:=cz2 BK792)|((with_reducible refine gd 249 rfl ?_);refine gC (some 249) rfl Try.func18 (bF.calls (w:=_) (h:=A159.out)) ?_;intro w207 hb;replace BK731:=aA.mk (aE (g:=gb731) (o:=.cells #[.int .i64 t726,.int .i64 t727] 28 (0,0)) (bkF BK731) hb);replace BK732:=aA.mk (aE (g:=gb732) (o:=.cells #[.int .i64 t728,.int .i64 t729] 28 (0,0)) (bkF BK732) hb);replace BK756:=aA.mk (aE (g:=gb756) (o:=.cells #[.int .i64 t750,.int .i64 t751] 28 (0,0)) (bkF BK756) hb);replace BK757:=aA.mk (aE (g:=gb757) (o:=.cells #[.int .i64 t752,.int .i64 t753] 28 (0,0)) (bkF BK757) hb);replace BK758:=aA.mk (aE (g:=gb758) (o:=.cells #[.int .i64 t754,.int .i64 t755] 28 (0,0)) (bkF BK758) hb);replace BK763:=aA.mk (aE (g:=gb763) (o:=.cells #[.int .i64 t759,.int .i64 t760,.int .i64 t761] 25 (0,0)) (bkF BK763) hb);replace BK768:=aA.mk (aE (g:=gb768) (o:=.cells #[.int .i64 t764,.int .i64 t765,.int .i64 t766] 25 (0,0)) (bkF BK768) hb);replace BK789:=aA.mk (aE (g:=gb789) (o:=.cells #[.int .i64 t781,.int .i64 t782] 28 (0,0)) (bpA BK789) hb);replace BK790:=aA.mk (aE (g:=gb790) (o:=.cells #[.int .i64 t783,.int .i64 t784] 28 (0,0)) (bpA BK790) hb);replace BK791:=aA.mk (aE (g:=gb791) (o:=.cells #[.int .i64 t785,.int .i64 t786] 28 (0,0)) (bpA BK791) hb);replace BK792:=aA.mk (aE (g:=gb792) (o:=.cells #[.int .i64 t787,.int .i64 t788] 28 (0,0)) (bpA BK792) hb);replace HB:=lB hb;clear hb;obtain ⟨hcz208_0,hcz208_1,hfz208_0,hfz208_1⟩:=cz2 BK789;obtain ⟨hcz209_0,hcz209_1,hfz209_0,hfz209_1⟩:=cz2 BK790;obtain ⟨hcz210_0,hcz210_1,hfz210_0,hfz210_1⟩:=cz2 BK791;obtain ⟨hcz211_0,hcz211_1,hfz211_0,hfz211_1⟩:=cz2 BK792)|((with_reducible refine gd 258 rfl ?_);refine gC (some 258) rfl Try.func19 (bM.calls (w:=_) (h:=A160.out)) ?_;intro w212 hb;replace BK731:=kB BK731 hb;replace BK732:=kB BK732 hb;replace BK756:=kB BK756 hb;replace BK757:=kB BK757 hb;replace BK758:=kB BK758 hb;replace BK763:=kB BK763 hb;replace BK768:=kB BK768 hb;replace BK789:=kB BK789 hb;replace BK790:=kB BK790 hb;replace BK791:=kB BK791 hb;replace BK792:=kB BK792 hb;replace HB:=lB hb;clear hb;obtain ⟨hcz213_0,hcz213_1,hfz213_0,hfz213_1⟩:=cz2 BK789;obtain ⟨hcz214_0,hcz214_1,hfz214_0,hfz214_1⟩:=cz2 BK790;obtain ⟨hcz215_0,hcz215_1,hfz215_0,hfz215_1⟩:=cz2 BK791;obtain ⟨hcz216_0,hcz216_1,hfz216_0,hfz216_1⟩:=cz2 BK792)|((with_reducible refine gd 266 rfl ?_);refine gC (some 266) rfl Try.func20 (aJ.calls (w:=_) (h:=A161.out)) ?_;intro w217 hb;replace BK731:=kB BK731 hb;replace BK732:=kB BK732 hb;replace BK756:=kB BK756 hb;replace BK757:=kB BK757 hb;replace BK758:=kB BK758 hb;replace BK763:=kB BK763 hb;replace BK768:=kB BK768 hb;replace BK789:=kB BK789 hb;replace BK790:=kB BK790 hb;replace BK791:=kB BK791 hb;replace BK792:=kB BK792 hb;replace HB:=lB hb;clear hb)|((with_reducible refine aH (N:=41) rfl ?_);refine bxE (cs:=#[.int .i64 0,.int .i64 0]) (t:=28) ?_;intro gb800 hg w218 hbox hb;have LT731_800:=nL hg BK731;have LT732_800:=nL hg BK732;have LT756_800:=nL hg BK756;have LT757_800:=nL hg BK757;have LT758_800:=nL hg BK758;have LT763_800:=nL hg BK763;have LT768_800:=nL hg BK768;have LT789_800:=nL hg BK789;have LT790_800:=nL hg BK790;have LT791_800:=nL hg BK791;have LT792_800:=nL hg BK792;have BK800:=aA.mk hbox;have GW800:=sA hg;have GE800:=sA hg;replace BK731:=kB BK731 hb;replace BK732:=kB BK732 hb;replace BK756:=kB BK756 hb;replace BK757:=kB BK757 hb;replace BK758:=kB BK758 hb;replace BK763:=kB BK763 hb;replace BK768:=kB BK768 hb;replace BK789:=kB BK789 hb;replace BK790:=kB BK790 hb;replace BK791:=kB BK791 hb;replace BK792:=kB BK792 hb;replace HB:=lB hb;clear hb hbox hg;have hnb219:=LT731_800.out;have hnb220:=LT732_800.out;have hnb221:=LT756_800.out;have hnb222:=LT757_800.out;have hnb223:=LT758_800.out;have hnb224:=LT763_800.out;have hnb225:=LT768_800.out;have hnb226:=LT789_800.out;have hnb227:=LT790_800.out;have hnb228:=LT791_800.out;have hnb229:=LT792_800.out;obtain ⟨hcz230_0,hcz230_1,hfz230_0,hfz230_1⟩:=cz2 BK800;obtain ⟨hcz231_0,hcz231_1,hfz231_0,hfz231_1⟩:=cz2 BK789;obtain ⟨hcz232_0,hcz232_1,hfz232_0,hfz232_1⟩:=cz2 BK790;obtain ⟨hcz233_0,hcz233_1,hfz233_0,hfz233_1⟩:=cz2 BK791;obtain ⟨hcz234_0,hcz234_1,hfz234_0,hfz234_1⟩:=cz2 BK792)|((with_reducible refine gd 274 rfl ?_);refine gC (some 274) rfl Try.func21 (aM.calls (w:=_) (h:=A162.out)) ?_;intro w235 hb;replace BK731:=aA.mk (aE (g:=gb731) (o:=.cells #[.int .i64 t726,.int .i64 t727] 28 (0,0)) (bkF BK731) hb);replace BK732:=aA.mk (aE (g:=gb732) (o:=.cells #[.int .i64 t728,.int .i64 t729] 28 (0,0)) (bkF BK732) hb);replace BK756:=aA.mk (aE (g:=gb756) (o:=.cells #[.int .i64 t750,.int .i64 t751] 28 (0,0)) (bkF BK756) hb);replace BK757:=aA.mk (aE (g:=gb757) (o:=.cells #[.int .i64 t752,.int .i64 t753] 28 (0,0)) (bkF BK757) hb);replace BK758:=aA.mk (aE (g:=gb758) (o:=.cells #[.int .i64 t754,.int .i64 t755] 28 (0,0)) (bkF BK758) hb);replace BK763:=aA.mk (aE (g:=gb763) (o:=.cells #[.int .i64 t759,.int .i64 t760,.int .i64 t761] 25 (0,0)) (bkF BK763) hb);replace BK768:=aA.mk (aE (g:=gb768) (o:=.cells #[.int .i64 t764,.int .i64 t765,.int .i64 t766] 25 (0,0)) (bkF BK768) hb);replace BK789:=aA.mk (aE (g:=gb789) (o:=.cells #[.int .i64 t781,.int .i64 t782] 28 (0,0)) (bkF BK789) hb);replace BK790:=aA.mk (aE (g:=gb790) (o:=.cells #[.int .i64 t783,.int .i64 t784] 28 (0,0)) (bkF BK790) hb);replace BK791:=aA.mk (aE (g:=gb791) (o:=.cells #[.int .i64 t785,.int .i64 t786] 28 (0,0)) (bkF BK791) hb);replace BK792:=aA.mk (aE (g:=gb792) (o:=.cells #[.int .i64 t787,.int .i64 t788] 28 (0,0)) (bkF BK792) hb);replace BK800:=aA.mk (aE (g:=gb800) (o:=.cells #[.int .i64 t797,.int .i64 t798] 28 (0,0)) (bpA BK800) hb);replace HB:=lB hb;clear hb)|((with_reducible refine aH (N:=43) rfl ?_);refine bxE (cs:=#[.int .i64 0,.int .i64 0]) (t:=28) ?_;intro gb804 hg w236 hbox hb;have LT731_804:=nL hg BK731;have LT732_804:=nL hg BK732;have LT756_804:=nL hg BK756;have LT757_804:=nL hg BK757;have LT758_804:=nL hg BK758;have LT763_804:=nL hg BK763;have LT768_804:=nL hg BK768;have LT789_804:=nL hg BK789;have LT790_804:=nL hg BK790;have LT791_804:=nL hg BK791;have LT792_804:=nL hg BK792;have LT800_804:=nL hg BK800;have BK804:=aA.mk hbox;have GW804:=sA hg;have GE804:=sA hg;replace BK731:=kB BK731 hb;replace BK732:=kB BK732 hb;replace BK756:=kB BK756 hb;replace BK757:=kB BK757 hb;replace BK758:=kB BK758 hb;replace BK763:=kB BK763 hb;replace BK768:=kB BK768 hb;replace BK789:=kB BK789 hb;replace BK790:=kB BK790 hb;replace BK791:=kB BK791 hb;replace BK792:=kB BK792 hb;replace BK800:=kB BK800 hb;replace HB:=lB hb;clear hb hbox hg;have hnb237:=LT731_804.out;have hnb238:=LT732_804.out;have hnb239:=LT756_804.out;have hnb240:=LT757_804.out;have hnb241:=LT758_804.out;have hnb242:=LT763_804.out;have hnb243:=LT768_804.out;have hnb244:=LT789_804.out;have hnb245:=LT790_804.out;have hnb246:=LT791_804.out;have hnb247:=LT792_804.out;have hnb248:=LT800_804.out;obtain ⟨hcz249_0,hcz249_1,hfz249_0,hfz249_1⟩:=cz2 BK804))
   (try simp only [Act.put,List.setIfInBounds_toArray,List.set_cons_zero,List.set_cons_succ])
   go_cut [294] from 294 to 294 (fun v294 wc=>∃ (kq:Nat) (x294_162:Bool),v294=.bool x294_162∧aA (laws_FnLines.j5 kq l0 t780 t793 t794 t799 x294_162 t781 t782 t783 t784 t785 t786 t787 t788 t797 t798=some r)∧aA (kq≤kj98)∧aA (wc.heap[gb731]?=some (.cells #[.int .i64 t726,.int .i64 t727] 28 (0,0)))∧aA (wc.heap[gb732]?=some (.cells #[.int .i64 t728,.int .i64 t729] 28 (0,0)))∧aA (wc.heap[gb756]?=some (.cells #[.int .i64 t750,.int .i64 t751] 28 (0,0)))∧aA (wc.heap[gb757]?=some (.cells #[.int .i64 t752,.int .i64 t753] 28 (0,0)))∧aA (wc.heap[gb758]?=some (.cells #[.int .i64 t754,.int .i64 t755] 28 (0,0)))∧aA (wc.heap[gb763]?=some (.cells #[.int .i64 t759,.int .i64 t760,.int .i64 t761] 25 (0,0)))∧aA (wc.heap[gb768]?=some (.cells #[.int .i64 t764,.int .i64 t765,.int .i64 t766] 25 (0,0)))∧aA (wc.heap[gb789]?=some (.cells #[.int .i64 t781,.int .i64 t782] 28 (0,0)))∧aA (wc.heap[gb790]?=some (.cells #[.int .i64 t783,.int .i64 t784] 28 (0,0)))∧aA (wc.heap[gb791]?=some (.cells #[.int .i64 t785,.int .i64 t786] 28 (0,0)))∧aA (wc.heap[gb792]?=some (.cells #[.int .i64 t787,.int .i64 t788] 28 (0,0)))∧aA (wc.heap[gb800]?=some (.cells #[.int .i64 t797,.int .i64 t798] 28 (0,0)))∧aA (wc.heap[gb804]?=some (.cells #[.int .i64 t801,.int .i64 t802] 28 (0,0)))∧aA (Below w.heap.size w wc))
   case first=>
    have H:=HC163.out
    clear HC163
    by_cases c250:t794=t796
    ·
     rw [if_pos c250] at H
     have c250b0:(t794 == t796)=true:=beq_iff_eq.mpr c250
     have c250b1:(t794 != t796)=false:=bne_eq_false_iff_eq.mpr c250
     clear c250
     (first|rw [c250b0]|(simp only [cl,co];rw [c250b0])|skip)
     by_cases c251:t793=t795
     ·
      rw [if_pos c251] at H
      have c251b0:(t793 == t795)=true:=beq_iff_eq.mpr c251
      have c251b1:(t793 != t795)=false:=bne_eq_false_iff_eq.mpr c251
      clear c251
      by_cases c252:t799=t803
      ·
       rw [if_pos c252] at H
       have c252b0:(t799 == t803)=true:=beq_iff_eq.mpr c252
       have c252b1:(t799 != t803)=false:=bne_eq_false_iff_eq.mpr c252
       clear c252
       have H':=aA.mk H
       clear H
       try clear hnb11
       try clear hnb52 hnb53 hnb54 hnb55 hnb57 hnb58 hnb59 hnb61 hnb62
       try clear hnb66 hnb67 hnb68 hnb69 hnb70
       try clear hnb77 hnb78 hnb79 hnb80 hnb81 hnb82
       try clear hnb169 hnb170 hnb171 hnb172 hnb173 hnb174 hnb175 hnb176 hnb177 hnb178 hnb180 hnb181 hnb182 hnb183 hnb184 hnb185 hnb186 hnb187 hnb188 hnb190 hnb191 hnb192 hnb193 hnb194 hnb195 hnb196 hnb197 hnb199 hnb200 hnb201 hnb202 hnb203 hnb204 hnb205
       try clear hnb219 hnb220 hnb221 hnb222 hnb223 hnb224 hnb225 hnb226 hnb227 hnb228 hnb229
       try clear hnb237 hnb238 hnb239 hnb240 hnb241 hnb242 hnb243 hnb244 hnb245 hnb246 hnb247 hnb248
       have hnb253:=LT731_800.out
       have hnb254:=LT732_800.out
       have hnb255:=LT756_800.out
       have hnb256:=LT757_800.out
       have hnb257:=LT758_800.out
       have hnb258:=LT763_800.out
       have hnb259:=LT768_800.out
       have hnb260:=LT789_800.out
       have hnb261:=LT790_800.out
       have hnb262:=LT791_800.out
       have hnb263:=LT792_800.out
       have hnb264:=LT800_804.out
       obtain ⟨hcz265_0,hcz265_1,hfz265_0,hfz265_1⟩:=cz2 BK800
       have hnb266:=LT731_804.out
       have hnb267:=LT732_804.out
       have hnb268:=LT756_804.out
       have hnb269:=LT757_804.out
       have hnb270:=LT758_804.out
       have hnb271:=LT763_804.out
       have hnb272:=LT768_804.out
       have hnb273:=LT789_804.out
       have hnb274:=LT790_804.out
       have hnb275:=LT791_804.out
       have hnb276:=LT792_804.out
       obtain ⟨hcz277_0,hcz277_1,hfz277_0,hfz277_1⟩:=cz2 BK804
       go_wp2
       go_meet
       case rel=>exact ⟨_,((!(t797 == t801) || (!(t798 == t802)))),hB,H',⟨by have:=HJ6.out;have:=HK2.out;have:=HJ45.out;have:=HJ98.out;first|omega|exact Nat.le_refl _⟩,⟨bkF BK731⟩,⟨bkF BK732⟩,⟨bkF BK756⟩,⟨bkF BK757⟩,⟨bkF BK758⟩,⟨bkF BK763⟩,⟨bkF BK768⟩,⟨bkF BK789⟩,⟨bkF BK790⟩,⟨bkF BK791⟩,⟨bkF BK792⟩,⟨bkF BK800⟩,⟨bpA BK804⟩,⟨blA⟩⟩
      ·
       rw [if_neg c252] at H
       have c252b0:(t799 == t803)=false:=beq_eq_false_iff_ne.mpr c252
       have c252b1:(t799 != t803)=true:=bne_iff_ne.mpr c252
       have H':=aA.mk H
       clear H
       go_wp2
       go_meet
       case rel=>exact ⟨_,(true),hB,H',⟨by have:=HJ6.out;have:=HK2.out;have:=HJ45.out;have:=HJ98.out;first|omega|exact Nat.le_refl _⟩,⟨bkF BK731⟩,⟨bkF BK732⟩,⟨bkF BK756⟩,⟨bkF BK757⟩,⟨bkF BK758⟩,⟨bkF BK763⟩,⟨bkF BK768⟩,⟨bkF BK789⟩,⟨bkF BK790⟩,⟨bkF BK791⟩,⟨bkF BK792⟩,⟨bkF BK800⟩,⟨bpA BK804⟩,⟨blA⟩⟩
     ·
      rw [if_neg c251] at H
      have c251b0:(t793 == t795)=false:=beq_eq_false_iff_ne.mpr c251
      have c251b1:(t793 != t795)=true:=bne_iff_ne.mpr c251
      have H':=aA.mk H
      clear H
      go_wp2
      go_meet
      case rel=>exact ⟨_,(true),hB,H',⟨by have:=HJ6.out;have:=HK2.out;have:=HJ45.out;have:=HJ98.out;first|omega|exact Nat.le_refl _⟩,⟨bkF BK731⟩,⟨bkF BK732⟩,⟨bkF BK756⟩,⟨bkF BK757⟩,⟨bkF BK758⟩,⟨bkF BK763⟩,⟨bkF BK768⟩,⟨bkF BK789⟩,⟨bkF BK790⟩,⟨bkF BK791⟩,⟨bkF BK792⟩,⟨bkF BK800⟩,⟨bpA BK804⟩,⟨blA⟩⟩
    ·
     rw [if_neg c250] at H
     have c250b0:(t794 == t796)=false:=beq_eq_false_iff_ne.mpr c250
     have c250b1:(t794 != t796)=true:=bne_iff_ne.mpr c250
     (first|rw [c250b0]|(simp only [cl,co];rw [c250b0])|skip)
     have H':=aA.mk H
     clear H
     go_wp2
     go_meet
     case rel=>exact ⟨_,(true),hB,H',⟨by have:=HJ6.out;have:=HK2.out;have:=HJ45.out;have:=HJ98.out;first|omega|exact Nat.le_refl _⟩,⟨bkF BK731⟩,⟨bkF BK732⟩,⟨bkF BK756⟩,⟨bkF BK757⟩,⟨bkF BK758⟩,⟨bkF BK763⟩,⟨bkF BK768⟩,⟨bkF BK789⟩,⟨bkF BK790⟩,⟨bkF BK791⟩,⟨bkF BK792⟩,⟨bkF BK800⟩,⟨bpA BK804⟩,⟨blA⟩⟩
   case rest=>
    expose_names
    clear BK731_1 BK732_1 BK756_1 BK757_1 BK758_1 BK763_1 BK768_1 HB_1 HC163 hcz179_0 hcz179_1 hfz179_0 hfz179_1 hcz189_0 hcz189_1 hfz189_0 hfz189_1 hcz198_0 hcz198_1 hfz198_0 hfz198_1 hcz206_0 hcz206_1 hfz206_0 hfz206_1 hcz208_0 hcz208_1 hfz208_0 hfz208_1 hcz209_0 hcz209_1 hfz209_0 hfz209_1 hcz210_0 hcz210_1 hfz210_0 hfz210_1 hcz211_0 hcz211_1 hfz211_0 hfz211_1 hcz213_0 hcz213_1 hfz213_0 hfz213_1 hcz214_0 hcz214_1 hfz214_0 hfz214_1 hcz215_0 hcz215_1 hfz215_0 hfz215_1 hcz216_0 hcz216_1 hfz216_0 hfz216_1 hcz230_0 hcz230_1 hfz230_0 hfz230_1 hcz231_0 hcz231_1 hfz231_0 hfz231_1 hcz232_0 hcz232_1 hfz232_0 hfz232_1 hcz233_0 hcz233_1 hfz233_0 hfz233_1 hcz234_0 hcz234_1 hfz234_0 hfz234_1 hcz249_0 hcz249_1 hfz249_0 hfz249_1
    revert k A0 c0 l0 r w hu28 hu25 t725 t726 t727 t728 t729 t730 t733 t736 t737 t740 gb731 gb732 w17 v738 kj6 u12 u13 u14 u15 x11_2 k2 t749 t750 t751 t752 t753 t754 t755 t759 t760 t761 t762 t764 t765 t766 t767 Ao47 co47 gb756 gb757 gb758 gb763 gb768 w76 kj45 u2 u24 u25 u26 u27 u28 u29 u30 u31 u60 u61 u62 u63 u64 u65 u66 u67 u68 u69 u70 u71 u72 u73 u74 u75 u76 u77 u78 u79 u80 u81 u82 u83 u84 u85 u86 u87 u88 u89 u90 u91 u92 u93 u94 u95 u96 u97 u98 u99 u100 u101 u102 u103 u104 u105 u106 u107 u108 u109 u110 u111 u112 u113 u114 u115 u116 u117 u118 u119 u120 u121 u122 u123 u124 u125 u126 u127 u128 u129 u130 u131 u132 u133 u134 u135 u136 u137 u138 u139 u140 u141 u142 u143 u144 u145 u146 u147 u148 u149 u150 u151 u152 u153 u154 u155 u156 u157 u158 u159 u160 u161 u162 u163 u164 u165 u166 u167 u168 u169 u170 u171 u172 u173 u174 u175 u176 u177 u178 u179 u180 u181 u182 u183 u184 u185 u186 u187 u188 u189 u190 u191 u192 u193 u194 u195 u196 u197 u198 u199 u200 u201 u202 u203 u204 u205 u206 u207 u208 u209 u210 u211 u212 u213 u214 u215 u216 u217 u218 u219 u220 u221 u222 u223 u224 u225 u226 u227 u228 u229 u230 u231 u232 u233 u234 u295 u296 u297 u298 u299 u300 u301 u302 u303 u304 u305 u306 u307 u308 u309 u310 u311 u312 u313 u314 u315 u316 u317 u318 u319 u320 u321 u322 u323 u324 u325 u326 u327 u328 u329 u330 u331 u332 u333 u334 u335 u336 u337 u338 u339 u340 u341 u342 u343 u344 u345 u346 u347 u348 u349 u350 u351 u352 u353 u354 u355 u356 u357 u358 u359 u360 u361 u362 u363 u364 u365 u366 u367 u368 u369 u370 u371 u372 u373 u374 u375 u376 u377 u378 u379 u380 u381 u382 u383 u384 u385 u386 u387 u388 u389 u390 u391 u392 u393 kj98 t780 t781 t782 t783 t784 t785 t786 t787 t788 t793 t794 t795 t796 t797 t798 t799 t801 t802 t803 gb789 gb790 gb791 gb792 gb800 gb804 w236 K K_1 wc u277 u278 u279 u280 u281 u282 u283 u284 u285 u286 u287 u288 u289 u290 u291 u292 u293 u294
    exact hcutP.out
end Go.Proofs.Ytpihnmmoahplgaa.PAll
