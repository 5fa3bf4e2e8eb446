import Derived.Test.YtpihnmmoahplgaaQLb0
namespace Go.Proofs.Ytpihnmmoahplgaa.PAll
open Go.RowKit Go.Proofs.YtpihnmmoahplgaaW.PrintWords Go.Proofs.YtpihnmmoahplgaaW.PrintLast Go.Proofs.YtpihnmmoahplgaaW.PrintMore
attribute [local go_sem] Go.Proofs.Ytpihnmmoahplgaa.Aux.setCell_drewN Go.Proofs.Ytpihnmmoahplgaa.Aux.isSome_setCell Go.Proofs.Ytpihnmmoahplgaa.Aux.max_eight bq bo cG cF ba bZ bp bm
set_option linter.unusedVariables false
set_option linter.unusedSimpArgs false
attribute [local go_sem high] eqA25 eqA28
set_option maxHeartbeats 8000000 in
set_option maxRecDepth 100000 in
noncomputable def laws_FnLines.cut1:PSigma fun P:Prop=>aA P→(laws_FnLines.cut0.1):=by
 apply PSigma.mk
 ·
  intro hcutP
  conv=>whnf
  intro k A0 c0 l0 r w hu28 hu25 HR0 HC0 A2 t725 t726 t727 t728 t729 t730 A4 t733 t736 A5 t737 t740 A6 _ gb731 GW731 GE731 gb732 LT731_732 GW732 GE732 hnb11 v734 w17 v738 HO739 HO735 wc _ _ _ _ _ _ _ _ HO_7 BK731 BK732 HB kj6 HJ6 _ _ gk wr _ _ _ _ _ _ _ _ _ _ _ _ _ _ _ _ _ _ _ _ _ _ _ _ _ _ _ _ _ _ _ _ _ _ _ _ _ _ _ _ _ _ _ _ _ _ _ _ _ _ _ hrel _ _ _ _
  obtain ⟨x11_2,rfl,HA,HK2,HO_7,BK731,BK732,HB⟩:=hrel
  cases gk with
  | zero=>exact absurd HA.out (by simp [laws_FnLines.l0])
  | succ k2=>
   have H:=HA.out
   clear HA
   simp only [laws_FnLines.l0] at H
   by_cases c23:x11_2<(t733.length:Int)
   ·
    rw [if_pos c23] at H
    have c23b0:=decide_eq_true c23
    clear c23
    by_cases c24:0≤x11_2
    rotate_left
    ·
     rw [if_neg c24] at H
     exact absurd H (by simp)
    rw [if_pos c24] at H
    have c24b0:=decide_eq_true c24
    clear c24
    replace H:=bS H
    obtain ⟨⟨t743,t744⟩,A25,H⟩:=H
    try dsimp only at H
    have HC26:=aA.mk H
    clear H
    obtain ⟨Ao27,co27,eo27⟩:=Kd.R_slice HO_7.out
    subst eo27
    try go_wp2
    have n0_:=aA.mk (Kd.R_drew HO_7.out)
    have n1_:=aA.mk (aK BK731.out)
    have n2_:=aA.mk (aK BK732.out)
    have n3_:=aA.mk (aV HB.out)
    clear HO_7
    clear BK731
    clear BK732
    clear HB
    have HO_7:=n0_
    have BK731:=n1_
    have BK732:=n2_
    have HB:=n3_
    clear n0_ n1_ n2_ n3_
    have p742:0≤(x11_2:Int):=dA
    have q742:x11_2<(t733.length:Int):=dA
    obtain ⟨ad742,e742,hx742_0,hx742_1,hx742_2⟩:=eH (Kd.R_reads' HO_7.out).2.2 x11_2 p742 q742
    cases e742
    replace p742:=eq_true p742
    replace q742:=eq_true q742
    refine bf (n:=13) (S:=fun w'=>w'.cell? ⟨gb731,0,none⟩=some (.int .i64 t726)∧w'.cell? ⟨gb731,1,none⟩=some (.int .i64 t727)∧w'.cell? ⟨gb732,0,none⟩=some (.int .i64 t728)∧w'.cell? ⟨gb732,1,none⟩=some (.int .i64 t729)∧w'.cell? (ad742.add ((x11_2).toNat*3))=some (.int .i64 ((an t733 x11_2).f0))∧w'.cell? ⟨(ad742.add ((x11_2).toNat*3)).block,(ad742.add ((x11_2).toNat*3)).off+1,none⟩=some (.int .i64 ((an t733 x11_2).f1))∧w'.cell? ⟨(ad742.add ((x11_2).toNat*3)).block,(ad742.add ((x11_2).toNat*3)).off+2,none⟩=some (.int .i64 ((an t733 x11_2).f2))) (ds:=[]) #[Z,Z,Z,Z,Z,Z,Z,Z,Z,Z,Z,Z,Z] (by kernel_rfl) rfl rfl ⟨cA BK731 0,cA BK731 1,cA BK732 0,cA BK732 1,hx742_0,hx742_1,hx742_2⟩ (fun hHeld=>?_);refine bH laws_FnLines.tab11 laws_FnLines.bits11 (fun HT_ HW_=>?_)
    generalize wr.drew=w28 at HO_7 BK731 BK732 HB hx742_0 hx742_1 hx742_2 hHeld ⊢
    refine puA (i:=0) (N:=some 101) #[Y,Z,Z,Z,Z,Z,Z,Z,Z,Z,Z,Z,Z] rfl rfl HT_ ?_
    refine puA (i:=1) (N:=some 102) #[Y,Y,Z,Z,Z,Z,Z,Z,Z,Z,Z,Z,Z] rfl rfl HT_ ?_
    refine puA (i:=2) (N:=some 103) #[Y,Y,Y,Z,Z,Z,Z,Z,Z,Z,Z,Z,Z] rfl rfl HT_ ?_
    refine puA (i:=3) (N:=some 104) #[Y,Y,Y,Y,Z,Z,Z,Z,Z,Z,Z,Z,Z] rfl rfl HT_ ?_
    refine taA (i:=4) (N:=some 105) #[Y,Y,Y,Y,Y,Z,Z,Z,Z,Z,Z,Z,Z] rfl rfl HT_ HW_ hHeld ?_
    refine taA (i:=5) (N:=some 106) #[Y,Y,Y,Y,Y,Y,Z,Z,Z,Z,Z,Z,Z] rfl rfl HT_ HW_ hHeld ?_
    refine taA (i:=6) (N:=some 107) #[Y,Y,Y,Y,Y,Y,Y,Z,Z,Z,Z,Z,Z] rfl rfl HT_ HW_ hHeld ?_
    refine bg (i:=7) (N:=some 108) #[Y,Y,Y,Y,Y,Y,Y,Y,Z,Z,Z,Z,Z] rfl rfl (az HT_.out (by kernel_rfl)) (by decide) (fun K hK=>?_)
    refine goes_ Try.func14 (by kernel_rfl) rfl #[.int .i64 t725,.agg #[.int .i64 ((an t733 x11_2).f0),.int .i64 ((an t733 x11_2).f1),.int .i64 ((an t733 x11_2).f2)],.agg #[.int .i64 t726,.int .i64 t727],.agg #[.int .i64 t728,.int .i64 t729]] (by rfl) rfl rfl hA ?_
    with_reducible refine (bP.calls k2 t725 ((an t733 x11_2).f0) ((an t733 x11_2).f1) ((an t733 x11_2).f2) t726 t727 t728 t729 t743 t744 _ A25.out).mono ?_
    rintro e w29 ⟨rfl,hb⟩
    have HS4_:=(hb.cell (World.block_lt_of_cell? _ _ (hHeld.2.2.2.2.1))).trans (hHeld.2.2.2.2.1)
    have HS5_:=(hb.cell (World.block_lt_of_cell? _ _ (hHeld.2.2.2.2.2.1))).trans (hHeld.2.2.2.2.2.1)
    have HS6_:=(hb.cell (World.block_lt_of_cell? _ _ (hHeld.2.2.2.2.2.2))).trans (hHeld.2.2.2.2.2.2)
    refine ⟨_,rfl,?_⟩
    replace HO_7:=aA.mk (Kd.R_below (rA HO_7) hb)
    replace BK731:=kB BK731 hb
    replace BK732:=kB BK732 hb
    replace HB:=lB hb
    (try clear hb)
    (try clear hb2)
    (try clear hk)
    (try clear hi)
    refine hK.out _ _ ⟨cA BK731 0,cA BK731 1,cA BK732 0,cA BK732 1,HS4_,HS5_,HS6_⟩ (fun hHeld=>?_)
    clear hK K
    refine nmA ?_
    refine puA (i:=8) (N:=some 100) #[Y,Y,Y,Y,Y,Y,Y,Y,Y,Z,Z,Z,Z] rfl rfl HT_ ?_
    refine puA (i:=9) (N:=some 109) #[Y,Y,Y,Y,Y,Y,Y,Y,Y,Y,Z,Z,Z] rfl rfl HT_ ?_
    refine puA (i:=10) (N:=some 110) #[Y,Y,Y,Y,Y,Y,Y,Y,Y,Y,Y,Z,Z] rfl rfl HT_ ?_
    refine puA (i:=11) (N:=some 12) #[Y,Y,Y,Y,Y,Y,Y,Y,Y,Y,Y,Y,Z] rfl rfl HT_ ?_
    refine puA (i:=12) (N:=some 13) #[Y,Y,Y,Y,Y,Y,Y,Y,Y,Y,Y,Y,Y] rfl rfl HT_ ?_
    refine cL (bX HT_.out (by kernel_rfl)) ?_
    go_upto_region 12 with (fail)
    go_cut [116] from 116 to 116 (fun v116 wc=>∃ (kq:Nat) (x116_25:Bool),v116=.bool x116_25∧aA (laws_FnLines.j2 kq l0 t725 t733 x11_2 x116_25 t726 t727 t728 t729=some r)∧aA (kq≤k2)∧aA (Kd.R k25 25 wc w.heap.size (fun _=>True) (.slice (some ad742) t733.length co27) t733)∧aA (wc.heap[gb731]?=some (.cells #[.int .i64 t726,.int .i64 t727] 28 (0,0)))∧aA (wc.heap[gb732]?=some (.cells #[.int .i64 t728,.int .i64 t729] 28 (0,0)))∧aA (Below w.heap.size w wc))
    case first=>
     have H:=HC26.out
     clear HC26
     by_cases c30:t744=0
     ·
      rw [if_pos c30] at H
      have c30b0:(t744 == 0)=true:=beq_iff_eq.mpr c30
      have c30b1:(t744 != 0)=false:=bne_eq_false_iff_eq.mpr c30
      clear c30
      (first|rw [c30b0]|(simp only [cl,co];rw [c30b0])|skip)
      have H':=aA.mk H
      clear H
      go_wp2
      go_meet
      case rel=>exact ⟨_,(!t743),hB,H',⟨by have:=HJ6.out;have:=HK2.out;first|omega|exact Nat.le_refl _⟩,⟨rA HO_7⟩,⟨bkA BK731⟩,⟨bkA BK732⟩,⟨blA⟩⟩
     ·
      rw [if_neg c30] at H
      have c30b0:(t744 == 0)=false:=beq_eq_false_iff_ne.mpr c30
      have c30b1:(t744 != 0)=true:=bne_iff_ne.mpr c30
      (first|rw [c30b0]|(simp only [cl,co];rw [c30b0])|skip)
      have H':=aA.mk H
      clear H
      go_wp2
      go_meet
      case rel=>exact ⟨_,(true),hB,H',⟨by have:=HJ6.out;have:=HK2.out;first|omega|exact Nat.le_refl _⟩,⟨rA HO_7⟩,⟨bkA BK731⟩,⟨bkA BK732⟩,⟨blA⟩⟩
    case rest=>
     clear HC26
     try clear c3
     try clear c18
     try clear c18b0
     try clear c18b1
     try clear c22
     try clear c23
     try clear c23b0
     try clear c24
     try clear c24b0
     try clear c30
     try clear c30b0
     try clear c30b1
     try clear hcz12_0
     try clear hcz12_1
     try clear hcz13_0
     try clear hcz13_1
     try clear hcz15_0
     try clear hcz15_1
     try clear hcz16_0
     try clear hcz16_1
     try clear hfz12_0
     try clear hfz12_1
     try clear hfz13_0
     try clear hfz13_1
     try clear hfz15_0
     try clear hfz15_1
     try clear hfz16_0
     try clear hfz16_1
     try clear hx742_0
     try clear hx742_1
     try clear hx742_2
     try clear p742
     try clear q742
     obtain ⟨kq,x116_25,rfl,HA,HJ25,HO_7,BK731,BK732,HB⟩:=hcut
     cases kq with
     | zero=>exact absurd HA.out (by simp [laws_FnLines.j2])
     | succ kj25=>
      have H:=HA.out
      clear HA
      simp only [laws_FnLines.j2] at H
      by_cases c31:x116_25=true
      ·
       subst c31
       rw [if_pos rfl] at H
       try dsimp only at H
       exact absurd H (by simp)
      replace c31:=Bool.eq_false_iff.mpr c31
      subst c31
      rw [if_neg (show ¬ (false=true) by decide)] at H
      try dsimp only at H
      by_cases c32:x11_2>0
      ·
       rw [if_pos c32] at H
       have c32b0:decide (0<x11_2)=true:=decide_eq_true c32
       clear c32
       obtain ⟨ji33,hji33⟩:∃ j_:Int,(wrap64 (x11_2 - 1))=j_:=⟨_,rfl⟩
       replace H:(if 0≤(ji33) then (if (ji33)<(t733.length:Int) then (if 0≤x11_2 then (if x11_2<(t733.length:Int) then ((cd.f kj25 t725 ((an t733 (ji33)).f0) ((an t733 (ji33)).f1) ((an t733 (ji33)).f2) ((an t733 x11_2).f0) ((an t733 x11_2).f1) ((an t733 x11_2).f2)).bind fun bt747=>(if bt747.2=0 then (if bt747.1=1 then (laws_FnLines.l0 kj25 l0 t725 t733 (wrap64 (x11_2+1)) t726 t727 t728 t729) else (none)) else (none))) else (none)) else (none)) else (none)) else (none))=some r:=by first|(rw [hji33] at H;exact H)|(simp only [hji33] at H ⊢;exact H)
       have hji33w:(IntKind.i64.wrap (x11_2 - 1))=ji33:=(cl _).trans hji33
       by_cases c34:0≤(ji33)
       rotate_left
       ·
        rw [if_neg c34] at H
        exact absurd H (by simp)
       rw [if_pos c34] at H
       have c34b0:=decide_eq_true c34
       clear c34
       by_cases c35:(ji33)<(t733.length:Int)
       rotate_left
       ·
        rw [if_neg c35] at H
        exact absurd H (by simp)
       rw [if_pos c35] at H
       have c35b0:=decide_eq_true c35
       clear c35
       by_cases c36:0≤x11_2
       rotate_left
       ·
        rw [if_neg c36] at H
        exact absurd H (by simp)
       rw [if_pos c36] at H
       have c36b0:=decide_eq_true c36
       clear c36
       by_cases c37:x11_2<(t733.length:Int)
       rotate_left
       ·
        rw [if_neg c37] at H
        exact absurd H (by simp)
       rw [if_pos c37] at H
       have c37b0:=decide_eq_true c37
       clear c37
       replace H:=bS H
       obtain ⟨⟨t747,t748⟩,A38,H⟩:=H
       try dsimp only at H
       by_cases c39:t748=0
       rotate_left
       ·
        rw [if_neg c39] at H
        exact absurd H (by simp)
       rw [if_pos c39] at H
       have c39b0:(t748 == 0)=true:=beq_iff_eq.mpr c39
       have c39b1:(t748 != 0)=false:=bne_eq_false_iff_eq.mpr c39
       clear c39
       by_cases c40:t747=1
       rotate_left
       ·
        rw [if_neg c40] at H
        exact absurd H (by simp)
       rw [if_pos c40] at H
       have c40b0:(t747 == 1)=true:=beq_iff_eq.mpr c40
       have c40b1:(t747 != 1)=false:=bne_eq_false_iff_eq.mpr c40
       clear c40
       have H':=aA.mk H
       clear H
       try go_wp2
       have n0_:=aA.mk (Kd.R_drew HO_7.out)
       have n1_:=aA.mk (aK BK731.out)
       have n2_:=aA.mk (aK BK732.out)
       have n3_:=aA.mk (aV HB.out)
       clear HO_7
       clear BK731
       clear BK732
       clear HB
       have HO_7:=n0_
       have BK731:=n1_
       have BK732:=n2_
       have HB:=n3_
       clear n0_ n1_ n2_ n3_
       have p745:0≤((ji33):Int):=dA
       have q745:(ji33)<(t733.length:Int):=dA
       obtain ⟨ad745,e745,hx745_0,hx745_1,hx745_2⟩:=eH (Kd.R_reads' HO_7.out).2.2 (ji33) p745 q745
       obtain rfl:ad742=ad745:=(by injection e745)
       replace p745:=eq_true p745
       replace q745:=eq_true q745
       have p746:0≤(x11_2:Int):=dA
       have q746:x11_2<(t733.length:Int):=dA
       obtain ⟨ad746,e746,hx746_0,hx746_1,hx746_2⟩:=eH (Kd.R_reads' HO_7.out).2.2 x11_2 p746 q746
       obtain rfl:ad742=ad746:=(by injection e746)
       replace p746:=eq_true p746
       replace q746:=eq_true q746
       refine bf (n:=16) (S:=fun w'=>w'.cell? (ad742.add (((ji33)).toNat*3))=some (.int .i64 ((an t733 (ji33)).f0))∧w'.cell? ⟨(ad742.add (((ji33)).toNat*3)).block,(ad742.add (((ji33)).toNat*3)).off+1,none⟩=some (.int .i64 ((an t733 (ji33)).f1))∧w'.cell? ⟨(ad742.add (((ji33)).toNat*3)).block,(ad742.add (((ji33)).toNat*3)).off+2,none⟩=some (.int .i64 ((an t733 (ji33)).f2))∧w'.cell? (ad742.add ((x11_2).toNat*3))=some (.int .i64 ((an t733 x11_2).f0))∧w'.cell? ⟨(ad742.add ((x11_2).toNat*3)).block,(ad742.add ((x11_2).toNat*3)).off+1,none⟩=some (.int .i64 ((an t733 x11_2).f1))∧w'.cell? ⟨(ad742.add ((x11_2).toNat*3)).block,(ad742.add ((x11_2).toNat*3)).off+2,none⟩=some (.int .i64 ((an t733 x11_2).f2))) (ds:=[]) #[Z,Z,Z,Z,Z,Z,Z,Z,Z,Z,Z,Z,Z,Z,Z,Z] (by kernel_rfl) rfl rfl ⟨hx745_0,hx745_1,hx745_2,hx746_0,hx746_1,hx746_2⟩ (fun hHeld=>?_);refine bH laws_FnLines.tab15 laws_FnLines.bits15 (fun HT_ HW_=>?_)
       generalize wc.drew=w41 at HO_7 BK731 BK732 HB hx745_0 hx745_1 hx745_2 hx746_0 hx746_1 hx746_2 hHeld ⊢
       refine puA (i:=0) (N:=some 120) #[Y,Z,Z,Z,Z,Z,Z,Z,Z,Z,Z,Z,Z,Z,Z,Z] rfl rfl HT_ ?_
       refine puA (i:=1) (N:=some 121) #[Y,Y,Z,Z,Z,Z,Z,Z,Z,Z,Z,Z,Z,Z,Z,Z] rfl rfl HT_ ?_
       refine puA (i:=2) (N:=some 122) #[Y,Y,Y,Z,Z,Z,Z,Z,Z,Z,Z,Z,Z,Z,Z,Z] rfl rfl HT_ ?_
       refine puA (i:=3) (N:=some 123) #[Y,Y,Y,Y,Z,Z,Z,Z,Z,Z,Z,Z,Z,Z,Z,Z] rfl rfl HT_ ?_
       refine puA (i:=4) (N:=some 124) #[Y,Y,Y,Y,Y,Z,Z,Z,Z,Z,Z,Z,Z,Z,Z,Z] rfl rfl HT_ ?_
       refine puA (i:=6) (N:=some 126) #[Y,Y,Y,Y,Y,Z,Y,Z,Z,Z,Z,Z,Z,Z,Z,Z] rfl rfl HT_ ?_
       refine puA (i:=7) (N:=some 127) #[Y,Y,Y,Y,Y,Z,Y,Y,Z,Z,Z,Z,Z,Z,Z,Z] rfl rfl HT_ ?_
       refine puA (i:=8) (N:=some 128) #[Y,Y,Y,Y,Y,Z,Y,Y,Y,Z,Z,Z,Z,Z,Z,Z] rfl rfl HT_ ?_
       refine taA (i:=5) (N:=some 125) #[Y,Y,Y,Y,Y,Y,Y,Y,Y,Z,Z,Z,Z,Z,Z,Z] rfl rfl HT_ HW_ hHeld ?_
       refine taA (i:=9) (N:=some 129) #[Y,Y,Y,Y,Y,Y,Y,Y,Y,Y,Z,Z,Z,Z,Z,Z] rfl rfl HT_ HW_ hHeld ?_
       refine bg (i:=10) (N:=some 130) #[Y,Y,Y,Y,Y,Y,Y,Y,Y,Y,Y,Z,Z,Z,Z,Z] rfl rfl (az HT_.out (by kernel_rfl)) (by decide) (fun K hK=>?_)
       refine goes_ Try.func15 (by kernel_rfl) rfl #[.int .i64 t725,.agg #[.int .i64 ((an t733 (ji33)).f0),.int .i64 ((an t733 (ji33)).f1),.int .i64 ((an t733 (ji33)).f2)],.agg #[.int .i64 ((an t733 x11_2).f0),.int .i64 ((an t733 x11_2).f1),.int .i64 ((an t733 x11_2).f2)]] (by rfl) rfl rfl (by (try simp only [List.map_toArray,List.map_cons,List.map_nil]);first|done|(simp only [hji33];rfl)|rfl|(simp only [List.length_drop,List.length_take];rfl)) ?_
       with_reducible refine (cd.calls kj25 t725 ((an t733 (ji33)).f0) ((an t733 (ji33)).f1) ((an t733 (ji33)).f2) ((an t733 x11_2).f0) ((an t733 x11_2).f1) ((an t733 x11_2).f2) t747 t748 _ A38.out).mono ?_
       rintro e w42 ⟨rfl,hb⟩
       have HS0_:=(hb.cell (World.block_lt_of_cell? _ _ (hHeld.1))).trans (hHeld.1)
       have HS1_:=(hb.cell (World.block_lt_of_cell? _ _ (hHeld.2.1))).trans (hHeld.2.1)
       have HS2_:=(hb.cell (World.block_lt_of_cell? _ _ (hHeld.2.2.1))).trans (hHeld.2.2.1)
       have HS3_:=(hb.cell (World.block_lt_of_cell? _ _ (hHeld.2.2.2.1))).trans (hHeld.2.2.2.1)
       have HS4_:=(hb.cell (World.block_lt_of_cell? _ _ (hHeld.2.2.2.2.1))).trans (hHeld.2.2.2.2.1)
       have HS5_:=(hb.cell (World.block_lt_of_cell? _ _ (hHeld.2.2.2.2.2))).trans (hHeld.2.2.2.2.2)
       refine ⟨_,rfl,?_⟩
       replace HO_7:=aA.mk (Kd.R_below (rA HO_7) hb)
       replace BK731:=kB BK731 hb
       replace BK732:=kB BK732 hb
       replace HB:=lB hb
       (try clear hb)
       (try clear hb2)
       (try clear hk)
       (try clear hi)
       refine hK.out _ _ ⟨HS0_,HS1_,HS2_,HS3_,HS4_,HS5_⟩ (fun hHeld=>?_)
       clear hK K
       refine nmA ?_
       refine puA (i:=11) (N:=some 119) #[Y,Y,Y,Y,Y,Y,Y,Y,Y,Y,Y,Y,Z,Z,Z,Z] rfl rfl HT_ ?_
       refine puA (i:=12) (N:=some 131) #[Y,Y,Y,Y,Y,Y,Y,Y,Y,Y,Y,Y,Y,Z,Z,Z] rfl rfl HT_ ?_
       refine puA (i:=13) (N:=some 132) #[Y,Y,Y,Y,Y,Y,Y,Y,Y,Y,Y,Y,Y,Y,Z,Z] rfl rfl HT_ ?_
       refine puA (i:=14) (N:=some 14) #[Y,Y,Y,Y,Y,Y,Y,Y,Y,Y,Y,Y,Y,Y,Y,Z] rfl rfl HT_ ?_
       refine puA (i:=15) (N:=some 15) #[Y,Y,Y,Y,Y,Y,Y,Y,Y,Y,Y,Y,Y,Y,Y,Y] rfl rfl HT_ ?_
       refine cL (bX HT_.out (by kernel_rfl)) ?_
       try go_wp2
       go_roundg kj25
       case measure=>have:=HJ6.out;have:=HK2.out;have:=HJ25.out;omega
       case rel=>exact ⟨(wrap64 (x11_2+1)),hB,H',⟨by have:=HJ6.out;have:=HK2.out;have:=HJ25.out;omega⟩,⟨rA HO_7⟩,⟨bkA BK731⟩,⟨bkA BK732⟩,⟨blA⟩⟩
      ·
       rw [if_neg c32] at H
       have c32b0:decide (0<x11_2)=false:=decide_eq_false c32
       clear c32
       have H':=aA.mk H
       clear H
       go_wp2
       go_roundg kj25
       case measure=>have:=HJ6.out;have:=HK2.out;have:=HJ25.out;omega
       case rel=>exact ⟨(wrap64 (x11_2+1)),hB,H',⟨by have:=HJ6.out;have:=HK2.out;have:=HJ25.out;omega⟩,⟨rA HO_7⟩,⟨bkA BK731⟩,⟨bkA BK732⟩,⟨blA⟩⟩
   ·
    rw [if_neg c23] at H
    have c23b0:=decide_eq_false c23
    clear c23
    replace H:=bS H
    obtain ⟨⟨t749,t750,t751,t752,t753,t754,t755⟩,A43,H⟩:=H
    try dsimp only at H
    replace H:=bS H
    obtain ⟨⟨t759,t760,t761,t762⟩,A44,H⟩:=H
    try dsimp only at H
    replace H:=bS H
    obtain ⟨⟨t764,t765,t766,t767⟩,A45,H⟩:=H
    try dsimp only at H
    have HC46:=aA.mk H
    clear H
    obtain ⟨Ao47,co47,eo47⟩:=Kd.R_slice HO_7.out
    subst eo47
    go_upto_region 21 with (first|((with_reducible refine gd 141 rfl ?_);refine gC (some 141) rfl Try.func16 (cO.calls (w:=_) (hr0:=cR (Kd.C_below HR0.out HB.out)) (hc0:=HC0.out) (h:=A43.out)) ?_;intro w48 hb;replace HO_7:=aA.mk (Kd.R_below (rA HO_7) hb);replace BK731:=kB BK731 hb;replace BK732:=kB BK732 hb;replace HB:=lB hb;clear hb)|((with_reducible refine aH (N:=17) rfl ?_);refine bxE (cs:=#[.int .i64 0,.int .i64 0]) (t:=28) ?_;intro gb756 hg w49 hbox hb;have LT731_756:=nL hg BK731;have LT732_756:=nL hg BK732;have BK756:=aA.mk hbox;have GW756:=sA hg;have GE756:=sA hg;replace HO_7:=aA.mk (Kd.R_below (rA HO_7) hb);replace BK731:=kB BK731 hb;replace BK732:=kB BK732 hb;replace HB:=lB hb;clear hb hbox hg)|((with_reducible refine aH (N:=18) rfl ?_);refine bxE (cs:=#[.int .i64 0,.int .i64 0]) (t:=28) ?_;intro gb757 hg w50 hbox hb;have LT731_757:=nL hg BK731;have LT732_757:=nL hg BK732;have LT756_757:=nL hg BK756;have BK757:=aA.mk hbox;have GW757:=sA hg;have GE757:=sA hg;replace HO_7:=aA.mk (Kd.R_below (rA HO_7) hb);replace BK731:=kB BK731 hb;replace BK732:=kB BK732 hb;replace BK756:=kB BK756 hb;replace HB:=lB hb;clear hb hbox hg)|((with_reducible refine aH (N:=19) rfl ?_);refine bxE (cs:=#[.int .i64 0,.int .i64 0]) (t:=28) ?_;intro gb758 hg w51 hbox hb;have LT731_758:=nL hg BK731;have LT732_758:=nL hg BK732;have LT756_758:=nL hg BK756;have LT757_758:=nL hg BK757;have BK758:=aA.mk hbox;have GW758:=sA hg;have GE758:=sA hg;replace HO_7:=aA.mk (Kd.R_below (rA HO_7) hb);replace BK731:=kB BK731 hb;replace BK732:=kB BK732 hb;replace BK756:=kB BK756 hb;replace BK757:=kB BK757 hb;replace HB:=lB hb;clear hb hbox hg;have hnb52:=LT731_756.out;have hnb53:=LT732_756.out;have hnb54:=LT756_757.out;have hnb55:=LT756_758.out;obtain ⟨hcz56_0,hcz56_1,hfz56_0,hfz56_1⟩:=cz2 BK756;have hnb57:=LT731_757.out;have hnb58:=LT732_757.out;have hnb59:=LT757_758.out;obtain ⟨hcz60_0,hcz60_1,hfz60_0,hfz60_1⟩:=cz2 BK757;have hnb61:=LT731_758.out;have hnb62:=LT732_758.out;obtain ⟨hcz63_0,hcz63_1,hfz63_0,hfz63_1⟩:=cz2 BK758)|((with_reducible refine gd 151 rfl ?_);refine gC (some 151) rfl Try.func7 (aC.calls (w:=_) (h:=A44.out)) ?_;intro w64 hb;replace HO_7:=aA.mk (Kd.R_below (by (with_reducible repeat (first|apply Kd.R_alloc|apply Kd.R_drewN|apply Kd.R_drew));exact (Kd.R_mono (Kd.R_mono (Kd.R_mono (Kd.R_far (p:=⟨gb758,1,none⟩) (Kd.R_far (p:=⟨gb758,0,none⟩) (Kd.R_far (p:=⟨gb757,1,none⟩) (Kd.R_far (p:=⟨gb757,0,none⟩) (Kd.R_far (p:=⟨gb756,1,none⟩) (Kd.R_far (p:=⟨gb756,0,none⟩) (Kd.R_types (Kd.R_types (Kd.R_types HO_7.out BK756.out (by decide)) BK757.out (by decide)) BK758.out (by decide)) (fun _ hk=>hk.1.1.2) (.int .i64 t750)) (fun _ hk=>hk.1.1.2) (.int .i64 t751)) (fun _ hk=>hk.1.2) (.int .i64 t752)) (fun _ hk=>hk.1.2) (.int .i64 t753)) (fun _ hk=>hk.2) (.int .i64 t754)) (fun _ hk=>hk.2) (.int .i64 t755)) (fun _ h_=>h_.1)) (fun _ h_=>h_.1)) (fun _ h_=>h_.1))) hb);replace BK731:=aA.mk (aE (g:=gb731) (o:=.cells #[.int .i64 t726,.int .i64 t727] 28 (0,0)) (bkF BK731) hb);replace BK732:=aA.mk (aE (g:=gb732) (o:=.cells #[.int .i64 t728,.int .i64 t729] 28 (0,0)) (bkF BK732) hb);replace BK756:=aA.mk (aE (g:=gb756) (o:=.cells #[.int .i64 t750,.int .i64 t751] 28 (0,0)) (bpA BK756) hb);replace BK757:=aA.mk (aE (g:=gb757) (o:=.cells #[.int .i64 t752,.int .i64 t753] 28 (0,0)) (bpA BK757) hb);replace BK758:=aA.mk (aE (g:=gb758) (o:=.cells #[.int .i64 t754,.int .i64 t755] 28 (0,0)) (bpA BK758) hb);replace HB:=lB hb;clear hb)|((with_reducible refine aH (N:=20) rfl ?_);refine bxE (cs:=#[.int .i64 0,.int .i64 0,.int .i64 0]) (t:=25) ?_;intro gb763 hg w65 hbox hb;have LT731_763:=nL hg BK731;have LT732_763:=nL hg BK732;have LT756_763:=nL hg BK756;have LT757_763:=nL hg BK757;have LT758_763:=nL hg BK758;have BK763:=aA.mk hbox;have GW763:=sA hg;have GE763:=sA hg;replace HO_7:=aA.mk (Kd.R_below (Kd.R_elderB (rA HO_7) gb763 (Nat.le_of_eq hg.symm)) hb);replace BK731:=kB BK731 hb;replace BK732:=kB BK732 hb;replace BK756:=kB BK756 hb;replace BK757:=kB BK757 hb;replace BK758:=kB BK758 hb;replace HB:=lB hb;clear hb hbox hg;have hnb66:=LT731_763.out;have hnb67:=LT732_763.out;have hnb68:=LT756_763.out;have hnb69:=LT757_763.out;have hnb70:=LT758_763.out;obtain ⟨hcz71_0,hcz71_1,hcz71_2,hfz71_0,hfz71_1,hfz71_2⟩:=cz3 BK763;obtain ⟨hcz72_0,hcz72_1,hfz72_0,hfz72_1⟩:=cz2 BK756;obtain ⟨hcz73_0,hcz73_1,hfz73_0,hfz73_1⟩:=cz2 BK757;obtain ⟨hcz74_0,hcz74_1,hfz74_0,hfz74_1⟩:=cz2 BK758)|((with_reducible refine gd 159 rfl ?_);refine gC (some 159) rfl Try.func5 (aI.calls (w:=_) (h:=A45.out)) ?_;intro w75 hb;replace HO_7:=aA.mk (Kd.R_below (by (with_reducible repeat (first|apply Kd.R_alloc|apply Kd.R_drewN|apply Kd.R_drew));exact (Kd.R_mono (Kd.R_far (p:=⟨gb763,2,none⟩) (Kd.R_far (p:=⟨gb763,1,none⟩) (Kd.R_far (p:=⟨gb763,0,none⟩) (Kd.R_mono HO_7.out (fun k_ hk=>(⟨hk,hk.2⟩:_∧k_≠gb763))) (fun _ hk=>hk.2) (.int .i64 t759)) (fun _ hk=>hk.2) (.int .i64 t760)) (fun _ hk=>hk.2) (.int .i64 t761)) (fun _ h_=>h_.1))) hb);replace BK731:=aA.mk (aE (g:=gb731) (o:=.cells #[.int .i64 t726,.int .i64 t727] 28 (0,0)) (bkF BK731) hb);replace BK732:=aA.mk (aE (g:=gb732) (o:=.cells #[.int .i64 t728,.int .i64 t729] 28 (0,0)) (bkF BK732) hb);replace BK756:=aA.mk (aE (g:=gb756) (o:=.cells #[.int .i64 t750,.int .i64 t751] 28 (0,0)) (bkF BK756) hb);replace BK757:=aA.mk (aE (g:=gb757) (o:=.cells #[.int .i64 t752,.int .i64 t753] 28 (0,0)) (bkF BK757) hb);replace BK758:=aA.mk (aE (g:=gb758) (o:=.cells #[.int .i64 t754,.int .i64 t755] 28 (0,0)) (bkF BK758) hb);replace BK763:=aA.mk (aE (g:=gb763) (o:=.cells #[.int .i64 t759,.int .i64 t760,.int .i64 t761] 25 (0,0)) (bpA BK763) hb);replace HB:=lB hb;clear hb)|((with_reducible refine aH (N:=22) rfl ?_);refine bxE (cs:=#[.int .i64 0,.int .i64 0,.int .i64 0]) (t:=25) ?_;intro gb768 hg w76 hbox hb;have LT731_768:=nL hg BK731;have LT732_768:=nL hg BK732;have LT756_768:=nL hg BK756;have LT757_768:=nL hg BK757;have LT758_768:=nL hg BK758;have LT763_768:=nL hg BK763;have BK768:=aA.mk hbox;have GW768:=sA hg;have GE768:=sA hg;replace HO_7:=aA.mk (Kd.R_below (Kd.R_elderB (rA HO_7) gb768 (Nat.le_of_eq hg.symm)) hb);replace BK731:=kB BK731 hb;replace BK732:=kB BK732 hb;replace BK756:=kB BK756 hb;replace BK757:=kB BK757 hb;replace BK758:=kB BK758 hb;replace BK763:=kB BK763 hb;replace HB:=lB hb;clear hb hbox hg;have hnb77:=LT731_768.out;have hnb78:=LT732_768.out;have hnb79:=LT756_768.out;have hnb80:=LT757_768.out;have hnb81:=LT758_768.out;have hnb82:=LT763_768.out;obtain ⟨hcz83_0,hcz83_1,hcz83_2,hfz83_0,hfz83_1,hfz83_2⟩:=cz3 BK768))
    (try simp only [Act.put,List.setIfInBounds_toArray,List.set_cons_zero,List.set_cons_succ])
    go_cut [169] from 169 to 169 (fun v169 wc=>∃ (kq:Nat) (x169_45:Bool),v169=.bool x169_45∧aA (laws_FnLines.j3 kq l0 t749 t762 x169_45 t750 t751 t752 t753 t754 t755 t759 t760 t761=some r)∧aA (kq≤k2)∧aA (wc.heap[gb731]?=some (.cells #[.int .i64 t726,.int .i64 t727] 28 (0,0)))∧aA (wc.heap[gb732]?=some (.cells #[.int .i64 t728,.int .i64 t729] 28 (0,0)))∧aA (wc.heap[gb756]?=some (.cells #[.int .i64 t750,.int .i64 t751] 28 (0,0)))∧aA (wc.heap[gb757]?=some (.cells #[.int .i64 t752,.int .i64 t753] 28 (0,0)))∧aA (wc.heap[gb758]?=some (.cells #[.int .i64 t754,.int .i64 t755] 28 (0,0)))∧aA (wc.heap[gb763]?=some (.cells #[.int .i64 t759,.int .i64 t760,.int .i64 t761] 25 (0,0)))∧aA (wc.heap[gb768]?=some (.cells #[.int .i64 t764,.int .i64 t765,.int .i64 t766] 25 (0,0)))∧aA (Below w.heap.size w wc))
    case first=>
     have H:=HC46.out
     clear HC46
     by_cases c84:t762=t767
     ·
      rw [if_pos c84] at H
      have c84b0:(t762 == t767)=true:=beq_iff_eq.mpr c84
      have c84b1:(t762 != t767)=false:=bne_eq_false_iff_eq.mpr c84
      clear c84
      (first|rw [c84b0]|(simp only [cl,co];rw [c84b0])|skip)
      have H':=aA.mk H
      clear H
      try clear hnb11
      try clear hnb52 hnb53 hnb54 hnb55 hnb57 hnb58 hnb59 hnb61 hnb62
      try clear hnb66 hnb67 hnb68 hnb69 hnb70
      try clear hnb77 hnb78 hnb79 hnb80 hnb81 hnb82
      have hnb85:=LT731_763.out
      have hnb86:=LT732_763.out
      have hnb87:=LT756_763.out
      have hnb88:=LT757_763.out
      have hnb89:=LT758_763.out
      have hnb90:=LT763_768.out
      obtain ⟨hcz91_0,hcz91_1,hcz91_2,hfz91_0,hfz91_1,hfz91_2⟩:=cz3 BK763
      have hnb92:=LT731_768.out
      have hnb93:=LT732_768.out
      have hnb94:=LT756_768.out
      have hnb95:=LT757_768.out
      have hnb96:=LT758_768.out
      obtain ⟨hcz97_0,hcz97_1,hcz97_2,hfz97_0,hfz97_1,hfz97_2⟩:=cz3 BK768
      go_wp2
      go_meet
      case rel=>exact ⟨_,((!(t759 == t764) || (!(t760 == t765) || (!(t761 == t766))))),hB,H',⟨by have:=HJ6.out;have:=HK2.out;first|omega|exact Nat.le_refl _⟩,⟨bkF BK731⟩,⟨bkF BK732⟩,⟨bkF BK756⟩,⟨bkF BK757⟩,⟨bkF BK758⟩,⟨bkF BK763⟩,⟨bpA BK768⟩,⟨blA⟩⟩
     ·
      rw [if_neg c84] at H
      have c84b0:(t762 == t767)=false:=beq_eq_false_iff_ne.mpr c84
      have c84b1:(t762 != t767)=true:=bne_iff_ne.mpr c84
      (first|rw [c84b0]|(simp only [cl,co];rw [c84b0])|skip)
      have H':=aA.mk H
      clear H
      go_wp2
      go_meet
      case rel=>exact ⟨_,(true),hB,H',⟨by have:=HJ6.out;have:=HK2.out;first|omega|exact Nat.le_refl _⟩,⟨bkF BK731⟩,⟨bkF BK732⟩,⟨bkF BK756⟩,⟨bkF BK757⟩,⟨bkF BK758⟩,⟨bkF BK763⟩,⟨bpA BK768⟩,⟨blA⟩⟩
    case rest=>
     expose_names
     clear BK731_1 BK732_1 HB_1 h_3 c23b0 HC46 HO_7_1 h_2 h hcz56_0 hcz56_1 hfz56_0 hfz56_1 hcz60_0 hcz60_1 hfz60_0 hfz60_1 hcz63_0 hcz63_1 hfz63_0 hfz63_1 hcz71_0 hcz71_1 hcz71_2 hfz71_0 hfz71_1 hfz71_2 hcz72_0 hcz72_1 hfz72_0 hfz72_1 hcz73_0 hcz73_1 hfz73_0 hfz73_1 hcz74_0 hcz74_1 hfz74_0 hfz74_1 hcz83_0 hcz83_1 hcz83_2 hfz83_0 hfz83_1 hfz83_2
     revert k A0 c0 l0 r w hu28 hu25 t725 t726 t727 t728 t729 t730 t733 t736 t737 t740 gb731 gb732 w17 v738 u85 u86 u87 u88 u89 u90 u91 u92 kj6 u2 u12 u13 u14 u15 u98 u99 u100 u101 u102 u103 u104 u105 u106 u107 u108 u109 u110 u111 u112 u113 u114 u115 u116 u117 u118 u119 u120 u121 u122 u123 u124 u125 u126 u127 u128 u129 u130 u131 u132 u133 u134 u135 u136 u137 u138 x11_2 k2 t749 t750 t751 t752 t753 t754 t755 t759 t760 t761 t762 t764 t765 t766 t767 Ao47 co47 gb756 gb757 gb758 gb763 gb768 w76 K_3 K_4 wc u162 u163 u164 u165 u166 u167 u168 u169
     exact hcutP.out
end Go.Proofs.Ytpihnmmoahplgaa.PAll
