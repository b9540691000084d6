/- ReplicaStable: for every input the law returns true and its arguments read as before (the card: the row, and its listed variables tied to the text). Conditions: none beyond the card. Joined of the texts: L4. -/
import Derived.Test.YtnehgpeelgjjhaaGreatDoorS01
set_option linter.all false
namespace Go.Proofs.YtnehgpeelgjjhaaGreatDoor.Tw
open Go.RowKit Go.Shelf
set_option maxRecDepth 100000 in
set_option maxHeartbeats 8000000 in
theorem stable_law (w : World) (tab : Array Value) (hT : Tab w tab) (c : Int) (hc : -9223372036854775808 ≤ c ∧ c ≤ 9223372036854775807) (A : Option Addr) (n cA : Nat) (xs : List (Int × Int × Int)) (hx : Reads w w.heap.size 3 A n (enc3 xs)) (hl : xs.length = n)
    (hw : ∀ x ∈ xs, (-9223372036854775808 ≤ x.1 ∧ x.1 ≤ 9223372036854775807) ∧ (-9223372036854775808 ≤ x.2.1 ∧ x.2.1 ≤ 9223372036854775807) ∧ (-9223372036854775808 ≤ x.2.2 ∧ x.2.2 ≤ 9223372036854775807))
    (f0 s0 : Int) (hf : -9223372036854775808 ≤ f0 ∧ f0 ≤ 9223372036854775807) (hs : -9223372036854775808 ≤ s0 ∧ s0 ≤ 9223372036854775807) :
    Calls Tryz.prog 4 #[.int .i64 c, .slice A n cA, .agg #[.int .i64 f0, .int .i64 s0]] w fun e w' => e = .returned (.bool true) ∧ Below w.heap.size w w' := by
  have HWF := Lib.hid hw
  obtain ⟨W0, hW0⟩ : ∃ W0, W0 = w.alloc (.cells #[.int .i64 f0, .int .i64 s0] 29) := ⟨_, rfl⟩
  have HB := Lib.hid (show Below w.heap.size w W0 by rw [hW0]; exact (Below.refl _ _).alloc (Nat.le_refl _) _)
  have HBX := Lib.hid (show Blk W0 w.heap.size 29 #[.int .i64 f0, .int .i64 s0] by rw [hW0]; exact Blk.new _ _ _)
  have HT := Lib.hid (hT.below HB.out hT.1.lt)
  have HX := Lib.hid ((hx.below HB.out).more HB.out.size)
  have HL := Lib.hid hl
  have hz0 := HB.out.size
  have hpl := Rp.pick_lt c (n := 3) (by omega)
  obtain ⟨P, hP⟩ : ∃ P, P = Rp.pick c 3 := ⟨_, rfl⟩
  rw [← hP] at hpl
  have HPk : Hid (∀ W, Calls Tryz.prog 8 #[.int .i64 c, .int .i64 3] W fun e w' => e = .returned (.int .i64 P) ∧ W = w') := Lib.hid fun W => by rw [hP]; exact pickL_any c 3 W (by omega) (by omega) (pick_wrap hc)
  have HF0 := Lib.hid (pick_wrap hf)
  have HS0 := Lib.hid (pick_wrap hs)
  clear hT hx hl hw hc hP hf hs
  go_enter Tryz.func4, Tryz.ntmps4
  go_wp2_with fail
  rw [← hW0]
  clear hW0
  refine (sane_any W0 tab HT.out).mono ?_
  rintro e W1 ⟨rfl, hb⟩
  have HB := Lib.hid (HB.out.trans (hb.mono HB.out.size))
  have hz1' := hb.size
  have HBX1 := Lib.hid (HBX.out.below hb HBX.out.lt)
  have hlt := HBX.out.lt
  have HX1 := Lib.hid ((HX.out.below hb).more hb.size)
  clear hb HBX HX HT
  go_wp2_with fail
  refine (HPk.out W1).mono ?_
  rintro e _ ⟨rfl, rfl⟩
  go_upto_region 4 with (fail)
  obtain ⟨K, hK⟩ : ∃ K : Nat, (2 + (P : Int)) = K := ⟨2 + P, by omega⟩
  rw [hK]
  have hK1 : 1 ≤ K := by omega
  have hK5 : K ≤ 5 := by omega
  clear hK hpl HPk
  obtain ⟨L0, hL0⟩ : ∃ L0, L0 = Rp.motions K xs := ⟨_, rfl⟩
  have OK0 := Lib.hid (show Rp.okAll K 0 L0 by rw [hL0]; exact Rp.motions_ok (by omega) xs)
  have LE0 := Lib.hid (show L0.length ≤ 60 by rw [hL0]; exact Rp.motions_length K xs)
  have HL0 := Lib.hid hL0
  clear hL0
  have WR0 : Hid (Rp.writesOf L0 + 1 ≤ 200) := Lib.hid (by have h1 := Rp.writesOf_le L0; have h2 := LE0.out; omega)
  go_wp2_with fail
  refine (motionsOf_any W1 K A n cA xs HX1.out HL.out hK1 hK5 HWF.out).mono ?_
  rw [← HL0.out]
  rintro e W2 ⟨MA, mn, mc, rfl, hO, hml, hmc, hb⟩
  have HB := Lib.hid (HB.out.trans (hb.mono HB.out.size))
  have hz2' := hb.size
  have hmn : mn ≤ 60 := by rw [← hml]; exact LE0.out
  have HO := Lib.hid (Reads.of_own hO)
  have HML := Lib.hid hml
  have HBX2 := Lib.hid (HBX1.out.below hb HBX1.out.lt)
  clear hO hml hb HBX1 HX1
  go_upto_region 5 with (fail)
  go_wp2_with fail
  refine (run_any W2 MA mn mc K L0 HO.out HML.out hK1 hK5 (by omega) OK0.out WR0.out).mono ?_
  rintro e W3 ⟨va, rl, vb, ml, rfl, hR, hreps, hb⟩
  have hz3' := hb.size
  have HA := Lib.hid hR
  have HAr := Lib.hid hreps
  have HO3 := Lib.hid ((HO.out.below hb).more hb.size)
  have HB3 := Lib.hid (HB.out.trans (hb.mono HB.out.size))
  have HBX3 := Lib.hid (HBX2.out.below hb HBX2.out.lt)
  clear hR hreps hb HO HB HBX2
  go_upto_region 6 with (fail)
  have b0 := HBX3.out.cell 0
  have b1 := HBX3.out.cell 1
  simp only [List.getElem?_toArray, List.getElem?_cons_zero, List.getElem?_cons_succ] at b0 b1
  have ecast : ((mn + 1 : Nat) : Int) = (mn : Int) + 1 := by omega
  have hF := Rp.pick_lt f0 (n := mn + 1) (by omega)
  obtain ⟨F, hFe⟩ : ∃ F, F = Rp.pick f0 (mn + 1) := ⟨_, rfl⟩
  rw [← hFe] at hF
  have HPF : Hid (∀ W, Calls Tryz.prog 8 #[.int .i64 f0, .int .i64 ((mn : Int) + 1)] W fun e w' => e = .returned (.int .i64 F) ∧ W = w') := Lib.hid fun W => by
    have := pickL_any f0 (mn + 1) W (by omega) (by omega) HF0.out
    rw [ecast, ← hFe] at this
    exact this
  have hS := Rp.pick_lt s0 (n := mn + 1) (by omega)
  obtain ⟨S, hSe⟩ : ∃ S, S = Rp.pick s0 (mn + 1) := ⟨_, rfl⟩
  rw [← hSe] at hS
  have HPS : Hid (∀ W, Calls Tryz.prog 8 #[.int .i64 s0, .int .i64 ((mn : Int) + 1)] W fun e w' => e = .returned (.int .i64 S) ∧ W = w') := Lib.hid fun W => by
    have := pickL_any s0 (mn + 1) W (by omega) (by omega) HS0.out
    rw [ecast, ← hSe] at this
    exact this
  clear ecast hFe hSe
  have hFm : F ≤ mn := by omega
  have hSm : S ≤ mn := by omega
  clear hF hS
  go_wp2_with fail
  refine (HPF.out W3).mono ?_
  rintro e _ ⟨rfl, rfl⟩
  go_upto_region 7 with (fail)
  have hFc : F ≤ mc := by omega
  have hSc : S ≤ mc := by omega
  go_wp2_with fail
  refine (run_any W3 MA F mc K (L0.take F) (HO3.out.mo_take HML.out F hFm) (by rw [List.length_take, HML.out]; exact Nat.min_eq_left hFm) hK1 hK5 (by omega) (Rp.okAll_take F OK0.out) (by have h1 := Rp.writesOf_take L0 F; have h2 := WR0.out; omega)).mono ?_
  rintro e W4 ⟨va', rl', vb', ml', rfl, hR, hreps, hb⟩
  have hz4' := hb.size
  have HE := Lib.hid hR
  have HEr := Lib.hid hreps
  have HA2 := Lib.hid (HA.out.keep hb)
  have HO4 := Lib.hid ((HO3.out.below hb).more hb.size)
  have HB4 := Lib.hid (HB3.out.trans (hb.mono HB3.out.size))
  have HBX4 := Lib.hid (HBX3.out.below hb HBX3.out.lt)
  clear hR hreps hb HO3 HB3 HBX3 HA b0 b1
  go_upto_region 8 with (fail)
  have b0 := HBX4.out.cell 0
  have b1 := HBX4.out.cell 1
  simp only [List.getElem?_toArray, List.getElem?_cons_zero, List.getElem?_cons_succ] at b0 b1
  go_wp2_with fail
  refine (HPS.out W4).mono ?_
  rintro e _ ⟨rfl, rfl⟩
  go_wp2_with fail
  refine (run_any W4 MA S mc K (L0.take S) (HO4.out.mo_take HML.out S hSm) (by rw [List.length_take, HML.out]; exact Nat.min_eq_left hSm) hK1 hK5 (by omega) (Rp.okAll_take S OK0.out) (by have h1 := Rp.writesOf_take L0 S; have h2 := WR0.out; omega)).mono ?_
  rintro e W5 ⟨va'', rl'', vb'', ml'', rfl, hR, hreps, hb⟩
  have hz5' := hb.size
  have HC := Lib.hid hR
  have HCr := Lib.hid hreps
  have HA3 := Lib.hid (HA2.out.keep hb)
  have HE2 := Lib.hid (HE.out.keep hb)
  have HB5 := Lib.hid (HB4.out.trans (hb.mono HB4.out.size))
  clear hR hreps hb HO4 HB4 HBX4 HA2 HE b0 b1 HPF HPS
  go_upto_region 9 with (fail)
  have ST := Lib.hid (stabled hK1 hK5 OK0.out WR0.out F S (by rw [HML.out]; exact hFm) (by rw [HML.out]; exact hSm))
  obtain ⟨gL, cLL, rfl, hcL, hRL⟩ := RepsAt.of HA3.out HAr.out ST.out.lenL hK1
  obtain ⟨gE, cEE, rfl, hcE, hRE⟩ := RepsAt.of HE2.out HEr.out ST.out.lenE hK1
  obtain ⟨gO, cOO, rfl, hcO, hRO⟩ := RepsAt.of HC.out HCr.out ST.out.lenO hK1
  have RL := Lib.hid hRL
  have RE := Lib.hid hRE
  have RO := Lib.hid hRO
  clear hRL hRE hRO HA3 HE2 HC HAr HEr HCr hFc hSc hmc
  go_wp2_with fail
  go_loopw [16] (fun q wr => ∃ i : Nat, i ≤ K ∧ q = .int .i64 i ∧ Hid (Below W5.heap.size W5 wr)) (fun q _ => K - (intOf q).toNat)
  case atStart => exact ⟨0, by omega, rfl, Lib.hid (Below.refl _ _)⟩
  case round =>
    obtain ⟨i, hi, rfl, hW⟩ := hrel
    by_cases hlt : i < K
    · obtain ⟨⟨rL, AL, nL, cL, AL', nL', cL'⟩, el, ⟨_, _, _, l3, _⟩, hrL, hcapL⟩ := (RL.out.below hW.out) i hlt
      obtain ⟨⟨rE, AE, nE, cE, AE', nE', cE'⟩, ee, ⟨e0, e1, e2, e3, e4⟩, hrE, hcapE⟩ := (RE.out.below hW.out) i hlt
      simp only at el l3 hrL hcapL ee e0 e1 e2 e3 e4 hrE hcapE
      have hval := ST.out.val i hlt
      have hle := ST.out.le i hlt
      have hhd := ST.out.heard i hlt
      have hla := ST.out.late i hlt
      have hhas := ST.out.has i hlt
      have hsame := ST.out.same i hlt
      have hallO := fun j => ST.out.allO i j hlt
      have hallL := fun j => ST.out.allL i j hlt
      rw [← ee] at hval hle hhd hla hhas hsame hallO hallL
      rw [← el] at hla hhas hsame
      rw [hrE.len] at hle
      rw [hrL.len] at hla
      rw [hrE.len'] at hhd
      have hhd' := hhd.symm
      clear hhd
      subst hhd'
      have hst0 := stable_any wr rE AE nE cE AE' K cE' hrE
      rw [hval] at hst0
      obtain ⟨N, hN⟩ : ∃ N, N = Rp.stableN rE := ⟨_, rfl⟩
      rw [← hN] at hst0 hle hla hsame hallO hallL
      have HHas := Lib.hid hhas
      have HSame := Lib.hid hsame
      have HAllO := Lib.hid hallO
      have HAllL := Lib.hid hallL
      have HrL := Lib.hid hrL
      have HrE := Lib.hid hrE
      have HST := Lib.hid hst0
      clear hst0
      have hfE := hrE.few
      have hfL := hrL.few
      have hcapN : N ≤ cE := by omega
      clear hhas hsame hallO hallL hrL hrE hval el ee hN
      go_wp2_with fail
      refine HST.out.mono ?_
      unfold orErr
      rintro e w6 ⟨rfl, hb⟩
      have k3 := (hb.cell (p := ⟨gE, i * 5 + 3, none⟩) (lt_of_cell e3)).trans e3
      have k4 := (hb.cell (p := ⟨gE, i * 5 + 4, none⟩) (lt_of_cell e4)).trans e4
      have m3 := (hb.cell (p := ⟨gL, i * 5 + 3, none⟩) (lt_of_cell l3)).trans l3
      have HrL1 := Lib.hid ((HrL.out.below hb).more hb.size)
      have HrE1 := Lib.hid ((HrE.out.below hb).more hb.size)
      have hW6 := Lib.hid (hW.out.trans (hb.mono hW.out.size))
      clear hb e0 e1 e2 e3 e4 l3 HrL HrE HST hW
      go_wp2_with fail
      go_loopw [19] (fun q wr' => ∃ j : Nat, j ≤ nE ∧ q = .int .i64 j ∧ Hid (Below w6.heap.size w6 wr')) (fun q _ => nE - (intOf q).toNat)
      case atStart => exact ⟨0, by omega, rfl, Lib.hid (Below.refl _ _)⟩
      case round =>
        obtain ⟨j, hj, rfl, hW2⟩ := hrel
        have k3' := (hW2.out.cell (p := ⟨gE, i * 5 + 3, none⟩) (lt_of_cell k3)).trans k3
        have m3' := (hW2.out.cell (p := ⟨gL, i * 5 + 3, none⟩) (lt_of_cell m3)).trans m3
        have k4' := (hW2.out.cell (p := ⟨gE, i * 5 + 4, none⟩) (lt_of_cell k4)).trans k4
        have HrL2 := Lib.hid ((HrL1.out.below hW2.out).more hW2.out.size)
        have HrE2 := Lib.hid ((HrE1.out.below hW2.out).more hW2.out.size)
        clear k3 k4 m3 HrL1 HrE1
        by_cases hlj : j < nE
        · obtain ⟨b, off, x, rfl, hbl, hq, h0, h1, h2, h3⟩ := HrE2.out.posts.post HrE2.out.len hlj
          have hxin := HHas.out x (List.mem_of_getElem? hq)
          have HC : Hid (∀ y : Later wr, Calls Tryz.prog 30 #[.slice AL nL cL, .agg #[.int .i64 x.epoch, .int .i64 x.origin, .int .i64 x.number, .string x.text]] y.W fun e w' => e = .returned (.bool true) ∧ Below y.W.heap.size y.W w') := Lib.hid fun y => by
            have := has_any y.W AL nL cL rL.posts x ((HrL2.out.posts.below y.is).more y.is.size) HrL2.out.len HrL2.out.few
            rw [decide_eq_true hxin] at this
            exact this
          have q0 := Later.of h0
          have q1 := Later.of h1
          have q2 := Later.of h2
          have q3 := Later.of h3
          have L1 := Later.of m3'
          have L2 := Later.of k3'
          by_cases hjN : j < N
          · obtain ⟨b', off', x', rfl, hbl', hq', g0, g1, g2, g3⟩ := HrL2.out.posts.post HrL2.out.len (j := j) (by omega)
            obtain rfl : x' = x := by
              have := HSame.out j hjN
              rw [hq', hq] at this
              exact Option.some.inj this
            have p0 := Later.of g0
            have p1 := Later.of g1
            have p2 := Later.of g2
            have p3 := Later.of g3
            have hp := post_neq x' x'
            unfold aggP at hp
            have e2 : (!decide (x' = x')) = false := by simp
            rw [e2] at hp
            clear e2 hq hq' hxin HrL2 HrE2
            go_wp2_with fail
            refine wp_region_later (by kernel_rfl) (by kernel_rfl) ?_
            repeat (go_big_quiet_step ((go_at_call 30; with_reducible exact later_of (HC.out _))))
            refine wpQuiet_nil ?_
            rintro W8 ⟨⟨_, hW8⟩, rfl⟩
            clear L1 L2 HC q0 q1 q2 q3 p0 p1 p2 p3 hp
            have hW9 := Lib.hid (hW2.out.trans (hW8.mono hW2.out.size))
            clear hW8
            go_wp2_with fail
            go_roundw
            case rel => exact ⟨j + 1, by omega, by go_num, hW9⟩
            case measure => simp [intOf]; omega
          · clear hq hxin HrL2 HrE2
            go_wp2_with fail
            refine wp_region_later (by kernel_rfl) (by kernel_rfl) ?_
            repeat (go_big_quiet_step ((go_at_call 30; with_reducible exact later_of (HC.out _))))
            refine wpQuiet_nil ?_
            rintro W8 ⟨⟨_, hW8⟩, rfl⟩
            clear L1 L2 HC q0 q1 q2 q3
            have hW9 := Lib.hid (hW2.out.trans (hW8.mono hW2.out.size))
            clear hW8
            go_wp2_with fail
            go_roundw
            case rel => exact ⟨j + 1, by omega, by go_num, hW9⟩
            case measure => simp [intOf]; omega
        · obtain ⟨hbk, hok, rfl, hblk, hcell⟩ := HrE2.out.heard.2 (by omega)
          have hhl : rE.heard.length = K := HrE2.out.len'
          have HCell := Lib.hid hcell
          have HHL := Lib.hid hhl
          have c0 : wr.cell? ⟨hbk, hok, none⟩ = some (.int .i64 (rE.heard.getD 0 0)) := by
            have := hcell 0 (.int .i64 (rE.heard.getD 0 0)) (by
              rw [List.getElem?_map, List.getD_eq_getElem?_getD, List.getElem?_eq_getElem (by omega : 0 < rE.heard.length)]; rfl)
            exact this
          clear hcell hhl
          go_wp2_with fail
          go_loopw [20, 21] (fun s q wr' => ∃ t : Nat, t ≤ K ∧ s = .int .i64 (minF rE.heard t) ∧ q = .int .i64 t ∧ wr' = wr) (fun _ q _ => K - (intOf q).toNat)
          case atStart => exact ⟨0, by omega, rfl, rfl, rfl⟩
          case round =>
            obtain ⟨t, ht, rfl, rfl, rfl⟩ := hrel
            by_cases hlt3 : t < K
            · obtain ⟨y, hy⟩ : ∃ y, rE.heard[t]? = some y := ⟨_, List.getElem?_eq_getElem (by rw [HHL.out]; exact hlt3)⟩
              have ct := HCell.out t (.int .i64 y) (by rw [List.getElem?_map, hy]; rfl)
              have HM := Lib.hid (minF_succ hy)
              generalize minF rE.heard t = mv at HM ⊢
              clear hy
              go_wp2_with fail
              go_roundw
              case rel => exact ⟨t + 1, by omega, by rw [HM.out], by go_num, trivial⟩
              case measure => simp [intOf]; omega
            · have htK : t = K := by omega
              subst htK
              have HLE := Lib.hid (minF_all HHL.out (by omega : 0 < t))
              generalize minF rE.heard t = LE at HLE ⊢
              have hW5 := Lib.hid (hW6.out.trans (hW2.out.mono hW6.out.size))
              have hz6 := hW2.out.size
              clear HCell c0 hW6 hW2 HHL HHas HSame
              go_wp2_with fail
              rename World => Wm
              go_loopw [22] (fun q wr4 => ∃ j : Nat, j ≤ t ∧ q = .int .i64 j ∧ Hid (Below Wm.heap.size Wm wr4)) (fun q _ => t - (intOf q).toNat)
              case atStart => exact ⟨0, by omega, rfl, Lib.hid (Below.refl _ _)⟩
              case round =>
                obtain ⟨j4, hj4, rfl, hW4⟩ := hrel
                have k3w := (hW4.out.cell (p := ⟨gE, i * 5 + 3, none⟩) (lt_of_cell k3')).trans k3'
                have HrE4 := Lib.hid ((HrE2.out.below hW4.out).more hW4.out.size)
                by_cases hlt4 : j4 < t
                · obtain ⟨⟨rO, AO, nO, cO, AO', nO', cO'⟩, eo, ⟨_, _, _, o3, _⟩, hrO, hcapO⟩ := (RO.out.below (hW5.out.trans (hW4.out.mono hW5.out.size))) j4 hlt4
                  obtain ⟨⟨rL2, AL2, nL2, cL2, AL2', nL2', cL2'⟩, el2, ⟨_, _, _, l3, _⟩, hrL2, hcapL2⟩ := (RL.out.below (hW5.out.trans (hW4.out.mono hW5.out.size))) j4 hlt4
                  simp only at eo o3 hrO hcapO el2 l3 hrL2 hcapL2
                  have hO := HAllO.out j4 hlt4
                  have hL := HAllL.out j4 hlt4
                  rw [← eo] at hO
                  rw [← el2] at hL
                  have HO := Lib.hid hO
                  have HL2 := Lib.hid hL
                  have HrO := Lib.hid hrO
                  have HrL3 := Lib.hid hrL2
                  have hzz := hW4.out.size
                  clear hO hL hrO hrL2 eo el2 hcapO hcapL2
                  have L1 := Later.of o3
                  have L2 := Later.of l3
                  go_wp2_with fail
                  refine Loose.wp_region_later [(10, .row wr.heap.size 23 2 #[.slice AO nO cO, .slice AL2 nL2 cL2])] 13 (by kernel_rfl) (by kernel_rfl) ?_
                  (simp only [List.take_succ_cons, List.take_zero, List.drop_succ_cons, List.drop_zero])
                  (repeat (first | refine Loose.walk_skip rfl ?_ | (refine Loose.walk_plain rfl rfl rfl (fun K hK => ?_); go_big_quiet_op; refine hK _ ?_; clear hK K)))
                  refine Loose.walk_loose rfl rfl (fun W' hW' _ => Loose.loose_val (u := .slice (some ⟨W'.heap.size, 0, none⟩) 2 2) (W' := W'.alloc (.cells #[.slice AO nO cO, .slice AL2 nL2 cL2] 23)) (by kernel_rfl) ((Below.refl _ _).alloc (Nat.le_refl _) _) ⟨_, rfl, hW'.size, Blk.new _ _ _⟩) ?_
                  rintro _ _ _ ⟨x, rfl, hx, _⟩
                  (simp only [Act.put, List.setIfInBounds_toArray, List.set_cons_succ, List.set_cons_zero])
                  (repeat (first | refine Loose.walk_skip rfl ?_ | (refine Loose.walk_plain rfl rfl rfl (fun K hK => ?_); go_big_quiet_op; refine hK _ ?_; clear hK K)))
                  refine Loose.walk_nil ?_
                  rintro U hU hC
                  have hHO := Lib.hid ((HrO.out.below hU).more hU.size)
                  have hHL := Lib.hid ((HrL3.out.below hU).more hU.size)
                  have HrE5 := Lib.hid ((HrE4.out.below hU).more hU.size)
                  have k3u := (hU.cell (p := ⟨gE, i * 5 + 3, none⟩) (lt_of_cell k3w)).trans k3w
                  have HW4 := Lib.hid (hW4.out.trans (hU.mono hW4.out.size))
                  have hrow := (Loose.Pred.row_at (B := wr.heap.size) (t := 23) (n := 2) (cs := #[.slice AO nO cO, .slice AL2 nL2 cL2]) (x := x) (W := U) hC.2).2
                  have HC := Lib.hid hrow
                  have hxlt := hrow.lt
                  clear hU hC hrow L1 L2 o3 l3 k3w HrE4 HrO HrL3 hW4
                  go_wp2_with fail
                  go_loopw [232] (fun q wr5 => ∃ i5 : Nat, i5 ≤ 2 ∧ q = .int .i64 i5 ∧ Hid (Below U.heap.size U wr5)) (fun q _ => 2 - (intOf q).toNat)
                  case atStart => exact ⟨0, by omega, rfl, Lib.hid (Below.refl _ _)⟩
                  case round =>
                    obtain ⟨i5, hi5, rfl, hW5'⟩ := hrel
                    by_cases hlt5 : i5 < 2
                    · obtain ⟨AX, nX, cX, lX, hcell, hX, hlX, hnX, hallX⟩ : ∃ (AX : Option Addr) (nX cX : Nat) (lX : List Rp.Post), wr.cell? ⟨x, i5, none⟩ = some (.slice AX nX cX) ∧ Hid (Reads wr wr.heap.size 4 AX nX (encPs lX)) ∧ Hid (lX.length = nX) ∧ nX ≤ 16777216 ∧ Hid (∀ p ∈ lX, p.epoch ≤ Rp.least rE.heard → p ∈ rE.posts.take N) := by
                        have hb5 := HC.out.below hW5'.out hxlt
                        have b0 := hb5.cell 0
                        have b1 := hb5.cell 1
                        simp only [List.getElem?_toArray, List.getElem?_cons_zero, List.getElem?_cons_succ] at b0 b1
                        have r0 := (hHO.out.below hW5'.out).more hW5'.out.size
                        have r1 := (hHL.out.below hW5'.out).more hW5'.out.size
                        rcases (by omega : i5 = 0 ∨ i5 = 1) with h | h
                        · rw [h]
                          exact ⟨AO, nO, cO, rO.posts, b0, Lib.hid r0.posts, Lib.hid r0.len, r0.few, HO⟩
                        · rw [h]
                          exact ⟨AL2, nL2, cL2, rL2.posts, b1, Lib.hid r1.posts, Lib.hid r1.len, r1.few, HL2⟩
                      have k3x := (hW5'.out.cell (p := ⟨gE, i * 5 + 3, none⟩) (lt_of_cell k3u)).trans k3u
                      have HrE6 := Lib.hid ((HrE5.out.below hW5'.out).more hW5'.out.size)
                      clear k3u HrE5
                      go_wp2_with fail
                      generalize decide ((i5 : Int) < 2) = bb
                      rename World => Wn
                      go_loopw [25] (fun q wr6 => ∃ p : Nat, p ≤ nX ∧ q = .int .i64 p ∧ Hid (Below Wn.heap.size Wn wr6)) (fun q _ => nX - (intOf q).toNat)
                      case atStart => exact ⟨0, by omega, rfl, Lib.hid (Below.refl _ _)⟩
                      case round =>
                        obtain ⟨p, hp, rfl, hW6'⟩ := hrel
                        have HX6 := Lib.hid ((hX.out.below hW6'.out).more hW6'.out.size)
                        have k3y := (hW6'.out.cell (p := ⟨gE, i * 5 + 3, none⟩) (lt_of_cell k3x)).trans k3x
                        have HrE7 := Lib.hid ((HrE6.out.below hW6'.out).more hW6'.out.size)
                        by_cases hlp : p < nX
                        · obtain ⟨b, off, y, rfl, hbl, hq, h0, h1, h2, h3⟩ := HX6.out.post hlX.out hlp
                          by_cases hle6 : y.epoch ≤ LE
                          · have hin := hallX.out y (List.mem_of_getElem? hq) (by rw [← HLE.out]; exact hle6)
                            have HC6 : Hid (∀ z : Later wr, Calls Tryz.prog 30 #[.slice AE N cE, .agg #[.int .i64 y.epoch, .int .i64 y.origin, .int .i64 y.number, .string y.text]] z.W fun e w' => e = .returned (.bool true) ∧ Below z.W.heap.size z.W w') := Lib.hid fun z => by
                              have hr := (HrE7.out.below z.is).more z.is.size
                              have := has_any z.W AE N cE (rE.posts.take N) y (hr.posts.ps_take hr.len N hle) (by rw [List.length_take, hr.len]; exact Nat.min_eq_left hle) (by omega)
                              rw [decide_eq_true hin] at this
                              exact this
                            have q0 := Later.of h0
                            have q1 := Later.of h1
                            have q2 := Later.of h2
                            have q3 := Later.of h3
                            have L2 := Later.of k3y
                            clear hq hin HrE7 HX6
                            go_wp2_with fail
                            refine wp_region_later (by kernel_rfl) (by kernel_rfl) ?_
                            repeat (go_big_quiet_step ((go_at_call 30; with_reducible exact later_of (HC6.out _))))
                            refine wpQuiet_nil ?_
                            rintro W8 ⟨⟨_, hW8⟩, rfl⟩
                            clear L2 HC6 q0 q1 q2 q3
                            have hW9 := Lib.hid (hW6'.out.trans (hW8.mono hW6'.out.size))
                            clear hW8
                            go_wp2_with fail
                            go_roundw
                            case rel => exact ⟨p + 1, by omega, by go_num, hW9⟩
                            case measure => simp [intOf]; omega
                          · have hle7 := Lib.hid hle6
                            have q0 := Later.of h0
                            clear hq HrE7 HX6 h1 h2 h3 hle6
                            go_wp2_with fail
                            have hle8 : decide (y.epoch ≤ LE) = false := decide_eq_false (by have := hle7.out; omega)
                            refine wp_region_later (by kernel_rfl) (by kernel_rfl) ?_
                            repeat (go_big_quiet_step (fail))
                            refine wpQuiet_nil ?_
                            rintro W8 ⟨⟨_, hW8⟩, rfl⟩
                            have hW9 := Lib.hid (hW6'.out.trans (hW8.mono hW6'.out.size))
                            clear hW8 q0 hle8 h0
                            go_wp2_with fail
                            go_roundw
                            case rel => exact ⟨p + 1, by omega, by go_num, hW9⟩
                            case measure => simp [intOf]; omega
                        · have hpn : ¬ ((p : Int) < nX) := by omega
                          go_wp2_with fail
                          go_roundw
                          case rel => exact ⟨i5 + 1, by omega, by go_num, Lib.hid (hW5'.out.trans (hW6'.out.mono hW5'.out.size))⟩
                          case measure => simp [intOf]; omega
                    · have hge5 : ¬ ((i5 : Int) < 2) := by omega
                      go_wp2_with fail
                      go_roundw
                      case rel => exact ⟨j4 + 1, by omega, by go_num, Lib.hid (HW4.out.trans (hW5'.out.mono HW4.out.size))⟩
                      case measure => simp [intOf]; omega
                · have hjt : j4 = t := by omega
                  subst hjt
                  go_wp2_with fail
                  go_roundw
                  case rel => exact ⟨i + 1, by omega, by go_num, Lib.hid (hW5.out.trans (hW4.out.mono hW5.out.size))⟩
                  case measure => simp [intOf]; omega
    · have hiK : i = K := by omega
      subst hiK
      have HBF := Lib.hid (HB5.out.trans (hW.out.mono HB5.out.size))
      go_wp2_with fail
      exact bodyPost_ret (v := .bool true) (by simp [results, Tryz.results4, go_sem]) rfl ⟨rfl, HBF.out⟩
end Go.Proofs.YtnehgpeelgjjhaaGreatDoor.Tw
