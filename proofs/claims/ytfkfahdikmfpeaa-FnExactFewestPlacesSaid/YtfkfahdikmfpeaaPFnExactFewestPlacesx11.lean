-- Printed by wip/tools/myprint.py (the printer of the kit, patched by that program; roots chosen by it)
import Derived.Test.YtfkfahdikmfpeaaCl
import Derived.Test.YtfkfahdikmfpeaaPFnExactFewestPlacesx0
import Derived.Test.YtfkfahdikmfpeaaPFnExactFewestPlacesx1
import Derived.Test.YtfkfahdikmfpeaaPFnExactFewestPlacesx8
import Derived.Test.YtfkfahdikmfpeaaPFnExactFewestPlacesx10
import Derived.Test.YtfkfahdikmfpeaaSh
namespace Go.Proofs.Ytfkfahdikmfpeaa.PFnExactFewestPlaces
open Go.RowKit Go.Proofs.Ytfkfahdikmfpeaa.Sh Go.Proofs.YtfkfahdikmfpeaaW.PrintWords Go.Proofs.YtfkfahdikmfpeaaW.PrintLast Go.Proofs.YtfkfahdikmfpeaaW.PrintMore
attribute [local go_sem] max2_int min2_int max_two min_two max_three min_three max_four min_four   -- for this text's walks alone
set_option linter.unusedVariables false
set_option linter.unusedSimpArgs false

/-! ### impl_FewestPlaces: function 31 -/
def impl_FewestPlaces.sets : Nat → Nat → Int → List Int → List (List Int)
 | _, 0, _, s => [s]
 | 0, _ + 1, _, _ => []
 | m + 1, d + 1, i, s => impl_FewestPlaces.sets m d (i + 1) (s ++ [i]) ++ impl_FewestPlaces.sets m (d + 1) (i + 1) s
def impl_FewestPlaces.keep (k : Nat) (P : List (List Int)) (L s : List Int) : Bool := (impl_Sample_keeps.f k P L s).getD false
def impl_FewestPlaces.good (k : Nat) (P : List (List Int)) (L s : List Int) : Bool := (impl_Sample_keeps.f k P L s).isSome
theorem impl_FewestPlaces.keep_of {k : Nat} {P : List (List Int)} {L s : List Int} (h : impl_FewestPlaces.good k P L s = true) : impl_Sample_keeps.f k P L s = some (impl_FewestPlaces.keep k P L s) := by
 obtain ⟨r, hr⟩ := Option.isSome_iff_exists.1 h
 simp only [impl_FewestPlaces.keep, hr, Option.getD_some]
theorem impl_FewestPlaces.cop {l : List Int} (h : l.length < 1000) : impl_copied.f l = some l := by
 have : ([] : List Int).length + l.length < 17592186044416 := by simp; omega
 simp only [impl_copied.f, Option.bind_some, if_pos this, List.nil_append]
set_option maxHeartbeats 8000000 in
set_option maxRecDepth 100000 in
theorem impl_FewestPlaces.vis (k : Nat) (A0_0 : Option Addr) (c0_0 : Nat) (P : List (List Int)) (A0_1 : Option Addr) (c0_1 : Nat) (L : List Int) (A : Option Addr) (c : Nat) (s : List Int) (gO gS : Nat) (w00 w : World) (hr0_0 : Kd.C (Kd.slice 3 (Kd.int .i64)) w00 A0_0 P.length P) (hc0_0 : P.length ≤ c0_0) (hr0_1 : Kd.C (Kd.int .i64) w00 A0_1 L.length L) (hc0_1 : L.length ≤ c0_1)
 (hb00 : Below w00.heap.size w00 w) (hgO : w00.heap.size ≤ gO) (hout : ∃ v, w.heap[gO]? = some (.cells #[v] 22 (0, 0))) (hS : w.heap[gS]? = some (.cells #[.slice A0_0 P.length c0_0, .slice A0_1 L.length c0_1] 52 (0, 0)))
 (hset : ∀ W', Kept w W' (fun q => q = gO) → Kd.C (Kd.int .i64) W' A s.length s) (hc : s.length ≤ c) (h1000 : s.length < 1000) (hg : impl_FewestPlaces.good k P L s = true) :
 Calls Try.prog 80 #[.slice A s.length c, .pointer (some ⟨gO, 0, none⟩), .pointer (some ⟨gS, 0, none⟩)] w fun e w' => e = .returned (.bool (impl_FewestPlaces.keep k P L s)) ∧ Below w00.heap.size w00 w' ∧ Kept w w' (fun q => q = gO) ∧ ∃ v, w'.heap[gO]? = some (.cells #[v] 22 (0, 0)) ∧ Kd.R (Kd.int .i64) 3 w' w00.heap.size (fun _ => True) v s := by
 have hu := Try.underlying52
 have hk := impl_FewestPlaces.keep_of hg
 obtain ⟨r, hr⟩ : ∃ r, impl_FewestPlaces.keep k P L s = r := ⟨_, rfl⟩
 rw [hr] at hk ⊢
 clear hr hg
 have HK := Aside0.mk hk
 have HF := Aside0.mk (impl_FewestPlaces.cop h1000)
 clear hk h1000
 have HR0_0 := Aside0.mk hr0_0
 have HC0_0 := Aside0.mk hc0_0
 have HR0_1 := Aside0.mk hr0_1
 have HC0_1 := Aside0.mk hc0_1
 have HSET := Aside0.mk hset
 have HCS := Aside0.mk hc
 have HB := Aside0.mk hb00
 have HGO := Aside0.mk hgO
 have HBW := Aside0.mk hb00.size
 obtain ⟨vo, hout⟩ := hout
 have BKO := Aside0.mk hout
 have BKS := Aside0.mk hS
 have NE := Aside0.mk (blk_ne hS hout (by decide) : gS ≠ gO)
 clear hr0_0 hc0_0 hr0_1 hc0_1 hset hc hb00 hgO hout hS
 go_enter Try.func80, Try.ntmps80
 go_wp2_with (first | ((with_reducible refine gate_callee (f := 81) rfl ?_); refine goesL_ (some 6) rfl rfl Try.func81 (by kernel_rfl) rfl #[.slice A s.length c] rfl aT ?_; (with_reducible refine (impl_copied.calls _ _ s s _ ?side1 ?side2 HF.out).mono ?_); (case side1 => exact HSET.out _ (Kept.refl _ _)); (case side2 => exact HCS.out); rintro e w9 ⟨v9, rfl, ho, hb⟩; refine ⟨_, rfl, ?_⟩; obtain ⟨Av, cv, ev⟩ := Kd.R_slice ho; subst ev; have n0_ := Aside0.mk (below_step (bB HB) hb); have n1_ := Aside0.mk (bW BKO hb); have n2_ := Aside0.mk (bW BKS hb); have HV := Aside0.mk ho; have HKW := Aside0.mk (Kept.of_below hb (fun q => q = gO)); have HLO := Aside0.mk (blk_lt BKO.out); clear HB BKO BKS; have HB := n0_; have BKO := n1_; have BKS := n2_; clear n0_ n1_ n2_ hb ho; have hcz := (blk_cell BKO.out 0).trans rfl; have hfz := blk_frozen BKO.out 0) | ((with_reducible refine gate_store (t := 22) (p := 1) rfl ?_); refine store_event (t := 22) (p := 1) (v := ?vo_w11) (w1 := (w9.setCell ⟨gO, 0, none⟩ (.slice Av s.length cv))) ?hg ?ho ?hn ?hr ?_; (case ho => rfl); (case hg => rfl); (case hn => rfl); (case hr => first | (go_simp; done) | (go_simp; rfl)); intro w11 hw; have n0_ : Aside0 (Below w00.heap.size w00 w11) := Aside0.mk (by rw [hw]; exact below_set HB.out HGO.out); have n1_ : Aside0 (w11.heap[gO]? = some (.cells #[.slice Av s.length cv] 22 (0, 0))) := Aside0.mk (by rw [hw]; exact (blk_set BKO.out 0 _).trans rfl); have n2_ : Aside0 (w11.heap[gS]? = some (.cells #[.slice A0_0 P.length c0_0, .slice A0_1 L.length c0_1] 52 (0, 0))) := Aside0.mk (by rw [hw]; exact blk_far BKS.out NE.out _); have n3_ : Aside0 (Kept w w11 (fun q => q = gO)) := Aside0.mk (by rw [hw]; exact Kept.setCell HKW.out (.inl rfl) _); have n4_ : Aside0 (Kd.R (Kd.int .i64) 3 w11 w.heap.size (fun _ => True) (.slice Av s.length cv) s) := Aside0.mk (by rw [hw]; exact Kd.R_mono (Kd.R_far (ok := fun q => q ≠ gO) (Kd.R_mono (Kd.R_bound HV.out) (fun q hq => by have := hq.2.1; have := HLO.out; omega)) (fun q hq => hq) _) (fun _ _ => trivial)); clear HB BKO BKS HKW HV hcz hfz hw; have HB := n0_; have BKO := n1_; have BKS := n2_; have HKW := n3_; have HV := n4_; clear n0_ n1_ n2_ n3_ n4_; have hcz0 := (blk_cell BKS.out 0).trans rfl; have hcz1 := (blk_cell BKS.out 1).trans rfl) | ((with_reducible refine gate_callee (f := 82) rfl ?_); refine goesL_ (some 9) rfl rfl Try.func82 (by kernel_rfl) rfl #[.agg #[.slice A0_0 P.length c0_0, .slice A0_1 L.length c0_1], .slice A s.length c] rfl aT ?_; (with_reducible refine (impl_Sample_keeps.calls k _ _ P _ _ L _ _ s r _ ?side1 ?side2 ?side3 ?side4 ?side5 ?side6 HK.out).mono ?_); (case side1 => exact Kd.C_below HR0_0.out HB.out); (case side2 => exact HC0_0.out); (case side3 => exact Kd.C_below HR0_1.out HB.out); (case side4 => exact HC0_1.out); (case side5 => exact HSET.out _ HKW.out); (case side6 => exact HCS.out); rintro e w13 ⟨rfl, hb⟩; refine ⟨_, rfl, ?_⟩; have HBF := Aside0.mk hb; clear hb hcz0 hcz1))
 go_ret
 exact ⟨rfl, below_step HB.out HBF.out, HKW.out.below HBF.out, _, blk_below BKO.out HBF.out, Kd.R_below (Kd.R_lower HV.out HBW.out) HBF.out⟩
theorem impl_FewestPlaces.sets_zero (m : Nat) (x : Int) (s : List Int) : impl_FewestPlaces.sets m 0 x s = [s] := by cases m <;> rfl
theorem impl_FewestPlaces.sets_succ (m d : Nat) (x : Int) (s : List Int) : impl_FewestPlaces.sets (m + 1) (d + 1) x s = impl_FewestPlaces.sets m d (x + 1) (s ++ [x]) ++ impl_FewestPlaces.sets m (d + 1) (x + 1) s := rfl
set_option maxHeartbeats 8000000 in
set_option maxRecDepth 100000 in
theorem impl_FewestPlaces.go (k kk : Nat) (A0_0 : Option Addr) (c0_0 : Nat) (P : List (List Int)) (A0_1 : Option Addr) (c0_1 : Nat) (L : List Int) (n : Int) (gK gV gN gG gO gS : Nat) (w00 wB : World) (hr0_0 : Kd.C (Kd.slice 3 (Kd.int .i64)) w00 A0_0 P.length P) (hc0_0 : P.length ≤ c0_0) (hr0_1 : Kd.C (Kd.int .i64) w00 A0_1 L.length L) (hc0_1 : L.length ≤ c0_1)
 (hgO : w00.heap.size ≤ gO) (hK : wB.heap[gK]? = some (.cells #[.int .i64 (kk : Int)] 3 (0, 0))) (hV : wB.heap[gV]? = some (.cells #[.func (.func 80) #[] #[.pointer (some ⟨gO, 0, none⟩), .pointer (some ⟨gS, 0, none⟩)]] 94 (0, 0))) (hN : wB.heap[gN]? = some (.cells #[.int .i64 n] 3 (0, 0)))
 (hG : wB.heap[gG]? = some (.cells #[.func (.func 135) #[] #[.pointer (some ⟨gK, 0, none⟩), .pointer (some ⟨gV, 0, none⟩), .pointer (some ⟨gN, 0, none⟩), .pointer (some ⟨gG, 0, none⟩)]] 114 (0, 0))) (hS : wB.heap[gS]? = some (.cells #[.slice A0_0 P.length c0_0, .slice A0_1 L.length c0_1] 52 (0, 0)))
 (nK : gK ≠ gO) (nV : gV ≠ gO) (nN : gN ≠ gO) (nG : gG ≠ gO) (nS : gS ≠ gO) (hkk : kk < 1000) (hn : n < 1000) :
 ∀ (d m : Nat) (x : Int) (s : List Int) (A : Option Addr) (c : Nat) (w : World), 0 ≤ x → x + m = n → s.length + d = kk → (∀ t ∈ impl_FewestPlaces.sets m d x s, impl_FewestPlaces.good k P L t = true) → Below w00.heap.size w00 w → Kept wB w (fun q => q = gO) → (∃ v, w.heap[gO]? = some (.cells #[v] 22 (0, 0))) → (∀ W', Kept w W' (fun q => q = gO) → Kd.C (Kd.int .i64) W' A s.length s) → s.length ≤ c →
 Calls Try.prog 135 #[.slice A s.length c, .int .i64 x, .pointer (some ⟨gK, 0, none⟩), .pointer (some ⟨gV, 0, none⟩), .pointer (some ⟨gN, 0, none⟩), .pointer (some ⟨gG, 0, none⟩)] w fun e w' => e = .returned (.bool ((impl_FewestPlaces.sets m d x s).find? (impl_FewestPlaces.keep k P L)).isSome) ∧ Below w00.heap.size w00 w' ∧ Kept w w' (fun q => q = gO) ∧ (∃ v, w'.heap[gO]? = some (.cells #[v] 22 (0, 0))) ∧ ∀ t, (impl_FewestPlaces.sets m d x s).find? (impl_FewestPlaces.keep k P L) = some t → ∃ v, w'.heap[gO]? = some (.cells #[v] 22 (0, 0)) ∧ Kd.R (Kd.int .i64) 3 w' w00.heap.size (fun _ => True) v t := by
 have hu := Try.underlying52
 have NK := Aside0.mk nK
 have NV := Aside0.mk nV
 have NN := Aside0.mk nN
 have NG := Aside0.mk nG
 have NS := Aside0.mk nS
 have QK := Aside0.mk hK
 have QV := Aside0.mk hV
 have QN := Aside0.mk hN
 have QG := Aside0.mk hG
 have QS := Aside0.mk hS
 have HR0_0 := Aside0.mk hr0_0
 have HC0_0 := Aside0.mk hc0_0
 have HR0_1 := Aside0.mk hr0_1
 have HC0_1 := Aside0.mk hc0_1
 have HGO := Aside0.mk hgO
 have HKK := Aside0.mk hkk
 have HNN := Aside0.mk hn
 clear nK nV nN nG nS hK hV hN hG hS hr0_0 hc0_0 hr0_1 hc0_1 hgO hkk hn
 intro d
 induction d with
 | zero =>
  intro m x s A c w h0 hx hsl hgd hb hkb hou hset hc
  rw [impl_FewestPlaces.sets_zero] at hgd ⊢
  have hg := hgd s (List.mem_singleton_self s)
  clear hgd
  have hlen : s.length < 1000 := by have := HKK.out; omega
  have HVIS := Aside0.mk (impl_FewestPlaces.vis k A0_0 c0_0 P A0_1 c0_1 L A c s gO gS w00 w HR0_0.out HC0_0.out HR0_1.out HC0_1.out hb HGO.out hou (blk_kept QS.out hkb NS.out) hset hc hlen hg)
  have hcz0 : w.cell? ⟨gK, 0, none⟩ = some (.int .i64 (kk : Int)) := (blk_cell (blk_kept QK.out hkb NK.out) 0).trans rfl
  have hcz1 : w.cell? ⟨gV, 0, none⟩ = some (.func (.func 80) #[] #[.pointer (some ⟨gO, 0, none⟩), .pointer (some ⟨gS, 0, none⟩)]) := (blk_cell (blk_kept QV.out hkb NV.out) 0).trans rfl
  have c0b0 : ((s.length : Int) == (kk : Int)) = true := beq_iff_eq.mpr (by omega)
  have c0b1 : (s.length == kk) = true := beq_iff_eq.mpr (by omega)
  clear hb hkb hou hset hc hlen hsl hx h0
  go_enter Try.func135, Try.ntmps135
  go_wp2_with (first | ((with_reducible refine gate_dst (N := 16) rfl ?_); refine Go.Proofs.Ytfkfahdikmfpeaa.Cl.goesVL_ (some 16) rfl rfl #[.pointer (some ⟨gO, 0, none⟩), .pointer (some ⟨gS, 0, none⟩)] Try.func80 (by kernel_rfl) rfl #[.slice A s.length c, .pointer (some ⟨gO, 0, none⟩), .pointer (some ⟨gS, 0, none⟩)] rfl (by rfl) Go.Proofs.Ytfkfahdikmfpeaa.Cl.aV ?_; refine HVIS.out.mono ?_; rintro e w9 ⟨rfl, hb9, hk9, v9, ho9, hR9⟩; refine ⟨_, rfl, ?_⟩; have HB9 := Aside0.mk hb9; have HK9 := Aside0.mk hk9; have HO9 := Aside0.mk ho9; have HR9 := Aside0.mk hR9; clear hb9 hk9 ho9 hR9 hcz0 hcz1 HVIS))
  go_ret
  refine ⟨?_, HB9.out, HK9.out, ⟨_, HO9.out⟩, fun t ht => ?_⟩
  · rw [List.find?_cons]
    cases hq : impl_FewestPlaces.keep k P L s <;> simp
  · rw [List.find?_cons] at ht
    cases hq : impl_FewestPlaces.keep k P L s with
    | false => rw [hq] at ht; simp at ht
    | true =>
     rw [hq] at ht
     obtain rfl := Option.some.inj ht
     exact ⟨_, HO9.out, HR9.out⟩
 | succ d ih =>
  intro M X s A c w h0 hx hsl hgd hb hkb hou hset hc
  obtain ⟨i0_, hi0_, _, hsz0_, _⟩ := info_parts info3
  have hcut0 := Go.Proofs.Ytfkfahdikmfpeaa.Cl.cut_full (P := Try.prog) 22 3 Try.underlying22 hi0_ A s.length c hc
  clear hi0_ hsz0_
  have HSL := Aside0.mk hsl
  have HSET := Aside0.mk hset
  have HCS := Aside0.mk hc
  have HKB := Aside0.mk hkb
  have HLN := Aside0.mk (by have := HKK.out; omega : s.length < 1000)
  have HX0 := Aside0.mk (⟨hx, h0⟩ : X + (M : Int) = n ∧ 0 ≤ X)
  have HGD := Aside0.mk hgd
  have HB := Aside0.mk hb
  have HOU := Aside0.mk hou
  have HKW := Aside0.mk (Kept.refl w (fun q => q = gO))
  have hcz0 : w.cell? ⟨gK, 0, none⟩ = some (.int .i64 (kk : Int)) := (blk_cell (blk_kept QK.out hkb NK.out) 0).trans rfl
  have c0b0 : ((s.length : Int) == (kk : Int)) = false := beq_eq_false_iff_ne.mpr (by omega)
  have c0b1 : (s.length == kk) = false := beq_eq_false_iff_ne.mpr (by omega)
  obtain ⟨res, hres⟩ : ∃ r, (impl_FewestPlaces.sets M (d + 1) X s).find? (impl_FewestPlaces.keep k P L) = r := ⟨_, rfl⟩
  rw [hres]
  have HRES := Aside0.mk hres
  clear h0 hx hsl hgd hb hkb hou hset hc hres
  go_enter Try.func135, Try.ntmps135
  go_wp2
  clear hcz0
  go_loopg [9] (M + 1) (fun kq v9 w' => ∃ (mq : Nat) (x : Int), v9 = .int .i64 x ∧ Aside0 (mq < kq) ∧ Aside0 (kq ≤ M + 1) ∧ Aside0 (x + (mq : Int) = n ∧ 0 ≤ x) ∧ Aside0 ((impl_FewestPlaces.sets mq (d + 1) x s).find? (impl_FewestPlaces.keep k P L) = res) ∧ Aside0 (∀ t ∈ impl_FewestPlaces.sets mq (d + 1) x s, impl_FewestPlaces.good k P L t = true) ∧ Aside0 (Below w00.heap.size w00 w') ∧ Aside0 (Kept w w' (fun q => q = gO)) ∧ Aside0 (∃ v, w'.heap[gO]? = some (.cells #[v] 22 (0, 0))))
  case atStart => exact ⟨M, X, rfl, ⟨Nat.lt_succ_self M⟩, ⟨Nat.le_refl _⟩, HX0, HRES, HGD, HB, HKW, HOU⟩
  case round =>
   clear HX0 HRES HGD HB HKW HOU
   obtain ⟨mq, x, rfl, HMK, HK1, HX, HRES, HGD, HB, HKW, HOU⟩ := hrel
   have hcz0 : wr.cell? ⟨gN, 0, none⟩ = some (.int .i64 n) := (blk_cell (blk_kept QN.out (HKB.out.then_ HKW.out (fun _ hq => .inl hq)) NN.out) 0).trans rfl
   cases gk with
   | zero => exact absurd HMK.out (by omega)
   | succ k1 =>
    cases mq with
    | zero =>
     have c3b0 : decide (x < n) = false := decide_eq_false (by have := HX.out; omega)
     have hr : res = none := HRES.out.symm.trans rfl
     subst hr
     clear HRES
     go_wp2
     go_ret
     exact ⟨rfl, HB.out, HKW.out, HOU.out, fun t ht => by cases ht⟩
    | succ m =>
     have c3b0 : decide (x < n) = true := decide_eq_true (by have := HX.out; omega)
     have HWX := Aside0.mk (by have := HX.out; have := HNN.out; unfold wrap64; omega : wrap64 (x + 1) = x + 1)
     have hres := HRES.out
     rw [impl_FewestPlaces.sets_succ, List.find?_append] at hres
     have HG1 : Aside0 (∀ t ∈ impl_FewestPlaces.sets m d (x + 1) (s ++ [x]), impl_FewestPlaces.good k P L t = true) := Aside0.mk (fun t ht => HGD.out t (by rw [impl_FewestPlaces.sets_succ]; exact List.mem_append_left _ ht))
     have HG2 : Aside0 (∀ t ∈ impl_FewestPlaces.sets m (d + 1) (x + 1) s, impl_FewestPlaces.good k P L t = true) := Aside0.mk (fun t ht => HGD.out t (by rw [impl_FewestPlaces.sets_succ]; exact List.mem_append_right _ ht))
     clear HRES HGD
     obtain ⟨vo, BKO0⟩ := HOU.out
     have BKO := Aside0.mk BKO0
     have BKG := Aside0.mk (blk_kept QG.out (HKB.out.then_ HKW.out (fun _ hq => .inl hq)) NG.out)
     clear HOU BKO0
     cases hfd : (impl_FewestPlaces.sets m d (x + 1) (s ++ [x])).find? (impl_FewestPlaces.keep k P L) with
     | none =>
      rw [hfd, Option.none_or] at hres
      have HFD := Aside0.mk hfd
      have HRES := Aside0.mk hres
      clear hfd hres
      go_wp2
      clear hcz0
      refine start_ (n := 13) (S := fun w' => w'.cell? ⟨gG, 0, none⟩ = some (.func (.func 135) #[] #[.pointer (some ⟨gK, 0, none⟩), .pointer (some ⟨gV, 0, none⟩), .pointer (some ⟨gN, 0, none⟩), .pointer (some ⟨gG, 0, none⟩)])) (ds := []) #[false, false, false, false, false, false, false, false, false, false, false, false, false] (by kernel_rfl) rfl rfl ((blk_cell BKG.out 0).trans rfl) (fun hHeld => ?_)
      have n0_ := Aside0.mk (blk_drew BKG.out)
      have n1_ := Aside0.mk (blk_drew BKO.out)
      have n2_ := Aside0.mk (below_drew1 HB.out)
      have n3_ := Aside0.mk (HKW.out.drew)
      clear BKG BKO HB HKW
      have BKG := n0_
      have BKO := n1_
      have HB := n2_
      have HKW := n3_
      clear n0_ n1_ n2_ n3_
      generalize wr.drew = w13 at BKG BKO HB HKW hHeld ⊢
      refine pure_ (i := 1) (N := some 24) (v := ?_) (a' := ?_) #[false, true, false, false, false, false, false, false, false, false, false, false, false] rfl rfl (by kernel_rfl) (fun _ _ _ h => h) (Or.inl ⟨by rfl, ?_⟩) ?_ ?_
      rotate_left
      · intro w'
        go_simp
        with_reducible rfl
      rotate_left
      · exact aP
      refine pure_ (i := 2) (N := some 25) (v := ?_) (a' := ?_) #[false, true, true, false, false, false, false, false, false, false, false, false, false] rfl rfl (by kernel_rfl) (fun _ _ _ h => h) (Or.inl ⟨by rfl, ?_⟩) ?_ ?_
      rotate_left
      · intro w'
        go_simp
        with_reducible rfl
      rotate_left
      · exact aP
      refine pure_ (i := 3) (N := some 26) (v := ?_) (a' := ?_) #[false, true, true, true, false, false, false, false, false, false, false, false, false] rfl rfl (by kernel_rfl) (fun _ _ _ h => h) (Or.inl ⟨by rfl, ?_⟩) ?_ ?_
      rotate_left
      · intro w'
        go_simp
        with_reducible rfl
      rotate_left
      · exact aP
      refine pure_ (i := 4) (N := some 27) (v := ?_) (a' := ?_) #[false, true, true, true, true, false, false, false, false, false, false, false, false] rfl rfl (by kernel_rfl) (fun _ _ _ h => h) (Or.inl ⟨by rfl, ?_⟩) ?_ ?_
      rotate_left
      · intro w'
        go_simp
        with_reducible rfl
      rotate_left
      · exact aP
      refine pure_ (i := 5) (N := some 28) (v := ?_) (a' := ?_) #[false, true, true, true, true, true, false, false, false, false, false, false, false] rfl rfl (by kernel_rfl) (fun _ _ _ h => h) (Or.inl ⟨by rfl, ?_⟩) ?_ ?_
      rotate_left
      · intro w'
        go_simp
        with_reducible rfl
      rotate_left
      · exact aP
      refine pure_ (i := 6) (N := some 29) (v := ?_) (a' := ?_) #[false, true, true, true, true, true, true, false, false, false, false, false, false] rfl rfl (by kernel_rfl) (fun _ _ _ h => h) (Or.inl ⟨by rfl, ?_⟩) ?_ ?_
      rotate_left
      · intro w'
        go_simp
        with_reducible rfl
      rotate_left
      · exact aP
      refine pure_ (i := 7) (N := some 30) (v := ?_) (a' := ?_) #[false, true, true, true, true, true, true, true, false, false, false, false, false] rfl rfl (by kernel_rfl) (fun _ _ _ h => h) (Or.inl ⟨by rfl, ?_⟩) ?_ ?_
      rotate_left
      · intro w'
        go_simp
        with_reducible rfl
      rotate_left
      · exact aP
      refine pure_ (i := 10) (N := some 33) (v := ?_) (a' := ?_) #[false, true, true, true, true, true, true, true, false, false, true, false, false] rfl rfl (by kernel_rfl) (fun _ _ _ h => h) (Or.inl ⟨by rfl, ?_⟩) ?_ ?_
      rotate_left
      · intro w'
        go_simp
        with_reducible rfl
      rotate_left
      · exact aP
      refine pure_ (i := 11) (N := some 34) (v := ?_) (a' := ?_) #[false, true, true, true, true, true, true, true, false, false, true, true, false] rfl rfl (by kernel_rfl) (fun _ _ _ h => h) (Or.inl ⟨by rfl, ?_⟩) ?_ ?_
      rotate_left
      · intro w'
        go_simp
        with_reducible rfl
      rotate_left
      · exact aP
      refine take_ (i := 0) (N := some 23) (v := ?_) (a' := ?_) #[true, true, true, true, true, true, true, true, false, false, true, true, false] rfl rfl (by kernel_rfl) (fun _ _ _ h => h) (Or.inl ⟨by rfl, ?_⟩) hHeld ?_ ?_
      rotate_left
      · rintro w' s0
        go_simp
        with_reducible rfl
      rotate_left
      · exact aP
      refine one_ (i := 8) (N := some 31) #[true, true, true, true, true, true, true, true, true, false, true, true, false] rfl rfl (by kernel_rfl) (by decide) (fun K hK => ?_)
      refine event_step (v := .slice (some ⟨w13.heap.size, 0, none⟩) 1 1) (w1 := w13.alloc (.cells #[.int .i64 x] 3)) (by rfl) (by first | (go_simp; done) | (go_simp; rfl)) ?_
      refine hK.out _ _ ((blk_cell (blk_alloc BKG.out _) 0).trans rfl) (fun hHeld => ?_)
      clear hK K
      refine norm_ (a' := ?_) ?_ ?_
      rotate_left
      · show Act.put _ (some 31) _ = _
        simp only [Act.put, List.setIfInBounds_toArray, List.set_cons_zero, List.set_cons_succ, i64_w, i32_w]
        rfl
      refine one_ (i := 9) (N := some 32) #[true, true, true, true, true, true, true, true, true, true, true, true, false] rfl rfl (by kernel_rfl) (by decide) (fun K hK => ?_)
      refine Go.Proofs.Ytfkfahdikmfpeaa.Cl.app_full_step (W := w13) (by rfl) (.tmp 29) (.tmp 31) 22 3 8 rfl Try.underlying22 info3 (by decide) A s x rfl rfl (HSET.out _ HKW.out) (by have := HLN.out; omega) ?_
      intro v1 w15 hR hb15
      obtain ⟨Av, cv, ev⟩ := Kd.R_slice hR
      subst ev
      have n0_ := Aside0.mk (blk_below BKG.out hb15)
      have n1_ := Aside0.mk (blk_below BKO.out hb15)
      have n2_ := Aside0.mk (below_step HB.out hb15)
      have n3_ := Aside0.mk (Kd.R_mono (ok' := fun q => q ≠ gO) (Kd.R_bound hR) (fun q hq => by have := hq.2.1; have := blk_lt BKO.out; omega))
      have n4_ := Aside0.mk (HKW.out.below hb15)
      clear BKG BKO HB HKW
      have BKG := n0_
      have BKO := n1_
      have HB := n2_
      have HNR := n3_
      have HKW := n4_
      clear n0_ n1_ n2_ n3_ n4_
      clear hb15 hR
      refine hK.out _ _ ((blk_cell BKG.out 0).trans rfl) (fun hHeld => ?_)
      clear hK K
      refine norm_ (a' := ?_) ?_ ?_
      rotate_left
      · show Act.put _ (some 32) _ = _
        simp only [Act.put, List.setIfInBounds_toArray, List.set_cons_zero, List.set_cons_succ, i64_w, i32_w]
        rfl
      refine one_ (i := 12) (N := some 35) #[true, true, true, true, true, true, true, true, true, true, true, true, true] rfl rfl (by kernel_rfl) (by decide) (fun K hK => ?_)
      refine Go.Proofs.Ytfkfahdikmfpeaa.Cl.goesV_ #[.pointer (some ⟨gK, 0, none⟩), .pointer (some ⟨gV, 0, none⟩), .pointer (some ⟨gN, 0, none⟩), .pointer (some ⟨gG, 0, none⟩)] Try.func135 (by kernel_rfl) rfl #[.slice Av (s ++ [x]).length cv, .int .i64 (wrap64 (x + 1)), .pointer (some ⟨gK, 0, none⟩), .pointer (some ⟨gV, 0, none⟩), .pointer (some ⟨gN, 0, none⟩), .pointer (some ⟨gG, 0, none⟩)] (by rfl) rfl rfl rfl Go.Proofs.Ytfkfahdikmfpeaa.Cl.aV ?_
      have hI := ih m (x + 1) (s ++ [x]) Av cv w15 (by have := HX.out; omega) (by have := HX.out; omega) (by have := HSL.out; simp only [List.length_append, List.length_singleton]; omega) HG1.out HB.out (HKB.out.then_ HKW.out (fun _ hq => .inl hq)) ⟨_, BKO.out⟩ (Kd.C_kept_own HNR.out (fun q hq => hq)) (Kd.R_reads' HNR.out).2.1
      rw [HFD.out] at hI
      refine calls_of_args (args' := #[.slice Av (s ++ [x]).length cv, .int .i64 (x + 1), .pointer (some ⟨gK, 0, none⟩), .pointer (some ⟨gV, 0, none⟩), .pointer (some ⟨gN, 0, none⟩), .pointer (some ⟨gG, 0, none⟩)]) (by rw [HWX.out]) ?_
      refine hI.mono ?_
      rintro e w17 ⟨rfl, hb17, hk17, ho17, hf17⟩
      refine ⟨_, rfl, ?_⟩
      have hne : gG ≠ gO := NG.out
      have n0_ := Aside0.mk (blk_kept BKG.out hk17 hne)
      have n1_ := Aside0.mk (hb17)
      have n2_ := Aside0.mk (HKW.out.then_ hk17 (fun _ hq => .inl hq))
      have n3_ := Aside0.mk (ho17)
      have n4_ := Aside0.mk (hf17)
      clear BKG HB HKW
      have BKG := n0_
      have HB := n1_
      have HKW := n2_
      have HOU := n3_
      have HFO := n4_
      clear n0_ n1_ n2_ n3_ n4_
      clear BKO hb17 hk17 ho17 hf17 hne hI
      refine hK.out _ _ ((blk_cell BKG.out 0).trans rfl) (fun hHeld => ?_)
      clear hK K
      refine norm_ (a' := ?_) ?_ ?_
      rotate_left
      · show Act.put _ (some 35) _ = _
        simp only [Act.put, List.setIfInBounds_toArray, List.set_cons_zero, List.set_cons_succ, i64_w, i32_w]
        rfl
      refine done_ (by kernel_rfl) ?_
      try go_wp2
      go_roundg k1
      case measure => have := HK1.out; omega
      case rel => exact ⟨m, x + 1, by rw [HWX.out], ⟨by have := HMK.out; omega⟩, ⟨by have := HK1.out; omega⟩, ⟨by have := HX.out; omega⟩, HRES, HG2, HB, HKW, HOU⟩
     | some t0 =>
      rw [hfd, Option.some_or] at hres
      have HFD := Aside0.mk hfd
      subst hres
      clear hfd
      go_wp2
      clear hcz0
      refine start_ (n := 13) (S := fun w' => w'.cell? ⟨gG, 0, none⟩ = some (.func (.func 135) #[] #[.pointer (some ⟨gK, 0, none⟩), .pointer (some ⟨gV, 0, none⟩), .pointer (some ⟨gN, 0, none⟩), .pointer (some ⟨gG, 0, none⟩)])) (ds := []) #[false, false, false, false, false, false, false, false, false, false, false, false, false] (by kernel_rfl) rfl rfl ((blk_cell BKG.out 0).trans rfl) (fun hHeld => ?_)
      have n0_ := Aside0.mk (blk_drew BKG.out)
      have n1_ := Aside0.mk (blk_drew BKO.out)
      have n2_ := Aside0.mk (below_drew1 HB.out)
      have n3_ := Aside0.mk (HKW.out.drew)
      clear BKG BKO HB HKW
      have BKG := n0_
      have BKO := n1_
      have HB := n2_
      have HKW := n3_
      clear n0_ n1_ n2_ n3_
      generalize wr.drew = w13 at BKG BKO HB HKW hHeld ⊢
      refine pure_ (i := 1) (N := some 24) (v := ?_) (a' := ?_) #[false, true, false, false, false, false, false, false, false, false, false, false, false] rfl rfl (by kernel_rfl) (fun _ _ _ h => h) (Or.inl ⟨by rfl, ?_⟩) ?_ ?_
      rotate_left
      · intro w'
        go_simp
        with_reducible rfl
      rotate_left
      · exact aP
      refine pure_ (i := 2) (N := some 25) (v := ?_) (a' := ?_) #[false, true, true, false, false, false, false, false, false, false, false, false, false] rfl rfl (by kernel_rfl) (fun _ _ _ h => h) (Or.inl ⟨by rfl, ?_⟩) ?_ ?_
      rotate_left
      · intro w'
        go_simp
        with_reducible rfl
      rotate_left
      · exact aP
      refine pure_ (i := 3) (N := some 26) (v := ?_) (a' := ?_) #[false, true, true, true, false, false, false, false, false, false, false, false, false] rfl rfl (by kernel_rfl) (fun _ _ _ h => h) (Or.inl ⟨by rfl, ?_⟩) ?_ ?_
      rotate_left
      · intro w'
        go_simp
        with_reducible rfl
      rotate_left
      · exact aP
      refine pure_ (i := 4) (N := some 27) (v := ?_) (a' := ?_) #[false, true, true, true, true, false, false, false, false, false, false, false, false] rfl rfl (by kernel_rfl) (fun _ _ _ h => h) (Or.inl ⟨by rfl, ?_⟩) ?_ ?_
      rotate_left
      · intro w'
        go_simp
        with_reducible rfl
      rotate_left
      · exact aP
      refine pure_ (i := 5) (N := some 28) (v := ?_) (a' := ?_) #[false, true, true, true, true, true, false, false, false, false, false, false, false] rfl rfl (by kernel_rfl) (fun _ _ _ h => h) (Or.inl ⟨by rfl, ?_⟩) ?_ ?_
      rotate_left
      · intro w'
        go_simp
        with_reducible rfl
      rotate_left
      · exact aP
      refine pure_ (i := 6) (N := some 29) (v := ?_) (a' := ?_) #[false, true, true, true, true, true, true, false, false, false, false, false, false] rfl rfl (by kernel_rfl) (fun _ _ _ h => h) (Or.inl ⟨by rfl, ?_⟩) ?_ ?_
      rotate_left
      · intro w'
        go_simp
        with_reducible rfl
      rotate_left
      · exact aP
      refine pure_ (i := 7) (N := some 30) (v := ?_) (a' := ?_) #[false, true, true, true, true, true, true, true, false, false, false, false, false] rfl rfl (by kernel_rfl) (fun _ _ _ h => h) (Or.inl ⟨by rfl, ?_⟩) ?_ ?_
      rotate_left
      · intro w'
        go_simp
        with_reducible rfl
      rotate_left
      · exact aP
      refine pure_ (i := 10) (N := some 33) (v := ?_) (a' := ?_) #[false, true, true, true, true, true, true, true, false, false, true, false, false] rfl rfl (by kernel_rfl) (fun _ _ _ h => h) (Or.inl ⟨by rfl, ?_⟩) ?_ ?_
      rotate_left
      · intro w'
        go_simp
        with_reducible rfl
      rotate_left
      · exact aP
      refine pure_ (i := 11) (N := some 34) (v := ?_) (a' := ?_) #[false, true, true, true, true, true, true, true, false, false, true, true, false] rfl rfl (by kernel_rfl) (fun _ _ _ h => h) (Or.inl ⟨by rfl, ?_⟩) ?_ ?_
      rotate_left
      · intro w'
        go_simp
        with_reducible rfl
      rotate_left
      · exact aP
      refine take_ (i := 0) (N := some 23) (v := ?_) (a' := ?_) #[true, true, true, true, true, true, true, true, false, false, true, true, false] rfl rfl (by kernel_rfl) (fun _ _ _ h => h) (Or.inl ⟨by rfl, ?_⟩) hHeld ?_ ?_
      rotate_left
      · rintro w' s0
        go_simp
        with_reducible rfl
      rotate_left
      · exact aP
      refine one_ (i := 8) (N := some 31) #[true, true, true, true, true, true, true, true, true, false, true, true, false] rfl rfl (by kernel_rfl) (by decide) (fun K hK => ?_)
      refine event_step (v := .slice (some ⟨w13.heap.size, 0, none⟩) 1 1) (w1 := w13.alloc (.cells #[.int .i64 x] 3)) (by rfl) (by first | (go_simp; done) | (go_simp; rfl)) ?_
      refine hK.out _ _ ((blk_cell (blk_alloc BKG.out _) 0).trans rfl) (fun hHeld => ?_)
      clear hK K
      refine norm_ (a' := ?_) ?_ ?_
      rotate_left
      · show Act.put _ (some 31) _ = _
        simp only [Act.put, List.setIfInBounds_toArray, List.set_cons_zero, List.set_cons_succ, i64_w, i32_w]
        rfl
      refine one_ (i := 9) (N := some 32) #[true, true, true, true, true, true, true, true, true, true, true, true, false] rfl rfl (by kernel_rfl) (by decide) (fun K hK => ?_)
      refine Go.Proofs.Ytfkfahdikmfpeaa.Cl.app_full_step (W := w13) (by rfl) (.tmp 29) (.tmp 31) 22 3 8 rfl Try.underlying22 info3 (by decide) A s x rfl rfl (HSET.out _ HKW.out) (by have := HLN.out; omega) ?_
      intro v1 w15 hR hb15
      obtain ⟨Av, cv, ev⟩ := Kd.R_slice hR
      subst ev
      have n0_ := Aside0.mk (blk_below BKG.out hb15)
      have n1_ := Aside0.mk (blk_below BKO.out hb15)
      have n2_ := Aside0.mk (below_step HB.out hb15)
      have n3_ := Aside0.mk (Kd.R_mono (ok' := fun q => q ≠ gO) (Kd.R_bound hR) (fun q hq => by have := hq.2.1; have := blk_lt BKO.out; omega))
      have n4_ := Aside0.mk (HKW.out.below hb15)
      clear BKG BKO HB HKW
      have BKG := n0_
      have BKO := n1_
      have HB := n2_
      have HNR := n3_
      have HKW := n4_
      clear n0_ n1_ n2_ n3_ n4_
      clear hb15 hR
      refine hK.out _ _ ((blk_cell BKG.out 0).trans rfl) (fun hHeld => ?_)
      clear hK K
      refine norm_ (a' := ?_) ?_ ?_
      rotate_left
      · show Act.put _ (some 32) _ = _
        simp only [Act.put, List.setIfInBounds_toArray, List.set_cons_zero, List.set_cons_succ, i64_w, i32_w]
        rfl
      refine one_ (i := 12) (N := some 35) #[true, true, true, true, true, true, true, true, true, true, true, true, true] rfl rfl (by kernel_rfl) (by decide) (fun K hK => ?_)
      refine Go.Proofs.Ytfkfahdikmfpeaa.Cl.goesV_ #[.pointer (some ⟨gK, 0, none⟩), .pointer (some ⟨gV, 0, none⟩), .pointer (some ⟨gN, 0, none⟩), .pointer (some ⟨gG, 0, none⟩)] Try.func135 (by kernel_rfl) rfl #[.slice Av (s ++ [x]).length cv, .int .i64 (wrap64 (x + 1)), .pointer (some ⟨gK, 0, none⟩), .pointer (some ⟨gV, 0, none⟩), .pointer (some ⟨gN, 0, none⟩), .pointer (some ⟨gG, 0, none⟩)] (by rfl) rfl rfl rfl Go.Proofs.Ytfkfahdikmfpeaa.Cl.aV ?_
      have hI := ih m (x + 1) (s ++ [x]) Av cv w15 (by have := HX.out; omega) (by have := HX.out; omega) (by have := HSL.out; simp only [List.length_append, List.length_singleton]; omega) HG1.out HB.out (HKB.out.then_ HKW.out (fun _ hq => .inl hq)) ⟨_, BKO.out⟩ (Kd.C_kept_own HNR.out (fun q hq => hq)) (Kd.R_reads' HNR.out).2.1
      rw [HFD.out] at hI
      refine calls_of_args (args' := #[.slice Av (s ++ [x]).length cv, .int .i64 (x + 1), .pointer (some ⟨gK, 0, none⟩), .pointer (some ⟨gV, 0, none⟩), .pointer (some ⟨gN, 0, none⟩), .pointer (some ⟨gG, 0, none⟩)]) (by rw [HWX.out]) ?_
      refine hI.mono ?_
      rintro e w17 ⟨rfl, hb17, hk17, ho17, hf17⟩
      refine ⟨_, rfl, ?_⟩
      have hne : gG ≠ gO := NG.out
      have n0_ := Aside0.mk (blk_kept BKG.out hk17 hne)
      have n1_ := Aside0.mk (hb17)
      have n2_ := Aside0.mk (HKW.out.then_ hk17 (fun _ hq => .inl hq))
      have n3_ := Aside0.mk (ho17)
      have n4_ := Aside0.mk (hf17)
      clear BKG HB HKW
      have BKG := n0_
      have HB := n1_
      have HKW := n2_
      have HOU := n3_
      have HFO := n4_
      clear n0_ n1_ n2_ n3_ n4_
      clear BKO hb17 hk17 ho17 hf17 hne hI
      refine hK.out _ _ ((blk_cell BKG.out 0).trans rfl) (fun hHeld => ?_)
      clear hK K
      refine norm_ (a' := ?_) ?_ ?_
      rotate_left
      · show Act.put _ (some 35) _ = _
        simp only [Act.put, List.setIfInBounds_toArray, List.set_cons_zero, List.set_cons_succ, i64_w, i32_w]
        rfl
      refine done_ (by kernel_rfl) ?_
      try go_wp2
      go_ret
      exact ⟨rfl, HB.out, HKW.out, HOU.out, fun t ht => by obtain rfl := Option.some.inj ht; exact HFO.out _ rfl⟩
set_option maxHeartbeats 8000000 in
set_option maxRecDepth 100000 in
theorem impl_FewestPlaces.choose (k kk m : Nat) (A0_0 : Option Addr) (c0_0 : Nat) (P : List (List Int)) (A0_1 : Option Addr) (c0_1 : Nat) (L : List Int) (gO gS : Nat) (w00 w : World) (hr0_0 : Kd.C (Kd.slice 3 (Kd.int .i64)) w00 A0_0 P.length P) (hc0_0 : P.length ≤ c0_0) (hr0_1 : Kd.C (Kd.int .i64) w00 A0_1 L.length L) (hc0_1 : L.length ≤ c0_1)
 (hgO : w00.heap.size ≤ gO) (hS : w.heap[gS]? = some (.cells #[.slice A0_0 P.length c0_0, .slice A0_1 L.length c0_1] 52 (0, 0))) (hO : ∃ v, w.heap[gO]? = some (.cells #[v] 22 (0, 0))) (nS : gS ≠ gO) (hkk : kk < 1000) (hm : m < 1000) (hb : Below w00.heap.size w00 w) (hgd : ∀ t ∈ impl_FewestPlaces.sets m kk 0 [], impl_FewestPlaces.good k P L t = true) :
 Calls Try.prog 79 #[.int .i64 (m : Int), .int .i64 (kk : Int), .func (.func 80) #[] #[.pointer (some ⟨gO, 0, none⟩), .pointer (some ⟨gS, 0, none⟩)]] w fun e w' => e = .returned (.bool ((impl_FewestPlaces.sets m kk 0 []).find? (impl_FewestPlaces.keep k P L)).isSome) ∧ Below w00.heap.size w00 w' ∧ Kept w w' (fun q => q = gO) ∧ (∃ v, w'.heap[gO]? = some (.cells #[v] 22 (0, 0))) ∧ ∀ t, (impl_FewestPlaces.sets m kk 0 []).find? (impl_FewestPlaces.keep k P L) = some t → ∃ v, w'.heap[gO]? = some (.cells #[v] 22 (0, 0)) ∧ Kd.R (Kd.int .i64) 3 w' w00.heap.size (fun _ => True) v t := by
 have hsf := Go.Proofs.Ytfkfahdikmfpeaa.Cl.store_func Try.prog
 obtain ⟨vo, hO⟩ := hO
 have HR0_0 := Aside0.mk hr0_0
 have HC0_0 := Aside0.mk hc0_0
 have HR0_1 := Aside0.mk hr0_1
 have HC0_1 := Aside0.mk hc0_1
 have HGO := Aside0.mk hgO
 have BKS := Aside0.mk hS
 have BKO := Aside0.mk hO
 have NS := Aside0.mk nS
 have HB := Aside0.mk hb
 have HKK := Aside0.mk (⟨hkk, hm⟩ : kk < 1000 ∧ m < 1000)
 have HGD := Aside0.mk hgd
 have HKW := Aside0.mk (Kept.refl w (fun q => q = gO))
 have HWS := Aside0.mk hb.size
 clear hr0_0 hc0_0 hr0_1 hc0_1 hgO hS hO nS hb hkk hm hgd
 go_enter Try.func79, Try.ntmps79
 go_wp2_with (first | ((with_reducible refine gate_dst (N := 3) rfl ?_); refine box_event ?hg (N := 3) ?hd (cs := #[.int .i64 (m : Int)]) (t := 3) ?hr ?_; (case hd => rfl); (case hg => rfl); (case hr => first | (go_simp; done) | (go_simp; rfl)); intro gN hg w3 hbox hb; have n0_ := Aside0.mk (blk_below BKS.out hb); have n1_ := Aside0.mk (blk_below BKO.out hb); have n2_ := Aside0.mk (hbox); have n3_ := Aside0.mk ((by rw [hg]; exact Nat.ne_of_gt (blk_lt BKO.out) : gN ≠ gO)); have n4_ := Aside0.mk ((by rw [hg]; exact HKW.out.1 : w.heap.size ≤ gN)); have n5_ := Aside0.mk ((by rw [hg]; exact Nat.ne_of_lt (blk_lt BKS.out) : gS ≠ gN)); have n6_ := Aside0.mk (below_step HB.out hb); have n7_ := Aside0.mk (HKW.out.below hb); clear BKS BKO HB HKW; have BKS := n0_; have BKO := n1_; have BN := n2_; have NBN := n3_; have GBN := n4_; have DSBN := n5_; have HB := n6_; have HKW := n7_; clear n0_ n1_ n2_ n3_ n4_ n5_ n6_ n7_; clear hb hbox hg) | ((with_reducible refine gate_dst (N := 4) rfl ?_); refine box_event ?hg (N := 4) ?hd (cs := #[.int .i64 (kk : Int)]) (t := 3) ?hr ?_; (case hd => rfl); (case hg => rfl); (case hr => first | (go_simp; done) | (go_simp; rfl)); intro gK hg w4 hbox hb; have n0_ := Aside0.mk (blk_below BKS.out hb); have n1_ := Aside0.mk (blk_below BKO.out hb); have n2_ := Aside0.mk (blk_below BN.out hb); have n3_ := Aside0.mk (hbox); have n4_ := Aside0.mk ((by rw [hg]; exact Nat.ne_of_gt (blk_lt BKO.out) : gK ≠ gO)); have n5_ := Aside0.mk ((by rw [hg]; exact HKW.out.1 : w.heap.size ≤ gK)); have n6_ := Aside0.mk ((by rw [hg]; exact Nat.ne_of_lt (blk_lt BN.out) : gN ≠ gK)); have n7_ := Aside0.mk ((by rw [hg]; exact Nat.ne_of_lt (blk_lt BKS.out) : gS ≠ gK)); have n8_ := Aside0.mk (below_step HB.out hb); have n9_ := Aside0.mk (HKW.out.below hb); clear BKS BKO BN HB HKW; have BKS := n0_; have BKO := n1_; have BN := n2_; have BK := n3_; have NBK := n4_; have GBK := n5_; have DBKBN := n6_; have DSBK := n7_; have HB := n8_; have HKW := n9_; clear n0_ n1_ n2_ n3_ n4_ n5_ n6_ n7_ n8_ n9_; clear hb hbox hg) | ((with_reducible refine gate_dst (N := 5) rfl ?_); refine box_event ?hg (N := 5) ?hd (cs := #[.func (.func 80) #[] #[.pointer (some ⟨gO, 0, none⟩), .pointer (some ⟨gS, 0, none⟩)]]) (t := 94) ?hr ?_; (case hd => rfl); (case hg => rfl); (case hr => first | (go_simp; done) | (go_simp; rfl)); intro gV hg w5 hbox hb; have n0_ := Aside0.mk (blk_below BKS.out hb); have n1_ := Aside0.mk (blk_below BKO.out hb); have n2_ := Aside0.mk (blk_below BN.out hb); have n3_ := Aside0.mk (blk_below BK.out hb); have n4_ := Aside0.mk (hbox); have n5_ := Aside0.mk ((by rw [hg]; exact Nat.ne_of_gt (blk_lt BKO.out) : gV ≠ gO)); have n6_ := Aside0.mk ((by rw [hg]; exact HKW.out.1 : w.heap.size ≤ gV)); have n7_ := Aside0.mk ((by rw [hg]; exact Nat.ne_of_lt (blk_lt BN.out) : gN ≠ gV)); have n8_ := Aside0.mk ((by rw [hg]; exact Nat.ne_of_lt (blk_lt BK.out) : gK ≠ gV)); have n9_ := Aside0.mk ((by rw [hg]; exact Nat.ne_of_lt (blk_lt BKS.out) : gS ≠ gV)); have n10_ := Aside0.mk (below_step HB.out hb); have n11_ := Aside0.mk (HKW.out.below hb); clear BKS BKO BN BK HB HKW; have BKS := n0_; have BKO := n1_; have BN := n2_; have BK := n3_; have BV := n4_; have NBV := n5_; have GBV := n6_; have DBVBN := n7_; have DBVBK := n8_; have DSBV := n9_; have HB := n10_; have HKW := n11_; clear n0_ n1_ n2_ n3_ n4_ n5_ n6_ n7_ n8_ n9_ n10_ n11_; clear hb hbox hg) | ((with_reducible refine gate_dst (N := 7) rfl ?_); refine box_event ?hg (N := 7) ?hd (cs := #[.nilFunc]) (t := 114) ?hr ?_; (case hd => rfl); (case hg => rfl); (case hr => first | (go_simp; done) | (go_simp; rfl)); intro gG hg w7 hbox hb; have n0_ := Aside0.mk (blk_below BKS.out hb); have n1_ := Aside0.mk (blk_below BKO.out hb); have n2_ := Aside0.mk (blk_below BN.out hb); have n3_ := Aside0.mk (blk_below BK.out hb); have n4_ := Aside0.mk (blk_below BV.out hb); have n5_ := Aside0.mk (hbox); have n6_ := Aside0.mk ((by rw [hg]; exact Nat.ne_of_gt (blk_lt BKO.out) : gG ≠ gO)); have n7_ := Aside0.mk ((by rw [hg]; exact HKW.out.1 : w.heap.size ≤ gG)); have n8_ := Aside0.mk ((by rw [hg]; exact Nat.ne_of_lt (blk_lt BN.out) : gN ≠ gG)); have n9_ := Aside0.mk ((by rw [hg]; exact Nat.ne_of_lt (blk_lt BK.out) : gK ≠ gG)); have n10_ := Aside0.mk ((by rw [hg]; exact Nat.ne_of_lt (blk_lt BV.out) : gV ≠ gG)); have n11_ := Aside0.mk ((by rw [hg]; exact Nat.ne_of_lt (blk_lt BKS.out) : gS ≠ gG)); have n12_ := Aside0.mk (below_step HB.out hb); have n13_ := Aside0.mk (HKW.out.below hb); clear BKS BKO BN BK BV HB HKW; have BKS := n0_; have BKO := n1_; have BN := n2_; have BK := n3_; have BV := n4_; have BG := n5_; have NBG := n6_; have GBG := n7_; have DBGBN := n8_; have DBGBK := n9_; have DBGBV := n10_; have DSBG := n11_; have HB := n12_; have HKW := n13_; clear n0_ n1_ n2_ n3_ n4_ n5_ n6_ n7_ n8_ n9_ n10_ n11_ n12_ n13_; clear hb hbox hg; have hczG := (blk_cell BG.out 0).trans rfl; have hfzG := blk_frozen BG.out 0) | ((with_reducible refine gate_store (t := 114) (p := 7) rfl ?_); refine store_event (t := 114) (p := 7) (v := ?vo_w8) (w1 := (w7.setCell ⟨gG, 0, none⟩ (.func (.func 135) #[] #[.pointer (some ⟨gK, 0, none⟩), .pointer (some ⟨gV, 0, none⟩), .pointer (some ⟨gN, 0, none⟩), .pointer (some ⟨gG, 0, none⟩)]))) ?hg ?ho ?hn ?hr ?_; (case ho => rfl); (case hg => rfl); (case hn => rfl); (case hr => first | (go_simp; done) | (go_simp; rfl)); intro w8 hw; have n0_ : Aside0 (w8.heap[gS]? = some (.cells #[.slice A0_0 P.length c0_0, .slice A0_1 L.length c0_1] 52 (0, 0))) := Aside0.mk (by rw [hw]; exact blk_far BKS.out DSBG.out _); have n1_ : Aside0 (w8.heap[gO]? = some (.cells #[vo] 22 (0, 0))) := Aside0.mk (by rw [hw]; exact blk_far BKO.out (fun h_ => NBG.out h_.symm) _); have n2_ : Aside0 (w8.heap[gN]? = some (.cells #[.int .i64 (m : Int)] 3 (0, 0))) := Aside0.mk (by rw [hw]; exact blk_far BN.out DBGBN.out _); have n3_ : Aside0 (w8.heap[gK]? = some (.cells #[.int .i64 (kk : Int)] 3 (0, 0))) := Aside0.mk (by rw [hw]; exact blk_far BK.out DBGBK.out _); have n4_ : Aside0 (w8.heap[gV]? = some (.cells #[.func (.func 80) #[] #[.pointer (some ⟨gO, 0, none⟩), .pointer (some ⟨gS, 0, none⟩)]] 94 (0, 0))) := Aside0.mk (by rw [hw]; exact blk_far BV.out DBGBV.out _); have n5_ : Aside0 (w8.heap[gG]? = some (.cells #[.func (.func 135) #[] #[.pointer (some ⟨gK, 0, none⟩), .pointer (some ⟨gV, 0, none⟩), .pointer (some ⟨gN, 0, none⟩), .pointer (some ⟨gG, 0, none⟩)]] 114 (0, 0))) := Aside0.mk (by rw [hw]; exact (blk_set BG.out 0 _).trans rfl); have n6_ : Aside0 (Below w00.heap.size w00 w8) := Aside0.mk (by rw [hw]; exact below_set HB.out (Nat.le_trans HWS.out GBG.out)); have n7_ : Aside0 (Kept w w8 (fun q => q = gO)) := Aside0.mk (by rw [hw]; exact Kept.setCell HKW.out (.inr GBG.out) _); clear BKS BKO BN BK BV BG HB HKW hczG hfzG hw; have BKS := n0_; have BKO := n1_; have BN := n2_; have BK := n3_; have BV := n4_; have BG := n5_; have HB := n6_; have HKW := n7_; clear n0_ n1_ n2_ n3_ n4_ n5_ n6_ n7_; have hczG := (blk_cell BG.out 0).trans rfl) | ((with_reducible refine gate_dst (N := 10) rfl ?_); refine Go.Proofs.Ytfkfahdikmfpeaa.Cl.goesVL_ (some 10) rfl rfl #[.pointer (some ⟨gK, 0, none⟩), .pointer (some ⟨gV, 0, none⟩), .pointer (some ⟨gN, 0, none⟩), .pointer (some ⟨gG, 0, none⟩)] Try.func135 (by kernel_rfl) rfl #[.slice none ([] : List Int).length 0, .int .i64 0, .pointer (some ⟨gK, 0, none⟩), .pointer (some ⟨gV, 0, none⟩), .pointer (some ⟨gN, 0, none⟩), .pointer (some ⟨gG, 0, none⟩)] rfl (by rfl) Go.Proofs.Ytfkfahdikmfpeaa.Cl.aV ?_; refine (impl_FewestPlaces.go k kk A0_0 c0_0 P A0_1 c0_1 L (m : Int) gK gV gN gG gO gS w00 w8 HR0_0.out HC0_0.out HR0_1.out HC0_1.out HGO.out BK.out BV.out BN.out BG.out BKS.out NBK.out NBV.out NBN.out NBG.out NS.out HKK.out.1 (by have := HKK.out; omega) kk m 0 [] none 0 w8 (by omega) (by omega) (by simp) HGD.out HB.out (Kept.refl _ _) ⟨_, BKO.out⟩ Kd.C_kept_nil (by simp)).mono ?_; rintro e w9 ⟨rfl, hb9, hk9, ho9, hf9⟩; refine ⟨_, rfl, ?_⟩; have n0_ := Aside0.mk (hb9); have n1_ := Aside0.mk (HKW.out.then_ hk9 (fun _ hq => .inl hq)); have n2_ := Aside0.mk (ho9); have n3_ := Aside0.mk (hf9); clear HB HKW; have HB := n0_; have HKW := n1_; have HOU := n2_; have HFO := n3_; clear n0_ n1_ n2_ n3_; clear hb9 hk9 ho9 hf9 hczG BKS BKO BN BK BV BG))
 go_ret
 exact ⟨rfl, HB.out, HKW.out, HOU.out, HFO.out⟩
def impl_FewestPlaces.l0 (k : Nat) (P : List (List Int)) (L : List Int) : Nat → Nat → List Int × Bool
 | 0, _ => ([], false)
 | c + 1, kk => match (impl_FewestPlaces.sets P.length kk 0 []).find? (impl_FewestPlaces.keep k P L) with
  | some t => (t, true)
  | none => impl_FewestPlaces.l0 k P L c (kk + 1)
def impl_FewestPlaces.ok (k : Nat) (P : List (List Int)) (L : List Int) : Bool := (List.range P.length).all (fun q => (impl_FewestPlaces.sets P.length (q + 1) 0 []).all (impl_FewestPlaces.good k P L))
def impl_FewestPlaces.f (k : Nat) (l0_0 : List (List Int)) (l0_1 : List Int) : Option (List Int × Bool) := (impl_isClean.f k l0_0 l0_1).bind fun b => if b = true then (if (l0_0.length : Int) > 8 then some ([], false) else if impl_FewestPlaces.ok k l0_0 l0_1 = true then some (impl_FewestPlaces.l0 k l0_0 l0_1 l0_0.length 1) else none) else some ([], false)
set_option maxHeartbeats 8000000 in
set_option maxRecDepth 100000 in
theorem impl_FewestPlaces.calls (k : Nat) (A0_0 : Option Addr) (c0_0 : Nat) (l0_0 : List (List Int)) (A0_1 : Option Addr) (c0_1 : Nat) (l0_1 : List Int) (r1 : List Int) (r2 : Bool) (w : World) (hr0_0 : Kd.C (Kd.slice 3 (Kd.int .i64)) w A0_0 l0_0.length l0_0) (hc0_0 : l0_0.length ≤ c0_0) (hr0_1 : Kd.C (Kd.int .i64) w A0_1 l0_1.length l0_1) (hc0_1 : l0_1.length ≤ c0_1) (h : impl_FewestPlaces.f k l0_0 l0_1 = some (r1, r2)) :
 Calls Try.prog 31 #[.agg #[.slice A0_0 l0_0.length c0_0, .slice A0_1 l0_1.length c0_1]] w fun e w' => ∃ v0_ : Value, e = .returned (.tuple #[v0_, .bool r2]) ∧ Kd.R (Kd.int .i64) 3 w' w.heap.size (fun _ => True) v0_ r1 ∧ Below w.heap.size w w' := by
 have hu := Try.underlying52
 have hmf : ∀ (fn : Fn) (first cap : Array Value) (w : World), (Instr.makeFunc fn first cap).run Try.prog w = .ok (.func fn first cap) w := fun _ _ _ _ => rfl
 have HR0_0 := Aside0.mk hr0_0
 have HC0_0 := Aside0.mk hc0_0
 have HR0_1 := Aside0.mk hr0_1
 have HC0_1 := Aside0.mk hc0_1
 have HB := Aside0.mk (Below.refl w.heap.size w)
 obtain ⟨b, hcl, H⟩ := Option.bind_eq_some_iff.mp h
 have HCL := Aside0.mk hcl
 clear h hcl hr0_0 hc0_0 hr0_1 hc0_1
 cases b with
 | false =>
  simp only [Bool.false_eq_true, if_false, Option.some.injEq, Prod.mk.injEq] at H
  obtain ⟨rfl, rfl⟩ := H
  go_enter Try.func31, Try.ntmps31
  go_wp2_with (first | ((with_reducible refine gate_dst (N := 1) rfl ?_); refine box_event ?hg (N := 1) ?hd (cs := #[.slice A0_0 l0_0.length c0_0, .slice A0_1 l0_1.length c0_1]) (t := 52) ?hr ?_; (case hd => rfl); (case hg => rfl); (case hr => first | (go_simp; done) | (go_simp; rfl)); intro gS hg w1 hbox hb; have n0_ := Aside0.mk (hbox); have n1_ := Aside0.mk ((by rw [hg]; exact Nat.le_refl _ : w.heap.size ≤ gS)); have n2_ := Aside0.mk (below_step HB.out hb); clear HB; have BKS := n0_; have GES := n1_; have HB := n2_; clear n0_ n1_ n2_; clear hb hbox hg; have hczS0 : w1.cell? ⟨gS, 0, none⟩ = some (.slice A0_0 l0_0.length c0_0) := (blk_cell BKS.out 0).trans rfl; have hczS1 : w1.cell? ⟨gS, 1, none⟩ = some (.slice A0_1 l0_1.length c0_1) := (blk_cell BKS.out 1).trans rfl) | ((with_reducible refine gate_callee (f := 78) rfl ?_); refine goesL_ (some 11) rfl rfl Try.func78 (by kernel_rfl) rfl #[.agg #[.slice A0_0 l0_0.length c0_0, .slice A0_1 l0_1.length c0_1]] rfl aT ?_; (with_reducible refine (impl_isClean.calls k _ _ l0_0 _ _ l0_1 false _ ?side1 ?side2 ?side3 ?side4 HCL.out).mono ?_); (case side1 => exact cB HR0_0 HB); (case side2 => exact HC0_0.out); (case side3 => exact cB HR0_1 HB); (case side4 => exact HC0_1.out); rintro e w2 ⟨rfl, hb⟩; refine ⟨_, rfl, ?_⟩; clear hczS0 hczS1; have n0_ := Aside0.mk (blk_below BKS.out hb); have n1_ := Aside0.mk (below_step HB.out hb); clear BKS HB; have BKS := n0_; have HB := n1_; clear n0_ n1_; clear hb))
  go_ret2
  exact ⟨_, rfl, Kd.R_nil _ _ _ _ _, HB.out⟩
 | true =>
  by_cases c8 : (l0_0.length : Int) > 8
  · simp only [if_true, if_pos c8, Option.some.injEq, Prod.mk.injEq] at H
    obtain ⟨rfl, rfl⟩ := H
    have c8b0 : decide (8 < (l0_0.length : Int)) = true := decide_eq_true c8
    have c8b1 : decide (8 < l0_0.length) = true := decide_eq_true (by omega)
    clear c8
    go_enter Try.func31, Try.ntmps31
    go_wp2_with (first | ((with_reducible refine gate_dst (N := 1) rfl ?_); refine box_event ?hg (N := 1) ?hd (cs := #[.slice A0_0 l0_0.length c0_0, .slice A0_1 l0_1.length c0_1]) (t := 52) ?hr ?_; (case hd => rfl); (case hg => rfl); (case hr => first | (go_simp; done) | (go_simp; rfl)); intro gS hg w1 hbox hb; have n0_ := Aside0.mk (hbox); have n1_ := Aside0.mk ((by rw [hg]; exact Nat.le_refl _ : w.heap.size ≤ gS)); have n2_ := Aside0.mk (below_step HB.out hb); clear HB; have BKS := n0_; have GES := n1_; have HB := n2_; clear n0_ n1_ n2_; clear hb hbox hg; have hczS0 : w1.cell? ⟨gS, 0, none⟩ = some (.slice A0_0 l0_0.length c0_0) := (blk_cell BKS.out 0).trans rfl; have hczS1 : w1.cell? ⟨gS, 1, none⟩ = some (.slice A0_1 l0_1.length c0_1) := (blk_cell BKS.out 1).trans rfl) | ((with_reducible refine gate_callee (f := 78) rfl ?_); refine goesL_ (some 11) rfl rfl Try.func78 (by kernel_rfl) rfl #[.agg #[.slice A0_0 l0_0.length c0_0, .slice A0_1 l0_1.length c0_1]] rfl aT ?_; (with_reducible refine (impl_isClean.calls k _ _ l0_0 _ _ l0_1 true _ ?side1 ?side2 ?side3 ?side4 HCL.out).mono ?_); (case side1 => exact cB HR0_0 HB); (case side2 => exact HC0_0.out); (case side3 => exact cB HR0_1 HB); (case side4 => exact HC0_1.out); rintro e w2 ⟨rfl, hb⟩; refine ⟨_, rfl, ?_⟩; clear hczS0 hczS1; have n0_ := Aside0.mk (blk_below BKS.out hb); have n1_ := Aside0.mk (below_step HB.out hb); clear BKS HB; have BKS := n0_; have HB := n1_; clear n0_ n1_; clear hb))
    go_ret2
    exact ⟨_, rfl, Kd.R_nil _ _ _ _ _, HB.out⟩
  · simp only [if_true, if_neg c8] at H
    by_cases hok : impl_FewestPlaces.ok k l0_0 l0_1 = true
    · rw [if_pos hok] at H
      have HL0 := Aside0.mk (Option.some.inj H)
      have HOK := Aside0.mk hok
      have H8 := Aside0.mk (by omega : l0_0.length ≤ 8)
      have c8b0 : decide (8 < (l0_0.length : Int)) = false := decide_eq_false c8
      have c8b1 : decide (8 < l0_0.length) = false := decide_eq_false (by omega)
      clear c8 H hok
      go_enter Try.func31, Try.ntmps31
      go_wp2_with (first | ((with_reducible refine gate_dst (N := 1) rfl ?_); refine box_event ?hg (N := 1) ?hd (cs := #[.slice A0_0 l0_0.length c0_0, .slice A0_1 l0_1.length c0_1]) (t := 52) ?hr ?_; (case hd => rfl); (case hg => rfl); (case hr => first | (go_simp; done) | (go_simp; rfl)); intro gS hg w1 hbox hb; have n0_ := Aside0.mk (hbox); have n1_ := Aside0.mk ((by rw [hg]; exact Nat.le_refl _ : w.heap.size ≤ gS)); have n2_ := Aside0.mk (below_step HB.out hb); clear HB; have BKS := n0_; have GES := n1_; have HB := n2_; clear n0_ n1_ n2_; clear hb hbox hg; have hczS0 : w1.cell? ⟨gS, 0, none⟩ = some (.slice A0_0 l0_0.length c0_0) := (blk_cell BKS.out 0).trans rfl; have hczS1 : w1.cell? ⟨gS, 1, none⟩ = some (.slice A0_1 l0_1.length c0_1) := (blk_cell BKS.out 1).trans rfl) | ((with_reducible refine gate_callee (f := 78) rfl ?_); refine goesL_ (some 11) rfl rfl Try.func78 (by kernel_rfl) rfl #[.agg #[.slice A0_0 l0_0.length c0_0, .slice A0_1 l0_1.length c0_1]] rfl aT ?_; (with_reducible refine (impl_isClean.calls k _ _ l0_0 _ _ l0_1 true _ ?side1 ?side2 ?side3 ?side4 HCL.out).mono ?_); (case side1 => exact cB HR0_0 HB); (case side2 => exact HC0_0.out); (case side3 => exact cB HR0_1 HB); (case side4 => exact HC0_1.out); rintro e w2 ⟨rfl, hb⟩; refine ⟨_, rfl, ?_⟩; clear hczS0 hczS1; have n0_ := Aside0.mk (blk_below BKS.out hb); have n1_ := Aside0.mk (below_step HB.out hb); clear BKS HB; have BKS := n0_; have HB := n1_; clear n0_ n1_; clear hb) | ((with_reducible refine gate_dst (N := 5) rfl ?_); refine box_event ?hg (N := 5) ?hd (cs := #[.slice none 0 0]) (t := 22) ?hr ?_; (case hd => rfl); (case hg => rfl); (case hr => first | (go_simp; done) | (go_simp; rfl)); intro gO hg w5 hbox hb; have n0_ := Aside0.mk (blk_below BKS.out hb); have n1_ := Aside0.mk (hbox); have n2_ := Aside0.mk ((by rw [hg]; exact Nat.ne_of_lt (blk_lt BKS.out) : gS ≠ gO)); have n3_ := Aside0.mk ((by rw [hg]; exact HB.out.size : w.heap.size ≤ gO)); have n4_ := Aside0.mk (below_step HB.out hb); clear BKS HB; have BKS := n0_; have BKO := n1_; have NS := n2_; have GEO := n3_; have HB := n4_; clear n0_ n1_ n2_ n3_ n4_; clear hb hbox hg; have hczO : w5.cell? ⟨gO, 0, none⟩ = some (.slice none 0 0) := (blk_cell BKO.out 0).trans rfl; have hfzO := blk_frozen BKO.out 0) | ((with_reducible refine gate_store (t := 22) (p := 5) rfl ?_); refine store_event (t := 22) (p := 5) (v := ?vo_w6) (w1 := (w5.setCell ⟨gO, 0, none⟩ (.slice none 0 0))) ?hg ?ho ?hn ?hr ?_; (case ho => rfl); (case hg => rfl); (case hn => rfl); (case hr => first | (go_simp; done) | (go_simp; rfl)); intro w6 hw; have n0_ : Aside0 (Below w.heap.size w w6) := Aside0.mk (by rw [hw]; exact below_set HB.out GEO.out); have n1_ : Aside0 (∃ v, w6.heap[gO]? = some (.cells #[v] 22 (0, 0))) := Aside0.mk (by rw [hw]; exact ⟨_, (blk_set BKO.out 0 _).trans rfl⟩); have n2_ : Aside0 (w6.heap[gS]? = some (.cells #[.slice A0_0 l0_0.length c0_0, .slice A0_1 l0_1.length c0_1] 52 (0, 0))) := Aside0.mk (by rw [hw]; exact blk_far BKS.out NS.out _); clear HB BKO BKS hczO hfzO hw; have HB := n0_; have BKO := n1_; have BKS := n2_; clear n0_ n1_ n2_))
      go_loopg [6] (l0_0.length + 1) (fun kq v6 w' => ∃ (c kk : Nat), v6 = .int .i64 (kk : Int) ∧ Aside0 (c < kq) ∧ Aside0 (kq ≤ l0_0.length + 1) ∧ Aside0 (c + kk = l0_0.length + 1 ∧ 1 ≤ kk) ∧ Aside0 (impl_FewestPlaces.l0 k l0_0 l0_1 c kk = (r1, r2)) ∧ Aside0 (w'.heap[gS]? = some (.cells #[.slice A0_0 l0_0.length c0_0, .slice A0_1 l0_1.length c0_1] 52 (0, 0))) ∧ Aside0 (∃ v, w'.heap[gO]? = some (.cells #[v] 22 (0, 0))) ∧ Aside0 (Below w.heap.size w w'))
      case atStart => exact ⟨l0_0.length, 1, rfl, ⟨Nat.lt_succ_self _⟩, ⟨Nat.le_refl _⟩, ⟨by omega⟩, HL0, BKS, BKO, HB⟩
      case round =>
       clear HL0 BKS BKO HB
       obtain ⟨c, kk, rfl, HMK, HK1, HX, HL0, BKS, BKO, HB⟩ := hrel
       cases gk with
       | zero => exact absurd HMK.out (by omega)
       | succ k1 =>
        cases c with
        | zero =>
         have c3b0 : decide ((kk : Int) ≤ (l0_0.length : Int)) = false := decide_eq_false (by have := HX.out; omega)
         have c3b1 : decide (kk ≤ l0_0.length) = false := decide_eq_false (by have := HX.out; omega)
         have hr := HL0.out
         simp only [impl_FewestPlaces.l0, Prod.mk.injEq] at hr
         obtain ⟨rfl, rfl⟩ := hr
         clear HL0
         go_wp2
         go_ret2
         exact ⟨_, rfl, Kd.R_nil _ _ _ _ _, HB.out⟩
        | succ c =>
         have c3b0 : decide ((kk : Int) ≤ (l0_0.length : Int)) = true := decide_eq_true (by have := HX.out; omega)
         have c3b1 : decide (kk ≤ l0_0.length) = true := decide_eq_true (by have := HX.out; omega)
         have hgd : ∀ t ∈ impl_FewestPlaces.sets l0_0.length kk 0 [], impl_FewestPlaces.good k l0_0 l0_1 t = true := by obtain ⟨q, hq⟩ : ∃ q, kk = q + 1 := ⟨kk - 1, by have := HX.out; omega⟩; rw [hq]; exact fun t ht => List.all_eq_true.1 (List.all_eq_true.1 HOK.out q (List.mem_range.2 (by have := HX.out; omega))) t ht
         have hcho := impl_FewestPlaces.choose k kk l0_0.length A0_0 c0_0 l0_0 A0_1 c0_1 l0_1 gO gS w wr HR0_0.out HC0_0.out HR0_1.out HC0_1.out GEO.out BKS.out BKO.out NS.out (by have := HX.out; have := H8.out; omega) (by have := H8.out; omega) HB.out hgd
         have hr := HL0.out
         simp only [impl_FewestPlaces.l0] at hr
         clear HL0 hgd
         cases hfd : (impl_FewestPlaces.sets l0_0.length kk 0 []).find? (impl_FewestPlaces.keep k l0_0 l0_1) with
         | none =>
          rw [hfd] at hcho hr
          have HCHO := Aside0.mk hcho
          have HL0 := Aside0.mk (show impl_FewestPlaces.l0 k l0_0 l0_1 c (kk + 1) = (r1, r2) from hr)
          clear hcho hr hfd
          go_wp2_with (first | ((with_reducible refine gate_callee (f := 79) rfl ?_); refine goesL_ (some 25) rfl rfl Try.func79 (by kernel_rfl) rfl #[.int .i64 (l0_0.length : Int), .int .i64 (kk : Int), .func (.func 80) #[] #[.pointer (some ⟨gO, 0, none⟩), .pointer (some ⟨gS, 0, none⟩)]] rfl aT ?_; refine HCHO.out.mono ?_; rintro e w8 ⟨rfl, hb8, hk8, ho8, hf8⟩; refine ⟨_, rfl, ?_⟩; have n0_ := Aside0.mk (blk_kept BKS.out hk8 NS.out); have n1_ := Aside0.mk (hb8); have n2_ := Aside0.mk (ho8); clear BKS HB BKO; have BKS := n0_; have HB := n1_; have BKO := n2_; clear n0_ n1_ n2_; clear hb8 hk8 ho8 hf8 HCHO))
          go_roundg k1
          case measure => have := HK1.out; omega
          case rel => exact ⟨c, kk + 1, (by have e_ : wrap64 ((kk : Int) + 1) = ((kk + 1 : Nat) : Int) := (by have := HX.out; have := H8.out; unfold wrap64; omega); rw [e_]), ⟨by have := HMK.out; omega⟩, ⟨by have := HK1.out; omega⟩, ⟨by have := HX.out; omega⟩, HL0, BKS, BKO, HB⟩
         | some t0 =>
          rw [hfd] at hcho hr
          have HCHO := Aside0.mk hcho
          simp only [Prod.mk.injEq] at hr
          obtain ⟨rfl, rfl⟩ := hr
          clear hcho hfd
          go_wp2_with (first | ((with_reducible refine gate_callee (f := 79) rfl ?_); refine goesL_ (some 25) rfl rfl Try.func79 (by kernel_rfl) rfl #[.int .i64 (l0_0.length : Int), .int .i64 (kk : Int), .func (.func 80) #[] #[.pointer (some ⟨gO, 0, none⟩), .pointer (some ⟨gS, 0, none⟩)]] rfl aT ?_; refine HCHO.out.mono ?_; rintro e w8 ⟨rfl, hb8, hk8, ho8, hf8⟩; refine ⟨_, rfl, ?_⟩; have n0_ := Aside0.mk (blk_kept BKS.out hk8 NS.out); have n1_ := Aside0.mk (hb8); have n2_ := Aside0.mk (ho8); clear BKS HB BKO; have BKS := n0_; have HB := n1_; have BKO := n2_; clear n0_ n1_ n2_; obtain ⟨vt, hvt, hRt⟩ := hf8 _ rfl; have HRT := Aside0.mk hRt; have hczO : w8.cell? ⟨gO, 0, none⟩ = some vt := (blk_cell hvt 0).trans rfl; obtain ⟨At, ct, et⟩ := Kd.R_slice hRt; subst et; clear hb8 hk8 ho8 hf8 hvt hRt HCHO))
          go_ret2
          exact ⟨_, rfl, HRT.out, HB.out⟩
    · rw [if_neg hok] at H
      exact absurd H (by simp)


/-! ### laws_eqIntSS: function 39 -/
def laws_eqIntSS.l0 : Nat → List (List Int) → List (List Int) → Int → Option (Bool)
 | 0, _, _, _ => none
 | k + 1, x0, x1, x5 => if x5 < (x0.length : Int) then (if 0 ≤ x5 then (if x5 < (x1.length : Int) then ((laws_eqIntS.f k (rd_L1 x0 x5) (rd_L1 x1 x5)).bind fun t295 => (if t295 = true then (laws_eqIntSS.l0 k x0 x1 (wrap64 (x5 + 1))) else (some false))) else (none)) else (none)) else (some true)
def laws_eqIntSS.f (k : Nat) (l0 : List (List Int)) (l1 : List (List Int)) : Option (Bool) := if (l0.length : Int) = (l1.length : Int) then (laws_eqIntSS.l0 k l0 l1 0) else (some false)
set_option maxHeartbeats 8000000 in
set_option maxRecDepth 100000 in
theorem laws_eqIntSS.calls (k : Nat) (A0 : Option Addr) (c0 : Nat) (l0 : List (List Int)) (A1 : Option Addr) (c1 : Nat) (l1 : List (List Int)) (r : Bool) (w : World) (hr0 : Kd.C (Kd.slice 3 (Kd.int .i64)) w A0 l0.length l0) (hc0 : l0.length ≤ c0) (hr1 : Kd.C (Kd.slice 3 (Kd.int .i64)) w A1 l1.length l1) (hc1 : l1.length ≤ c1) (h : laws_eqIntSS.f k l0 l1 = some r) :
 Calls Try.prog 39 #[.slice A0 l0.length c0, .slice A1 l1.length c1] w fun e w' => e = .returned (.bool r) ∧ Drawn0 w w' := by
 have HR0 := Aside0.mk hr0
 have HC0 := Aside0.mk hc0
 clear hr0 hc0
 have HR1 := Aside0.mk hr1
 have HC1 := Aside0.mk hc1
 clear hr1 hc1
 have H : (if (l0.length : Int) = (l1.length : Int) then (laws_eqIntSS.l0 k l0 l1 0) else (some false)) = some r := h
 clear h
 by_cases c3 : (l0.length : Int) = (l1.length : Int)
 · rw [if_pos c3] at H
   have c3b0 : ((l0.length : Int) == (l1.length : Int)) = true := beq_iff_eq.mpr c3
   have c3b1 : ((l0.length : Int) != (l1.length : Int)) = false := bne_eq_false_iff_eq.mpr c3
   have c3b2 : (l0.length == l1.length) = true := by first | simpa using c3 | (simp at c3 ⊢; omega)
   clear c3
   have H' := Aside0.mk H
   clear H
   go_enter Try.func39, Try.ntmps39
   go_wp2
   repeat (go_quiet (fail); try go_wp2)
   go_loopg [5] k (fun kq v5 w' => ∃ (x5_1 : Int), v5 = .int .i64 x5_1 ∧ Aside0 (laws_eqIntSS.l0 kq l0 l1 x5_1 = some r) ∧ Aside0 (kq ≤ k) ∧ Drawn0 w w')
   case atStart => exact ⟨(0), rD, H', ⟨Nat.le_refl _⟩, by repeat (first | exact Drawn0.refl _ | apply Drawn0.step)⟩
   case round =>
    clear H'
    try clear c1
    try clear c3
    try clear c3b0
    try clear c3b1
    try clear c3b2
    obtain ⟨x5_1, rfl, HA, HK1, ⟨m1, rfl⟩⟩ := hrel
    cases gk with
    | zero => exact absurd HA.out (by simp [laws_eqIntSS.l0])
    | succ k1 =>
     have H := HA.out
     clear HA
     simp only [laws_eqIntSS.l0] at H
     by_cases c4 : x5_1 < (l0.length : Int)
     · rw [if_pos c4] at H
       have c4b0 : decide (x5_1 < (l0.length : Int)) = true := decide_eq_true c4
       clear c4
       by_cases c5 : 0 ≤ x5_1
       · rw [if_pos c5] at H
         have c5b0 : decide (0 ≤ x5_1) = true := decide_eq_true c5
         clear c5
         by_cases c6 : x5_1 < (l1.length : Int)
         · rw [if_pos c6] at H
           have c6b0 : decide (x5_1 < (l1.length : Int)) = true := decide_eq_true c6
           clear c6
           replace H := Option.bind_eq_some_iff.mp H
           obtain ⟨t295, A70, H⟩ := H
           replace H : (if t295 = true then (laws_eqIntSS.l0 k1 l0 l1 (wrap64 (x5_1 + 1))) else (some false)) = some r := H
           have A7 := Aside0.mk A70
           clear A70
           by_cases c8 : t295 = true
           · subst c8
             have H1 : (laws_eqIntSS.l0 k1 l0 l1 (wrap64 (x5_1 + 1))) = some r := by rw [if_pos rfl] at H; exact H
             clear H
             have H := H1
             clear H1
             have H' := Aside0.mk H
             clear H
             have p293 : 0 ≤ (x5_1 : Int) := of_decide_eq_true aS
             have q293 : x5_1 < (l0.length : Int) := of_decide_eq_true aS
             obtain ⟨ad293, A293_0, c293_0, e293, hx293_0, hl293_0, hi293_0⟩ := at_L1 HR0.out x5_1 p293 q293
             cases e293
             have HR293_0 := Aside0.mk hi293_0
             have HC293_0 := Aside0.mk hl293_0
             clear hi293_0 hl293_0
             replace p293 := eq_true p293
             replace q293 := eq_true q293
             have p294 : 0 ≤ (x5_1 : Int) := of_decide_eq_true aS
             have q294 : x5_1 < (l1.length : Int) := of_decide_eq_true aS
             obtain ⟨ad294, A294_0, c294_0, e294, hx294_0, hl294_0, hi294_0⟩ := at_L1 HR1.out x5_1 p294 q294
             cases e294
             have HR294_0 := Aside0.mk hi294_0
             have HC294_0 := Aside0.mk hl294_0
             clear hi294_0 hl294_0
             replace p294 := eq_true p294
             replace q294 := eq_true q294
             go_wp2_with (first | (go_at_call 17; (with_reducible refine (laws_eqIntS.calls k1 _ _ (rd_L1 l0 x5_1) _ _ (rd_L1 l1 x5_1) true _ ?side1 ?side2 ?side3 ?side4 A7.out).mono ?_); (case side1 => exact cC HR293_0); (case side2 => exact HC293_0.out); (case side3 => exact cC HR294_0); (case side4 => exact HC294_0.out); rintro e w' ⟨rfl, ⟨nd, rfl⟩⟩; (try first | exact ⟨rfl, _, World.drewN_drewN _ _ _⟩ | exact ⟨rfl, _, Eq.trans (World.drewN_drewN _ _ _) (congrArg (World.drewN _) (Nat.add_assoc _ _ _))⟩)))
             repeat (go_quiet (first | (go_at_call 17; (with_reducible refine (laws_eqIntS.calls k1 _ _ (rd_L1 l0 x5_1) _ _ (rd_L1 l1 x5_1) true _ ?side1 ?side2 ?side3 ?side4 A7.out).mono ?_); (case side1 => exact cC HR293_0); (case side2 => exact HC293_0.out); (case side3 => exact cC HR294_0); (case side4 => exact HC294_0.out); rintro e w' ⟨rfl, ⟨nd, rfl⟩⟩; (try first | exact ⟨rfl, _, World.drewN_drewN _ _ _⟩ | exact ⟨rfl, _, Eq.trans (World.drewN_drewN _ _ _) (congrArg (World.drewN _) (Nat.add_assoc _ _ _))⟩))); try go_wp2_with (first | (go_at_call 17; (with_reducible refine (laws_eqIntS.calls k1 _ _ (rd_L1 l0 x5_1) _ _ (rd_L1 l1 x5_1) true _ ?side1 ?side2 ?side3 ?side4 A7.out).mono ?_); (case side1 => exact cC HR293_0); (case side2 => exact HC293_0.out); (case side3 => exact cC HR294_0); (case side4 => exact HC294_0.out); rintro e w' ⟨rfl, ⟨nd, rfl⟩⟩; (try first | exact ⟨rfl, _, World.drewN_drewN _ _ _⟩ | exact ⟨rfl, _, Eq.trans (World.drewN_drewN _ _ _) (congrArg (World.drewN _) (Nat.add_assoc _ _ _))⟩))))
             go_roundg k1
             case measure => have := HK1.out; omega
             case rel => exact ⟨(wrap64 (x5_1 + 1)), rD, H', ⟨by have := HK1.out; omega⟩, by repeat (first | exact Drawn0.refl _ | apply Drawn0.step)⟩
           · replace c8 := Bool.eq_false_iff.mpr c8
             subst c8
             have H1 : (some false) = some r := by rw [if_neg (show ¬ (false = true) by decide)] at H; exact H
             clear H
             have H := H1
             clear H1
             obtain rfl := Option.some.inj H
             have p293 : 0 ≤ (x5_1 : Int) := of_decide_eq_true aS
             have q293 : x5_1 < (l0.length : Int) := of_decide_eq_true aS
             obtain ⟨ad293, A293_0, c293_0, e293, hx293_0, hl293_0, hi293_0⟩ := at_L1 HR0.out x5_1 p293 q293
             cases e293
             have HR293_0 := Aside0.mk hi293_0
             have HC293_0 := Aside0.mk hl293_0
             clear hi293_0 hl293_0
             replace p293 := eq_true p293
             replace q293 := eq_true q293
             have p294 : 0 ≤ (x5_1 : Int) := of_decide_eq_true aS
             have q294 : x5_1 < (l1.length : Int) := of_decide_eq_true aS
             obtain ⟨ad294, A294_0, c294_0, e294, hx294_0, hl294_0, hi294_0⟩ := at_L1 HR1.out x5_1 p294 q294
             cases e294
             have HR294_0 := Aside0.mk hi294_0
             have HC294_0 := Aside0.mk hl294_0
             clear hi294_0 hl294_0
             replace p294 := eq_true p294
             replace q294 := eq_true q294
             go_wp2_with (first | (go_at_call 17; (with_reducible refine (laws_eqIntS.calls k1 _ _ (rd_L1 l0 x5_1) _ _ (rd_L1 l1 x5_1) false _ ?side1 ?side2 ?side3 ?side4 A7.out).mono ?_); (case side1 => exact cC HR293_0); (case side2 => exact HC293_0.out); (case side3 => exact cC HR294_0); (case side4 => exact HC294_0.out); rintro e w' ⟨rfl, ⟨nd, rfl⟩⟩; (try first | exact ⟨rfl, _, World.drewN_drewN _ _ _⟩ | exact ⟨rfl, _, Eq.trans (World.drewN_drewN _ _ _) (congrArg (World.drewN _) (Nat.add_assoc _ _ _))⟩)))
             repeat (go_quiet (first | (go_at_call 17; (with_reducible refine (laws_eqIntS.calls k1 _ _ (rd_L1 l0 x5_1) _ _ (rd_L1 l1 x5_1) false _ ?side1 ?side2 ?side3 ?side4 A7.out).mono ?_); (case side1 => exact cC HR293_0); (case side2 => exact HC293_0.out); (case side3 => exact cC HR294_0); (case side4 => exact HC294_0.out); rintro e w' ⟨rfl, ⟨nd, rfl⟩⟩; (try first | exact ⟨rfl, _, World.drewN_drewN _ _ _⟩ | exact ⟨rfl, _, Eq.trans (World.drewN_drewN _ _ _) (congrArg (World.drewN _) (Nat.add_assoc _ _ _))⟩))); try go_wp2_with (first | (go_at_call 17; (with_reducible refine (laws_eqIntS.calls k1 _ _ (rd_L1 l0 x5_1) _ _ (rd_L1 l1 x5_1) false _ ?side1 ?side2 ?side3 ?side4 A7.out).mono ?_); (case side1 => exact cC HR293_0); (case side2 => exact HC293_0.out); (case side3 => exact cC HR294_0); (case side4 => exact HC294_0.out); rintro e w' ⟨rfl, ⟨nd, rfl⟩⟩; (try first | exact ⟨rfl, _, World.drewN_drewN _ _ _⟩ | exact ⟨rfl, _, Eq.trans (World.drewN_drewN _ _ _) (congrArg (World.drewN _) (Nat.add_assoc _ _ _))⟩))))
             go_ret
             exact ⟨rD, by repeat (first | exact Drawn0.refl _ | apply Drawn0.step)⟩
         · rw [if_neg c6] at H
           exact absurd H (by simp)
       · rw [if_neg c5] at H
         exact absurd H (by simp)
     · rw [if_neg c4] at H
       have c4b0 : decide (x5_1 < (l0.length : Int)) = false := decide_eq_false c4
       clear c4
       obtain rfl := Option.some.inj H
       go_wp2
       repeat (go_quiet (fail); try go_wp2)
       go_ret
       exact ⟨rD, by repeat (first | exact Drawn0.refl _ | apply Drawn0.step)⟩
 · rw [if_neg c3] at H
   have c3b0 : ((l0.length : Int) == (l1.length : Int)) = false := beq_eq_false_iff_ne.mpr c3
   have c3b1 : ((l0.length : Int) != (l1.length : Int)) = true := bne_iff_ne.mpr c3
   have c3b2 : (l0.length == l1.length) = false := by first | simpa using c3 | (simp at c3 ⊢; omega)
   obtain rfl := Option.some.inj H
   go_enter Try.func39, Try.ntmps39
   go_wp2
   repeat (go_quiet (fail); try go_wp2)
   go_ret
   exact ⟨rD, by repeat (first | exact Drawn0.refl _ | apply Drawn0.step)⟩

/-! ### laws_eqSample: function 32 -/
def laws_eqSample.f (k : Nat) (l0_0 : List (List Int)) (l0_1 : List Int) (l1_0 : List (List Int)) (l1_1 : List Int) : Option (Bool) := (laws_eqIntSS.f k l0_0 l1_0).bind fun t298 => (if t298 = true then ((laws_eqIntS.f k l0_1 l1_1).bind fun t299 => (if t299 = true then (some true) else (some false))) else (some false))
set_option maxHeartbeats 8000000 in
set_option maxRecDepth 100000 in
theorem laws_eqSample.calls (k : Nat) (A0_0 : Option Addr) (c0_0 : Nat) (l0_0 : List (List Int)) (A0_1 : Option Addr) (c0_1 : Nat) (l0_1 : List Int) (A1_0 : Option Addr) (c1_0 : Nat) (l1_0 : List (List Int)) (A1_1 : Option Addr) (c1_1 : Nat) (l1_1 : List Int) (r : Bool) (w : World) (hr0_0 : Kd.C (Kd.slice 3 (Kd.int .i64)) w A0_0 l0_0.length l0_0) (hc0_0 : l0_0.length ≤ c0_0) (hr0_1 : Kd.C (Kd.int .i64) w A0_1 l0_1.length l0_1) (hc0_1 : l0_1.length ≤ c0_1) (hr1_0 : Kd.C (Kd.slice 3 (Kd.int .i64)) w A1_0 l1_0.length l1_0) (hc1_0 : l1_0.length ≤ c1_0) (hr1_1 : Kd.C (Kd.int .i64) w A1_1 l1_1.length l1_1) (hc1_1 : l1_1.length ≤ c1_1) (h : laws_eqSample.f k l0_0 l0_1 l1_0 l1_1 = some r) :
 Calls Try.prog 32 #[.agg #[.slice A0_0 l0_0.length c0_0, .slice A0_1 l0_1.length c0_1], .agg #[.slice A1_0 l1_0.length c1_0, .slice A1_1 l1_1.length c1_1]] w fun e w' => e = .returned (.bool r) ∧ Below w.heap.size w w' := by
 have hu52 := Try.underlying52
 have HR0_0 := Aside0.mk hr0_0
 have HC0_0 := Aside0.mk hc0_0
 clear hr0_0 hc0_0
 have HR0_1 := Aside0.mk hr0_1
 have HC0_1 := Aside0.mk hc0_1
 clear hr0_1 hc0_1
 have HR1_0 := Aside0.mk hr1_0
 have HC1_0 := Aside0.mk hc1_0
 clear hr1_0 hc1_0
 have HR1_1 := Aside0.mk hr1_1
 have HC1_1 := Aside0.mk hc1_1
 clear hr1_1 hc1_1
 have HB := Aside0.mk (Below.refl w.heap.size w)
 have H : ((laws_eqIntSS.f k l0_0 l1_0).bind fun t298 => (if t298 = true then ((laws_eqIntS.f k l0_1 l1_1).bind fun t299 => (if t299 = true then (some true) else (some false))) else (some false))) = some r := h
 clear h
 replace H := Option.bind_eq_some_iff.mp H
 obtain ⟨t298, A30, H⟩ := H
 replace H : (if t298 = true then ((laws_eqIntS.f k l0_1 l1_1).bind fun t299 => (if t299 = true then (some true) else (some false))) else (some false)) = some r := H
 have A3 := Aside0.mk A30
 clear A30
 by_cases c4 : t298 = true
 · subst c4
   have H1 : ((laws_eqIntS.f k l0_1 l1_1).bind fun t299 => (if t299 = true then (some true) else (some false))) = some r := by rw [if_pos rfl] at H; exact H
   clear H
   have H := H1
   clear H1
   replace H := Option.bind_eq_some_iff.mp H
   obtain ⟨t299, A50, H⟩ := H
   replace H : (if t299 = true then (some true) else (some false)) = some r := H
   have A5 := Aside0.mk A50
   clear A50
   by_cases c6 : t299 = true
   · subst c6
     have H1 : (some true) = some r := by rw [if_pos rfl] at H; exact H
     clear H
     have H := H1
     clear H1
     obtain rfl := Option.some.inj H
     go_enter Try.func32, Try.ntmps32
     go_wp2_with (first | ((with_reducible refine gate_dst (N := 2) rfl ?_); refine box_event ?hg (N := 2) ?hd (cs := #[.slice A0_0 l0_0.length c0_0, .slice A0_1 l0_1.length c0_1]) (t := 52) ?hr ?_; (case hd => rfl); (case hg => rfl); (case hr => first | (go_simp; done) | (go_simp; rfl)); intro gb296 hg w7 hbox hb; have n0_ := Aside0.mk (below_step (bB HB) hb); have n1_ := Aside0.mk (hbox); have n2_ := Aside0.mk ((by rw [hg]; exact (below_size (bB HB)) : w.heap.size ≤ gb296)); have n3_ := Aside0.mk ((by rw [hg]; exact (below_size (bB HB)) : w.heap.size ≤ gb296)); clear HB; have HB := n0_; have BK296 := n1_; have GW296 := n2_; have GE296 := n3_; clear n0_ n1_ n2_ n3_; clear hb hbox hg) | ((with_reducible refine gate_dst (N := 3) rfl ?_); refine box_event ?hg (N := 3) ?hd (cs := #[.slice A1_0 l1_0.length c1_0, .slice A1_1 l1_1.length c1_1]) (t := 52) ?hr ?_; (case hd => rfl); (case hg => rfl); (case hr => first | (go_simp; done) | (go_simp; rfl)); intro gb297 hg w8 hbox hb; have n0_ := Aside0.mk (bW BK296 hb); have n1_ := Aside0.mk (below_step (bC HB GE296) hb); have n2_ := Aside0.mk (hbox); have n3_ := Aside0.mk ((by rw [hg]; exact (below_size (bC HB GE296)) : w.heap.size ≤ gb297)); have n4_ := Aside0.mk ((by rw [hg]; exact (below_size (bC HB GE296)) : w.heap.size ≤ gb297)); have n5_ := Aside0.mk ((by rw [hg]; exact Nat.ne_of_lt (blk_lt (g := gb296) (o := .cells #[.slice A0_0 l0_0.length c0_0, .slice A0_1 l0_1.length c0_1] 52 (0, 0)) (pB BK296)) : gb296 ≠ gb297)); have n6_ := Aside0.mk ((by rw [hg]; exact Nat.ne_of_gt (blk_lt (g := gb296) (o := .cells #[.slice A0_0 l0_0.length c0_0, .slice A0_1 l0_1.length c0_1] 52 (0, 0)) (pB BK296)) : gb297 ≠ gb296)); clear BK296; clear HB; have BK296 := n0_; have HB := n1_; have BK297 := n2_; have GW297 := n3_; have GE297 := n4_; have NB296_297 := n5_; have NB297_296 := n6_; clear n0_ n1_ n2_ n3_ n4_ n5_ n6_; clear hb hbox hg; have hnb9 := NB296_297.out; have hnc9 := NB297_296.out; have hcz10_0 : w8.cell? ⟨gb296, 0, none⟩ = some (.slice A0_0 l0_0.length c0_0) := (blk_cell BK296.out 0).trans rfl; have hcz10_1 : w8.cell? ⟨gb296, 1, none⟩ = some (.slice A0_1 l0_1.length c0_1) := (blk_cell BK296.out 1).trans rfl; have hfz10_0 := blk_frozen BK296.out 0; have hfz10_1 := blk_frozen BK296.out 1; have hcz11_0 : w8.cell? ⟨gb297, 0, none⟩ = some (.slice A1_0 l1_0.length c1_0) := (blk_cell BK297.out 0).trans rfl; have hcz11_1 : w8.cell? ⟨gb297, 1, none⟩ = some (.slice A1_1 l1_1.length c1_1) := (blk_cell BK297.out 1).trans rfl; have hfz11_0 := blk_frozen BK297.out 0; have hfz11_1 := blk_frozen BK297.out 1) | ((with_reducible refine gate_callee (f := 39) rfl ?_); refine goesL_ (some 9) rfl rfl Try.func39 (by kernel_rfl) rfl #[.slice A0_0 l0_0.length c0_0, .slice A1_0 l1_0.length c1_0] rfl aT ?_; (with_reducible refine (laws_eqIntSS.calls k _ _ l0_0 _ _ l1_0 true _ ?side1 ?side2 ?side3 ?side4 A3.out).mono ?_); (case side1 => exact cB HR0_0 HB); (case side2 => exact HC0_0.out); (case side3 => exact cB HR1_0 HB); (case side4 => exact HC1_0.out); rintro e w' ⟨rfl, ⟨nd, rfl⟩⟩; refine ⟨_, rfl, ?_⟩) | ((with_reducible refine gate_callee (f := 17) rfl ?_); refine goesL_ (some 15) rfl rfl Try.func17 (by kernel_rfl) rfl #[.slice A0_1 l0_1.length c0_1, .slice A1_1 l1_1.length c1_1] rfl aT ?_; (with_reducible refine (laws_eqIntS.calls k _ _ l0_1 _ _ l1_1 true _ ?side1 ?side2 ?side3 ?side4 A5.out).mono ?_); (case side1 => repeat (first | exact (Kd.C_below HR0_1.out (bD HB GE296 GE297)) | (with_reducible refine Kd.C_alloc ?_ _) | (with_reducible refine Kd.C_drewN ?_ _) | (with_reducible refine Kd.C_drew ?_))); (case side2 => exact HC0_1.out); (case side3 => repeat (first | exact (Kd.C_below HR1_1.out (bD HB GE296 GE297)) | (with_reducible refine Kd.C_alloc ?_ _) | (with_reducible refine Kd.C_drewN ?_ _) | (with_reducible refine Kd.C_drew ?_))); (case side4 => exact HC1_1.out); rintro e w' ⟨rfl, ⟨nd, rfl⟩⟩; refine ⟨_, rfl, ?_⟩))
     go_ret
     exact ⟨eW, bD HB GE296 GE297⟩
   · replace c6 := Bool.eq_false_iff.mpr c6
     subst c6
     have H1 : (some false) = some r := by rw [if_neg (show ¬ (false = true) by decide)] at H; exact H
     clear H
     have H := H1
     clear H1
     obtain rfl := Option.some.inj H
     go_enter Try.func32, Try.ntmps32
     go_wp2_with (first | ((with_reducible refine gate_dst (N := 2) rfl ?_); refine box_event ?hg (N := 2) ?hd (cs := #[.slice A0_0 l0_0.length c0_0, .slice A0_1 l0_1.length c0_1]) (t := 52) ?hr ?_; (case hd => rfl); (case hg => rfl); (case hr => first | (go_simp; done) | (go_simp; rfl)); intro gb296 hg w12 hbox hb; have n0_ := Aside0.mk (below_step (bB HB) hb); have n1_ := Aside0.mk (hbox); have n2_ := Aside0.mk ((by rw [hg]; exact (below_size (bB HB)) : w.heap.size ≤ gb296)); have n3_ := Aside0.mk ((by rw [hg]; exact (below_size (bB HB)) : w.heap.size ≤ gb296)); clear HB; have HB := n0_; have BK296 := n1_; have GW296 := n2_; have GE296 := n3_; clear n0_ n1_ n2_ n3_; clear hb hbox hg) | ((with_reducible refine gate_dst (N := 3) rfl ?_); refine box_event ?hg (N := 3) ?hd (cs := #[.slice A1_0 l1_0.length c1_0, .slice A1_1 l1_1.length c1_1]) (t := 52) ?hr ?_; (case hd => rfl); (case hg => rfl); (case hr => first | (go_simp; done) | (go_simp; rfl)); intro gb297 hg w13 hbox hb; have n0_ := Aside0.mk (bW BK296 hb); have n1_ := Aside0.mk (below_step (bC HB GE296) hb); have n2_ := Aside0.mk (hbox); have n3_ := Aside0.mk ((by rw [hg]; exact (below_size (bC HB GE296)) : w.heap.size ≤ gb297)); have n4_ := Aside0.mk ((by rw [hg]; exact (below_size (bC HB GE296)) : w.heap.size ≤ gb297)); have n5_ := Aside0.mk ((by rw [hg]; exact Nat.ne_of_lt (blk_lt (g := gb296) (o := .cells #[.slice A0_0 l0_0.length c0_0, .slice A0_1 l0_1.length c0_1] 52 (0, 0)) (pB BK296)) : gb296 ≠ gb297)); have n6_ := Aside0.mk ((by rw [hg]; exact Nat.ne_of_gt (blk_lt (g := gb296) (o := .cells #[.slice A0_0 l0_0.length c0_0, .slice A0_1 l0_1.length c0_1] 52 (0, 0)) (pB BK296)) : gb297 ≠ gb296)); clear BK296; clear HB; have BK296 := n0_; have HB := n1_; have BK297 := n2_; have GW297 := n3_; have GE297 := n4_; have NB296_297 := n5_; have NB297_296 := n6_; clear n0_ n1_ n2_ n3_ n4_ n5_ n6_; clear hb hbox hg; have hnb14 := NB296_297.out; have hnc14 := NB297_296.out; have hcz15_0 : w13.cell? ⟨gb296, 0, none⟩ = some (.slice A0_0 l0_0.length c0_0) := (blk_cell BK296.out 0).trans rfl; have hcz15_1 : w13.cell? ⟨gb296, 1, none⟩ = some (.slice A0_1 l0_1.length c0_1) := (blk_cell BK296.out 1).trans rfl; have hfz15_0 := blk_frozen BK296.out 0; have hfz15_1 := blk_frozen BK296.out 1; have hcz16_0 : w13.cell? ⟨gb297, 0, none⟩ = some (.slice A1_0 l1_0.length c1_0) := (blk_cell BK297.out 0).trans rfl; have hcz16_1 : w13.cell? ⟨gb297, 1, none⟩ = some (.slice A1_1 l1_1.length c1_1) := (blk_cell BK297.out 1).trans rfl; have hfz16_0 := blk_frozen BK297.out 0; have hfz16_1 := blk_frozen BK297.out 1) | ((with_reducible refine gate_callee (f := 39) rfl ?_); refine goesL_ (some 9) rfl rfl Try.func39 (by kernel_rfl) rfl #[.slice A0_0 l0_0.length c0_0, .slice A1_0 l1_0.length c1_0] rfl aT ?_; (with_reducible refine (laws_eqIntSS.calls k _ _ l0_0 _ _ l1_0 true _ ?side1 ?side2 ?side3 ?side4 A3.out).mono ?_); (case side1 => exact cB HR0_0 HB); (case side2 => exact HC0_0.out); (case side3 => exact cB HR1_0 HB); (case side4 => exact HC1_0.out); rintro e w' ⟨rfl, ⟨nd, rfl⟩⟩; refine ⟨_, rfl, ?_⟩) | ((with_reducible refine gate_callee (f := 17) rfl ?_); refine goesL_ (some 15) rfl rfl Try.func17 (by kernel_rfl) rfl #[.slice A0_1 l0_1.length c0_1, .slice A1_1 l1_1.length c1_1] rfl aT ?_; (with_reducible refine (laws_eqIntS.calls k _ _ l0_1 _ _ l1_1 false _ ?side1 ?side2 ?side3 ?side4 A5.out).mono ?_); (case side1 => repeat (first | exact (Kd.C_below HR0_1.out (bD HB GE296 GE297)) | (with_reducible refine Kd.C_alloc ?_ _) | (with_reducible refine Kd.C_drewN ?_ _) | (with_reducible refine Kd.C_drew ?_))); (case side2 => exact HC0_1.out); (case side3 => repeat (first | exact (Kd.C_below HR1_1.out (bD HB GE296 GE297)) | (with_reducible refine Kd.C_alloc ?_ _) | (with_reducible refine Kd.C_drewN ?_ _) | (with_reducible refine Kd.C_drew ?_))); (case side4 => exact HC1_1.out); rintro e w' ⟨rfl, ⟨nd, rfl⟩⟩; refine ⟨_, rfl, ?_⟩))
     go_ret
     exact ⟨eW, bD HB GE296 GE297⟩
 · replace c4 := Bool.eq_false_iff.mpr c4
   subst c4
   have H1 : (some false) = some r := by rw [if_neg (show ¬ (false = true) by decide)] at H; exact H
   clear H
   have H := H1
   clear H1
   obtain rfl := Option.some.inj H
   go_enter Try.func32, Try.ntmps32
   go_wp2_with (first | ((with_reducible refine gate_dst (N := 2) rfl ?_); refine box_event ?hg (N := 2) ?hd (cs := #[.slice A0_0 l0_0.length c0_0, .slice A0_1 l0_1.length c0_1]) (t := 52) ?hr ?_; (case hd => rfl); (case hg => rfl); (case hr => first | (go_simp; done) | (go_simp; rfl)); intro gb296 hg w17 hbox hb; have n0_ := Aside0.mk (below_step (bB HB) hb); have n1_ := Aside0.mk (hbox); have n2_ := Aside0.mk ((by rw [hg]; exact (below_size (bB HB)) : w.heap.size ≤ gb296)); have n3_ := Aside0.mk ((by rw [hg]; exact (below_size (bB HB)) : w.heap.size ≤ gb296)); clear HB; have HB := n0_; have BK296 := n1_; have GW296 := n2_; have GE296 := n3_; clear n0_ n1_ n2_ n3_; clear hb hbox hg) | ((with_reducible refine gate_dst (N := 3) rfl ?_); refine box_event ?hg (N := 3) ?hd (cs := #[.slice A1_0 l1_0.length c1_0, .slice A1_1 l1_1.length c1_1]) (t := 52) ?hr ?_; (case hd => rfl); (case hg => rfl); (case hr => first | (go_simp; done) | (go_simp; rfl)); intro gb297 hg w18 hbox hb; have n0_ := Aside0.mk (bW BK296 hb); have n1_ := Aside0.mk (below_step (bC HB GE296) hb); have n2_ := Aside0.mk (hbox); have n3_ := Aside0.mk ((by rw [hg]; exact (below_size (bC HB GE296)) : w.heap.size ≤ gb297)); have n4_ := Aside0.mk ((by rw [hg]; exact (below_size (bC HB GE296)) : w.heap.size ≤ gb297)); have n5_ := Aside0.mk ((by rw [hg]; exact Nat.ne_of_lt (blk_lt (g := gb296) (o := .cells #[.slice A0_0 l0_0.length c0_0, .slice A0_1 l0_1.length c0_1] 52 (0, 0)) (pB BK296)) : gb296 ≠ gb297)); have n6_ := Aside0.mk ((by rw [hg]; exact Nat.ne_of_gt (blk_lt (g := gb296) (o := .cells #[.slice A0_0 l0_0.length c0_0, .slice A0_1 l0_1.length c0_1] 52 (0, 0)) (pB BK296)) : gb297 ≠ gb296)); clear BK296; clear HB; have BK296 := n0_; have HB := n1_; have BK297 := n2_; have GW297 := n3_; have GE297 := n4_; have NB296_297 := n5_; have NB297_296 := n6_; clear n0_ n1_ n2_ n3_ n4_ n5_ n6_; clear hb hbox hg; have hnb19 := NB296_297.out; have hnc19 := NB297_296.out; have hcz20_0 : w18.cell? ⟨gb296, 0, none⟩ = some (.slice A0_0 l0_0.length c0_0) := (blk_cell BK296.out 0).trans rfl; have hcz20_1 : w18.cell? ⟨gb296, 1, none⟩ = some (.slice A0_1 l0_1.length c0_1) := (blk_cell BK296.out 1).trans rfl; have hfz20_0 := blk_frozen BK296.out 0; have hfz20_1 := blk_frozen BK296.out 1; have hcz21_0 : w18.cell? ⟨gb297, 0, none⟩ = some (.slice A1_0 l1_0.length c1_0) := (blk_cell BK297.out 0).trans rfl; have hcz21_1 : w18.cell? ⟨gb297, 1, none⟩ = some (.slice A1_1 l1_1.length c1_1) := (blk_cell BK297.out 1).trans rfl; have hfz21_0 := blk_frozen BK297.out 0; have hfz21_1 := blk_frozen BK297.out 1) | ((with_reducible refine gate_callee (f := 39) rfl ?_); refine goesL_ (some 9) rfl rfl Try.func39 (by kernel_rfl) rfl #[.slice A0_0 l0_0.length c0_0, .slice A1_0 l1_0.length c1_0] rfl aT ?_; (with_reducible refine (laws_eqIntSS.calls k _ _ l0_0 _ _ l1_0 false _ ?side1 ?side2 ?side3 ?side4 A3.out).mono ?_); (case side1 => exact cB HR0_0 HB); (case side2 => exact HC0_0.out); (case side3 => exact cB HR1_0 HB); (case side4 => exact HC1_0.out); rintro e w' ⟨rfl, ⟨nd, rfl⟩⟩; refine ⟨_, rfl, ?_⟩))
   go_ret
   exact ⟨eW, bD HB GE296 GE297⟩

-- NOT PRINTED: function 40 (laws_markIntSS)

-- NOT PRINTED: function 33 (laws_markSample)

end Go.Proofs.Ytfkfahdikmfpeaa.PFnExactFewestPlaces
