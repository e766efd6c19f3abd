/- FnExactNetTables: what its calls come to, shown of numbers and lists alone. -/
import Derived.Test.YtniebbjbihenfaaSFnExactNetTables
import Derived.Test.YtniebbjbihenfaaPm
namespace Go.Proofs.Ytniebbjbihenfaa.QFnExactNetTables
open Go.RowKit Go.Proofs.Ytniebbjbihenfaa.KFnExactNetTables Go.Proofs.Ytniebbjbihenfaa.Lb Go.Proofs.Ytniebbjbihenfaa.Pm Go.Proofs.Ytniebbjbihenfaa.PFnExactNetTables Go.Proofs.YtniebbjbihenfaaW.PrintWords Go.Proofs.YtniebbjbihenfaaW.PrintLast Go.Proofs.YtniebbjbihenfaaW.PrintMore
set_option linter.unusedVariables false
set_option linter.unusedSimpArgs false
theorem rdL1_nat (xs : List (List Int)) (i : Nat) : rd_L1 xs (i : Int) = xs.getD i [] := by simp [rd_L1]

theorem rdL3_nat (xs : List (List S37)) (i : Nat) : rd_L3 xs (i : Int) = xs.getD i [] := by simp [rd_L3]

theorem rdL5_nat (xs : List (List S42)) (i : Nat) : rd_L5 xs (i : Int) = xs.getD i [] := by simp [rd_L5]

theorem rdT37_nat (xs : List S37) (i : Nat) : rd_T37 xs (i : Int) = xs.getD i z37 := by simp [rd_T37]

theorem rdT42_nat (xs : List S42) (i : Nat) : rd_T42 xs (i : Int) = xs.getD i z42 := by simp [rd_T42]

theorem laws_eqIntS_ev (l : List Int) (h : l.length ≤ maxLen) : Ev (fun k => laws_eqIntS.f k l l) true := by
  unfold maxLen at h
  refine Ev.congr (f := fun k => laws_eqIntS.l0 k l l 0) (fun k => by simp only [laws_eqIntS.f, if_true]) ?_
  refine ev_yes (L := fun i k => laws_eqIntS.l0 k l l i) (n := l.length) (fun i hi => To.step fun k => ?_) (Ev.step' (f := fun _ => some true) (fun k => ?_) (Ev.now _))
  · have c1 : (i : Int) < (l.length : Int) := by omega
    have c0 : 0 ≤ (i : Int) := by omega
    simp only [laws_eqIntS.l0, if_pos c1, if_pos c0, if_true, wrap_succ hi h]
  · simp only [laws_eqIntS.l0, if_neg (Int.lt_irrefl _)]

theorem laws_eqIntSS_ev (l : List (List Int)) (h : l.length ≤ maxLen) (hi : ∀ x ∈ l, x.length ≤ maxLen) : Ev (fun k => laws_eqIntSS.f k l l) true := by
  have h' : l.length ≤ 9223372036854775807 := h
  refine Ev.congr (f := fun k => laws_eqIntSS.l0 k l l 0) (fun k => by simp only [laws_eqIntSS.f, if_true]) ?_
  refine ev_yes (L := fun i k => laws_eqIntSS.l0 k l l i) (n := l.length) (fun i hi2 => ?_) (Ev.step' (f := fun _ => some true) (fun k => ?_) (Ev.now _))
  · have c1 : (i : Int) < (l.length : Int) := by omega
    have c0 : 0 ≤ (i : Int) := by omega
    refine (To.step (f := fun k => (laws_eqIntS.f k (l.getD i []) (l.getD i [])).bind fun t => if t = true then laws_eqIntSS.l0 k l l ((i + 1 : Nat) : Int) else some false) (fun k => ?_)).trans ((To.bind (laws_eqIntS_ev _ (hi _ (getD_mem hi2 [])))).trans (To.congr fun k => by simp only [if_true]))
    simp only [laws_eqIntSS.l0, if_pos c1, if_pos c0, rdL1_nat, wrap_succ hi2 h']
  · simp only [laws_eqIntSS.l0, if_neg (Int.lt_irrefl _)]

theorem laws_markIntS_ev (l : List Int) (a : Int) (h0 : 0 ≤ a) (h1 : a + l.length ≤ 1000000000000) : Ev (fun k => laws_markIntS.f k l a) (a + l.length, iota a l) := by
  have e := ev_mark (0 : Int) (fun _ => 1) (fun a _ => a) l 1000000000000 (L := fun ys a i k => laws_markIntS.l0 k ys a i) (fun ys a i x hi hl hx hm ha hb => To.step fun k => by
    have c1 : (i : Int) < (ys.length : Int) := by omega
    have c3 : 0 ≤ (i : Int) := by omega
    have e : wrap64 (a + 1) = a + ((1 : Nat) : Int) := wrap_id (by omega) (by simpa using (by omega : a + 1 ≤ 9223372036854775807))
    simp only [laws_markIntS.l0, if_pos c1, if_pos c3, Int.toNat_natCast, wrap_succ (i := i) (n := ys.length) (by omega) (by omega), e]) (fun ys a hl => Ev.step' (f := fun _ => some (a, ys)) (fun k => by
    simp only [laws_markIntS.l0, hl, if_neg (Int.lt_irrefl _)]) (Ev.now _)) a h0 (by rw [sumN_one]; exact h1)
  rw [sumN_one] at e
  exact e

theorem laws_heldIntS_ev (l : List Int) (a : Int) (h0 : 0 ≤ a) (h1 : a + l.length ≤ 1000000000000) : Ev (fun k => laws_heldIntS.f k (iota a l) a) (a + l.length) := by
  have e := ev_held (0 : Int) (fun _ => 1) (fun a _ => a) l 1000000000000 (L := fun b i k => laws_heldIntS.l0 k (iota a l) b i) a (fun b i x hi hx hm ha hb => To.step fun k => by
    have c1 : (i : Int) < ((iota a l).length : Int) := by rw [iota_len]; omega
    have c3 : 0 ≤ (i : Int) := by omega
    have c4 : (iota a l).getD i 0 = b := hx
    have e : wrap64 (b + 1) = b + ((1 : Nat) : Int) := wrap_id (by omega) (by simpa using (by omega : b + 1 ≤ 9223372036854775807))
    simp only [laws_heldIntS.l0, if_pos c1, if_pos c3, rd_nat, if_pos c4, wrap_succ (i := i) (n := l.length) hi (by omega), e]) (fun b => Ev.step' (f := fun _ => some b) (fun k => by
    simp only [laws_heldIntS.l0, iota_len, if_neg (Int.lt_irrefl _)]) (Ev.now _)) h0 (by rw [sumN_one]; exact h1)
  rw [sumN_one] at e
  exact e

theorem laws_heldIntSS_ev (P : List (List Int)) (a : Int) (h0 : 0 ≤ a) (h1 : a + sumN List.length P ≤ 1000000000000) (hP : P.length ≤ 1000000000000) : Ev (fun k => laws_heldIntSS.f k (iota2 a P) a) (a + sumN List.length P) := by
  have hlen : (iota2 a P).length = P.length := markL_len _ _ _ _
  refine ev_held ([] : List Int) List.length iota P 1000000000000 (L := fun b i k => laws_heldIntSS.l0 k (iota2 a P) b i) a (fun b i x hi hx hm ha hb r hr => ?_) (fun b => Ev.step' (f := fun _ => some b) (fun k => by simp only [laws_heldIntSS.l0, hlen, if_neg (Int.lt_irrefl _)]) (Ev.now _)) h0 h1
  have c1 : (i : Int) < ((iota2 a P).length : Int) := by rw [hlen]; omega
  have c3 : 0 ≤ (i : Int) := by omega
  have hg : (iota2 a P).getD i [] = iota b x := hx
  refine Ev.step' (f := fun k => (laws_heldIntS.f k (iota b x) b).bind fun t => if t < 0 then some (-1) else laws_heldIntSS.l0 k (iota2 a P) t ((i + 1 : Nat) : Int)) (fun k => by
    simp only [laws_heldIntSS.l0, if_pos c1, if_pos c3, rdL1_nat, hg, wrap_succ hi (by omega : P.length ≤ 9223372036854775807)]) (Ev.bind (laws_heldIntS_ev x b ha hb) ?_)
  simp only [if_neg (show ¬ b + (x.length : Int) < 0 by omega)]
  exact hr

theorem laws_szIntS_eq (l : List Int) (a : Int) (h : l.length ≤ maxLen) (h0 : 0 ≤ a) (h1 : a ≤ 1048576) : laws_szIntS.f l a = some (lft a l.length) := by
  unfold maxLen at h
  have hw : wrap64 (a - (l.length : Int)) = a - l.length := wrap_id (by omega) (by omega)
  unfold laws_szIntS.f lft
  rw [hw]
  by_cases c : (l.length : Int) ≤ a
  · rw [if_neg (by omega), if_pos c]
  · rw [if_pos (by omega), if_neg c]

theorem laws_szPlane_eq (l : List Int) (b a : Int) (h : l.length ≤ maxLen) (h0 : 0 ≤ a) (h1 : a ≤ 1048576) : laws_szPlane.f l b a = some (lft a l.length) := by
  unfold laws_szPlane.f
  rw [laws_szIntS_eq l a h h0 h1]
  simp only [Option.bind_some]
  by_cases c : lft a l.length < 0
  · rw [if_pos c, lft_neg c]
  · rw [if_neg c]

def szP (l : List S37) : Nat := l.length + sumN (fun x : S37 => x.f0.length) l
theorem szP_small {l : List S37} {n : Nat} (h : szP l ≤ n) : l.length ≤ n ∧ ∀ x ∈ l, x.f0.length ≤ n := by
  unfold szP at h
  exact ⟨by omega, fun x hx => by have := sumN_mem (fun x : S37 => x.f0.length) hx; omega⟩
theorem laws_szPlaneS_ev (l : List S37) (a : Int) (h : l.length ≤ maxLen) (hi : ∀ x ∈ l, x.f0.length ≤ maxLen) (h0 : 0 ≤ a) (h1 : a ≤ 1048576) : Ev (fun k => laws_szPlaneS.f k l a) (lft a (szP l)) := by
  have h' : l.length ≤ 9223372036854775807 := h
  unfold szP laws_szPlaneS.f
  rw [← lft_add a _ _ h0]
  have hw : wrap64 (a - (l.length : Int)) = a - l.length := wrap_id (by omega) (by omega)
  rw [hw]
  by_cases c : (l.length : Int) ≤ a
  · have e : lft a l.length = a - l.length := by unfold lft; rw [if_pos c]
    rw [e]
    simp only [if_neg (show ¬ a - (l.length : Int) < 0 by omega)]
    refine ev_sz z37 (fun x : S37 => x.f0.length) l (L := fun a i k => laws_szPlaneS.l0 k l a i) (fun i a hi2 h0 h1 hn => ?_) (fun i a hi2 h0 h1 hn => ?_) (fun a => Ev.step' (f := fun _ => some a) (fun k => by simp only [laws_szPlaneS.l0, if_neg (Int.lt_irrefl _)]) (Ev.now _)) _ (by omega) (by omega)
    · have c1 : (i : Int) < (l.length : Int) := by omega
      have c0 : 0 ≤ (i : Int) := by omega
      refine To.step (fun k => ?_)
      simp only [laws_szPlaneS.l0, if_pos c1, if_pos c0, rdT37_nat, laws_szPlane_eq _ _ a (hi _ (getD_mem hi2 z37)) h0 h1, Option.bind_some, if_neg (show ¬ lft a (l.getD i z37).f0.length < 0 by omega), wrap_succ hi2 h']
    · have c1 : (i : Int) < (l.length : Int) := by omega
      have c0 : 0 ≤ (i : Int) := by omega
      refine Ev.step' (f := fun _ => some (-1)) (fun k => ?_) (Ev.now _)
      simp only [laws_szPlaneS.l0, if_pos c1, if_pos c0, rdT37_nat, laws_szPlane_eq _ _ a (hi _ (getD_mem hi2 z37)) h0 h1, Option.bind_some, if_pos hn]
  · have e : lft a l.length = -1 := by unfold lft; rw [if_neg c]
    rw [e]
    simp only [if_pos (show a - (l.length : Int) < 0 by omega), if_pos (show (-1 : Int) < 0 by omega)]
    exact Ev.now _

def szPP (l : List (List S37)) : Nat := l.length + sumN szP l
theorem szPP_small {l : List (List S37)} {n : Nat} (h : szPP l ≤ n) : l.length ≤ n ∧ ∀ x ∈ l, x.length ≤ n ∧ ∀ y ∈ x, y.f0.length ≤ n := by
  unfold szPP at h
  exact ⟨by omega, fun x hx => by have := sumN_mem szP hx; exact szP_small (by omega)⟩
theorem laws_szPlaneSS_ev (l : List (List S37)) (a : Int) (h : l.length ≤ maxLen) (hi : ∀ x ∈ l, x.length ≤ maxLen ∧ ∀ y ∈ x, y.f0.length ≤ maxLen) (h0 : 0 ≤ a) (h1 : a ≤ 1048576) : Ev (fun k => laws_szPlaneSS.f k l a) (lft a (szPP l)) := by
  have h' : l.length ≤ 9223372036854775807 := h
  unfold szPP laws_szPlaneSS.f
  rw [← lft_add a _ _ h0]
  have hw : wrap64 (a - (l.length : Int)) = a - l.length := wrap_id (by omega) (by omega)
  rw [hw]
  by_cases c : (l.length : Int) ≤ a
  · have e : lft a l.length = a - l.length := by unfold lft; rw [if_pos c]
    rw [e]
    simp only [if_neg (show ¬ a - (l.length : Int) < 0 by omega)]
    refine ev_sz [] szP l (L := fun a i k => laws_szPlaneSS.l0 k l a i) (fun i a hi2 h0 h1 hn => ?_) (fun i a hi2 h0 h1 hn => ?_) (fun a => Ev.step' (f := fun _ => some a) (fun k => by simp only [laws_szPlaneSS.l0, if_neg (Int.lt_irrefl _)]) (Ev.now _)) _ (by omega) (by omega)
    · have c1 : (i : Int) < (l.length : Int) := by omega
      have c0 : 0 ≤ (i : Int) := by omega
      have hm := hi _ (getD_mem hi2 [])
      refine (To.step (f := fun k => (laws_szPlaneS.f k (l.getD i []) a).bind fun t => if t < 0 then some (-1) else laws_szPlaneSS.l0 k l t ((i + 1 : Nat) : Int)) (fun k => ?_)).trans ((To.bind (laws_szPlaneS_ev _ a hm.1 hm.2 h0 h1)).trans (To.congr fun k => ?_))
      · simp only [laws_szPlaneSS.l0, if_pos c1, if_pos c0, rdL3_nat, wrap_succ hi2 h']
      · rw [if_neg (by omega)]
    · have c1 : (i : Int) < (l.length : Int) := by omega
      have c0 : 0 ≤ (i : Int) := by omega
      have hm := hi _ (getD_mem hi2 [])
      refine Ev.step' (f := fun k => (laws_szPlaneS.f k (l.getD i []) a).bind fun t => if t < 0 then some (-1) else laws_szPlaneSS.l0 k l t ((i + 1 : Nat) : Int)) (fun k => ?_) (Ev.bind (laws_szPlaneS_ev _ a hm.1 hm.2 h0 h1) ?_)
      · simp only [laws_szPlaneSS.l0, if_pos c1, if_pos c0, rdL3_nat, wrap_succ hi2 h']
      · simp only [if_pos hn]; exact Ev.now _
  · have e : lft a l.length = -1 := by unfold lft; rw [if_neg c]
    rw [e]
    simp only [if_pos (show a - (l.length : Int) < 0 by omega), if_pos (show (-1 : Int) < 0 by omega)]
    exact Ev.now _

theorem laws_szNet_ev (d : Int) (l : List (List S37)) (a : Int) (h : l.length ≤ maxLen) (hi : ∀ x ∈ l, x.length ≤ maxLen ∧ ∀ y ∈ x, y.f0.length ≤ maxLen) (h0 : 0 ≤ a) (h1 : a ≤ 1048576) : Ev (fun k => laws_szNet.f k d l a) (lft a (szPP l)) := by
  refine Ev.bind (laws_szPlaneSS_ev l a h hi h0 h1) ?_
  by_cases c : lft a (szPP l) < 0
  · simp only [if_pos c, lft_neg c]; exact Ev.now _
  · simp only [if_neg c]; exact Ev.now _

theorem laws_toIntS_ev (l : List Int) (h : l.length ≤ 1048576) : Ev (fun k => laws_toIntS.f k l) l := by
  have hw : wrap64 (l.length : Int) = l.length := wrap_id (by omega) (by omega)
  have c0 : 0 ≤ (l.length : Int) := by omega
  have e : ∀ k, laws_toIntS.f k l = laws_toIntS.l0 k l (List.replicate l.length 0) 0 := fun k => by
    simp only [laws_toIntS.f, if_pos c0, Int.toNat_natCast]; rw [if_pos (by omega)]
  refine Ev.congr e ?_
  have hf := to_fold (L := fun i (s : List Int) k => laws_toIntS.l0 k l s i) (n := l.length) (f := fun i s => s.set i (l.getD i 0)) (fun i s => s = l.take i ++ List.replicate (l.length - i) 0) (fun i s hi hs => ⟨To.step fun k => ?_, ?_⟩) (List.replicate l.length 0) (by simp)
  · refine hf.1 _ (Ev.step' (f := fun _ => some l) (fun k => ?_) (Ev.now _))
    have := hf.2
    rw [Nat.sub_self, List.take_length, List.replicate_zero, List.append_nil] at this
    show laws_toIntS.l0 (k + 1) l _ _ = _
    rw [this]
    simp only [laws_toIntS.l0, if_neg (Int.lt_irrefl _)]
  · have c1 : (i : Int) < (l.length : Int) := by omega
    have c2 : (i : Int) < (s.length : Int) := by rw [hs, List.length_append, List.length_take, List.length_replicate]; omega
    have c3 : 0 ≤ (i : Int) := by omega
    simp only [laws_toIntS.l0, if_pos c1, if_pos c2, if_pos c3, rd_nat, Int.toNat_natCast, wrap_succ hi (by omega : l.length ≤ 9223372036854775807)]
  · show List.set s i _ = _
    rw [hs]; exact set_step l 0 0 i hi

theorem laws_toPlane_ev (l : List Int) (b : Int) (h : l.length ≤ 1048576) : Ev (fun k => laws_toPlane.f k l b) (l, b) := Ev.bind (laws_toIntS_ev l h) (Ev.now _)

def cvP (x : S37) : S42 := ⟨x.f0, x.f1⟩
theorem laws_toPlaneS_ev (l : List S37) (h : l.length ≤ 1048576) (hi : ∀ x ∈ l, x.f0.length ≤ 1048576) : Ev (fun k => laws_toPlaneS.f k l) (l.map cvP) := by
  have c0 : 0 ≤ (l.length : Int) := by omega
  have e : ∀ k, laws_toPlaneS.f k l = laws_toPlaneS.l0 k l (List.replicate l.length z42) 0 := fun k => by
    simp only [laws_toPlaneS.f, if_pos c0, Int.toNat_natCast]; rw [if_pos (by omega)]
  refine Ev.congr e ?_
  have hml : (l.map cvP).length = l.length := List.length_map _
  have hf := to_fold (L := fun i (s : List S42) k => laws_toPlaneS.l0 k l s i) (n := l.length) (f := fun i s => s.set i ((l.map cvP).getD i z42)) (fun i s => s = (l.map cvP).take i ++ List.replicate ((l.map cvP).length - i) z42) (fun i s hi2 hs => ⟨?_, ?_⟩) (List.replicate l.length z42) (by simp)
  · refine hf.1 _ (Ev.step' (f := fun _ => some (l.map cvP)) (fun k => ?_) (Ev.now _))
    have := hf.2
    rw [← hml, Nat.sub_self, List.take_length, List.replicate_zero, List.append_nil] at this
    show laws_toPlaneS.l0 (k + 1) l _ _ = _
    rw [← hml, this]
    simp only [laws_toPlaneS.l0, hml, if_neg (Int.lt_irrefl _)]
  · have c1 : (i : Int) < (l.length : Int) := by omega
    have c2 : (i : Int) < (s.length : Int) := by rw [hs, List.length_append, List.length_take, List.length_replicate]; omega
    have c3 : 0 ≤ (i : Int) := by omega
    have eg : (l.map cvP).getD i z42 = cvP (l.getD i z37) := by simp [List.getD_eq_getElem?_getD, hi2]
    refine (To.step (f := fun k => (laws_toPlane.f k (l.getD i z37).f0 (l.getD i z37).f1).bind fun b => laws_toPlaneS.l0 k l (s.set i ⟨b.1, b.2⟩) ((i + 1 : Nat) : Int)) (fun k => ?_)).trans ((To.bind (laws_toPlane_ev _ _ (hi _ (getD_mem hi2 z37)))).trans (To.congr fun k => ?_))
    · simp only [laws_toPlaneS.l0, if_pos c1, if_pos c2, if_pos c3, rdT37_nat, Int.toNat_natCast, wrap_succ hi2 (by omega : l.length ≤ 9223372036854775807)]
    · rw [eg]; rfl
  · show List.set s i _ = _
    rw [hs]; exact set_step (l.map cvP) z42 z42 i (by rw [hml]; exact hi2)

theorem laws_toPlaneSS_ev (l : List (List S37)) (h : l.length ≤ 1048576) (hi : ∀ x ∈ l, x.length ≤ 1048576 ∧ ∀ y ∈ x, y.f0.length ≤ 1048576) : Ev (fun k => laws_toPlaneSS.f k l) (l.map (List.map cvP)) := by
  have c0 : 0 ≤ (l.length : Int) := by omega
  have e : ∀ k, laws_toPlaneSS.f k l = laws_toPlaneSS.l0 k l (List.replicate l.length []) 0 := fun k => by
    simp only [laws_toPlaneSS.f, if_pos c0, Int.toNat_natCast]; rw [if_pos (by omega)]
  refine Ev.congr e ?_
  have hml : (l.map (List.map cvP)).length = l.length := List.length_map _
  have hf := to_fold (L := fun i (s : List (List S42)) k => laws_toPlaneSS.l0 k l s i) (n := l.length) (f := fun i s => s.set i ((l.map (List.map cvP)).getD i [])) (fun i s => s = (l.map (List.map cvP)).take i ++ List.replicate ((l.map (List.map cvP)).length - i) []) (fun i s hi2 hs => ⟨?_, ?_⟩) (List.replicate l.length []) (by simp)
  · refine hf.1 _ (Ev.step' (f := fun _ => some (l.map (List.map cvP))) (fun k => ?_) (Ev.now _))
    have := hf.2
    rw [← hml, Nat.sub_self, List.take_length, List.replicate_zero, List.append_nil] at this
    show laws_toPlaneSS.l0 (k + 1) l _ _ = _
    rw [← hml, this]
    simp only [laws_toPlaneSS.l0, hml, if_neg (Int.lt_irrefl _)]
  · have c1 : (i : Int) < (l.length : Int) := by omega
    have c2 : (i : Int) < (s.length : Int) := by rw [hs, List.length_append, List.length_take, List.length_replicate]; omega
    have c3 : 0 ≤ (i : Int) := by omega
    have hm := hi _ (getD_mem hi2 [])
    have eg : (l.map (List.map cvP)).getD i [] = List.map cvP (l.getD i []) := by simp [List.getD_eq_getElem?_getD, hi2]
    refine (To.step (f := fun k => (laws_toPlaneS.f k (l.getD i [])).bind fun b => laws_toPlaneSS.l0 k l (s.set i b) ((i + 1 : Nat) : Int)) (fun k => ?_)).trans ((To.bind (laws_toPlaneS_ev _ hm.1 hm.2)).trans (To.congr fun k => ?_))
    · simp only [laws_toPlaneSS.l0, if_pos c1, if_pos c2, if_pos c3, rdL3_nat, Int.toNat_natCast, wrap_succ hi2 (by omega : l.length ≤ 9223372036854775807)]
    · rw [eg]
  · show List.set s i _ = _
    rw [hs]; exact set_step (l.map (List.map cvP)) [] [] i (by rw [hml]; exact hi2)

theorem laws_toNet_ev (d : Int) (l : List (List S37)) (h : l.length ≤ 1048576) (hi : ∀ x ∈ l, x.length ≤ 1048576 ∧ ∀ y ∈ x, y.f0.length ≤ 1048576) : Ev (fun k => laws_toNet.f k d l) (d, l.map (List.map cvP)) := Ev.bind (laws_toPlaneSS_ev l h hi) (Ev.now _)

theorem laws_eqPlane_ev (l : List Int) (b : Int) (h : l.length ≤ maxLen) : Ev (fun k => laws_eqPlane.f k l b l b) true := Ev.bind (laws_eqIntS_ev l h) (Ev.congr (f := fun _ => some true) (fun k => by simp only [if_true]) (Ev.now _))

theorem laws_eqPlaneS_ev (l : List S42) (h : l.length ≤ maxLen) (hi : ∀ x ∈ l, x.f0.length ≤ maxLen) : Ev (fun k => laws_eqPlaneS.f k l l) true := by
  have h' : l.length ≤ 9223372036854775807 := h
  refine Ev.congr (f := fun k => laws_eqPlaneS.l0 k l l 0) (fun k => by simp only [laws_eqPlaneS.f, if_true]) ?_
  refine ev_yes (L := fun i k => laws_eqPlaneS.l0 k l l i) (n := l.length) (fun i hi2 => ?_) (Ev.step' (f := fun _ => some true) (fun k => ?_) (Ev.now _))
  · have c1 : (i : Int) < (l.length : Int) := by omega
    have c0 : 0 ≤ (i : Int) := by omega
    refine (To.step (f := fun k => (laws_eqPlane.f k (l.getD i z42).f0 (l.getD i z42).f1 (l.getD i z42).f0 (l.getD i z42).f1).bind fun t => if t = true then laws_eqPlaneS.l0 k l l ((i + 1 : Nat) : Int) else some false) (fun k => ?_)).trans ((To.bind (laws_eqPlane_ev _ _ (hi _ (getD_mem hi2 z42)))).trans (To.congr fun k => by simp only [if_true]))
    simp only [laws_eqPlaneS.l0, if_pos c1, if_pos c0, rdT42_nat, wrap_succ hi2 h']
  · simp only [laws_eqPlaneS.l0, if_neg (Int.lt_irrefl _)]

theorem laws_eqPlaneSS_ev (l : List (List S42)) (h : l.length ≤ maxLen) (hi : ∀ x ∈ l, x.length ≤ maxLen ∧ ∀ y ∈ x, y.f0.length ≤ maxLen) : Ev (fun k => laws_eqPlaneSS.f k l l) true := by
  have h' : l.length ≤ 9223372036854775807 := h
  refine Ev.congr (f := fun k => laws_eqPlaneSS.l0 k l l 0) (fun k => by simp only [laws_eqPlaneSS.f, if_true]) ?_
  refine ev_yes (L := fun i k => laws_eqPlaneSS.l0 k l l i) (n := l.length) (fun i hi2 => ?_) (Ev.step' (f := fun _ => some true) (fun k => ?_) (Ev.now _))
  · have c1 : (i : Int) < (l.length : Int) := by omega
    have c0 : 0 ≤ (i : Int) := by omega
    have hm := hi _ (getD_mem hi2 [])
    refine (To.step (f := fun k => (laws_eqPlaneS.f k (l.getD i []) (l.getD i [])).bind fun t => if t = true then laws_eqPlaneSS.l0 k l l ((i + 1 : Nat) : Int) else some false) (fun k => ?_)).trans ((To.bind (laws_eqPlaneS_ev _ hm.1 hm.2)).trans (To.congr fun k => by simp only [if_true]))
    simp only [laws_eqPlaneSS.l0, if_pos c1, if_pos c0, rdL5_nat, wrap_succ hi2 h']
  · simp only [laws_eqPlaneSS.l0, if_neg (Int.lt_irrefl _)]

theorem laws_eqNet_ev (d : Int) (l : List (List S42)) (h : l.length ≤ maxLen) (hi : ∀ x ∈ l, x.length ≤ maxLen ∧ ∀ y ∈ x, y.f0.length ≤ maxLen) : Ev (fun k => laws_eqNet.f k d l d l) true := by
  refine Ev.congr (f := fun k => (laws_eqPlaneSS.f k l l).bind fun t => if t = true then some true else some false) (fun k => by simp only [laws_eqNet.f, if_true]) ?_
  exact Ev.bind (laws_eqPlaneSS_ev l h hi) (Ev.congr (f := fun _ => some true) (fun k => by simp only [if_true]) (Ev.now _))

theorem spec_l1In_eq (x a b : Int) : spec_l1In.f x a b = some (inR a b x) := in_tells a b x

theorem spec_l2Numbers_ev (l : List Int) (m : Int) (h : l.length ≤ maxLen) : Ev (fun k => spec_l2Numbers.f k l m) (l.all (inR (wrap64 (-m)) m)) := by
  unfold maxLen at h
  rw [← range_all l (inR (wrap64 (-m)) m) 0]
  refine ev_all (L := fun i k => spec_l2Numbers.l0 k l m i) (fun i hi hp => To.step fun k => ?_) (fun i hi hp => Ev.step' (f := fun _ => some false) (fun k => ?_) (Ev.now _)) (Ev.step' (f := fun _ => some true) (fun k => ?_) (Ev.now _))
  · have c1 : (i : Int) < (l.length : Int) := by omega
    have c0 : 0 ≤ (i : Int) := by omega
    simp only [spec_l2Numbers.l0, if_pos c1, if_pos c0, spec_l1In_eq, rd_nat, hp, Option.bind_some, if_true, wrap_succ hi h]
  · have c1 : (i : Int) < (l.length : Int) := by omega
    have c0 : 0 ≤ (i : Int) := by omega
    simp only [spec_l2Numbers.l0, if_pos c1, if_pos c0, spec_l1In_eq, rd_nat, hp, Option.bind_some, Bool.false_eq_true, if_false]
  · simp only [spec_l2Numbers.l0, if_neg (Int.lt_irrefl _)]

theorem spec_l2Plane_ev (l : List Int) (b : Int) (h : l.length ≤ maxLen) : Ev (fun k => spec_l2Plane.f k l b) (planeB l b) := by
  have e : ∀ k, spec_l2Plane.f k l b = if inR 1 4 l.length = true then (spec_l2Numbers.f k l 99).bind (fun t => if t = true then some (inR (-99) 99 b) else some false) else some false := fun k => by
    simp only [spec_l2Plane.f, spec_l1In_eq, Option.bind_some]
  refine Ev.congr e ?_
  unfold planeB
  cases inR 1 4 l.length with
  | false => exact Ev.now _
  | true =>
    simp only [if_true, Bool.true_and]
    refine Ev.bind (spec_l2Numbers_ev l 99 h) ?_
    rw [show wrap64 (-99) = -99 from wrap_id (by omega) (by omega)]
    cases l.all (inR (-99) 99) with
    | false => exact Ev.now _
    | true => exact Ev.now _

def layB : Int → List (List S42) → Bool
  | _, [] => true
  | d, y :: ys => y.all (fun x => planeB x.f0 x.f1 && ((x.f0.length : Int) == d)) && (inR 1 4 y.length && layB y.length ys)
def netB (d : Int) (N : List (List S42)) : Bool := inR 1 4 d && (inR 1 6 N.length && layB d N)
theorem spec_l9Good_row (N : List (List S42)) (D d : Int) (i : Nat) (y : List S42) (R : Bool) (hi : i < N.length) (h : N.length ≤ maxLen) (hy : N.getD i [] = y) (hl : y.length ≤ maxLen ∧ ∀ z ∈ y, z.f0.length ≤ maxLen) (hr : Ev (fun k => spec_l9Good.l0 k (y.length : Int) ((i + 1 : Nat) : Int) D N) R) :
    Ev (fun k => spec_l9Good.l1 k d i 0 D N) (y.all (fun x => planeB x.f0 x.f1 && ((x.f0.length : Int) == d)) && (inR 1 4 y.length && R)) := by
  have h' : N.length ≤ 9223372036854775807 := h
  have h2' : y.length ≤ 9223372036854775807 := hl.1
  have c1 : (i : Int) < (N.length : Int) := by omega
  have c0 : 0 ≤ (i : Int) := by omega
  refine ev_list z42 y (fun j (_ : Unit) k => spec_l9Good.l1 k d i j D N) (fun _ ys _ => ys.all (fun x => planeB x.f0 x.f1 && ((x.f0.length : Int) == d)) && (inR 1 4 y.length && R)) (fun _ _ => True) (fun _ _ => ?_) (fun j x ys _ hj hx hm _ ih => ?_) () trivial
  · rw [List.all_nil, Bool.true_and]
    refine Ev.step' (f := fun k => if inR 1 4 y.length = true then spec_l9Good.l0 k (y.length : Int) ((i + 1 : Nat) : Int) D N else some false) (fun k => by
      simp only [spec_l9Good.l1, if_pos c0, if_pos c1, rdL5_nat, hy, if_neg (Int.lt_irrefl _), spec_l1In_eq, Option.bind_some, wrap_succ hi h']) ?_
    cases inR 1 4 y.length with
    | false => simp only [Bool.false_eq_true, if_false, Bool.false_and]; exact Ev.now _
    | true => simp only [if_true, Bool.true_and]; exact hr
  · have d1 : (j : Int) < (y.length : Int) := by omega
    have d0 : 0 ≤ (j : Int) := by omega
    rw [List.all_cons, Bool.and_assoc, Bool.and_assoc]
    refine Ev.step' (f := fun k => (spec_l2Plane.f k x.f0 x.f1).bind fun t => if t = true then (if (x.f0.length : Int) = d then spec_l9Good.l1 k d i ((j + 1 : Nat) : Int) D N else some false) else some false) (fun k => by
      simp only [spec_l9Good.l1, if_pos c0, if_pos c1, rdL5_nat, hy, if_pos d1, if_pos d0, rdT42_nat, hx, wrap_succ hj h2']) (Ev.bind (spec_l2Plane_ev x.f0 x.f1 (hl.2 x hm)) ?_)
    cases planeB x.f0 x.f1 with
    | false => simp only [Bool.false_eq_true, if_false, Bool.false_and]; exact Ev.now _
    | true =>
      simp only [if_true, Bool.true_and]
      by_cases c : (x.f0.length : Int) = d
      · simp only [if_pos c, beq_iff_eq.2 c, Bool.true_and]; exact ih () trivial
      · simp only [if_neg c, beq_eq_false_iff_ne.2 c, Bool.false_and]; exact Ev.now _
theorem spec_l9Good_ev (d : Int) (N : List (List S42)) (h : N.length ≤ maxLen) (hi : ∀ x ∈ N, x.length ≤ maxLen ∧ ∀ y ∈ x, y.f0.length ≤ maxLen) : Ev (fun k => spec_l9Good.f k d N) (netB d N) := by
  have no : Ev (fun k => spec_l9Good.j0 k true d N) false := Ev.step' (f := fun _ => some false) (fun k => by simp only [spec_l9Good.j0, if_true]) (Ev.now _)
  unfold netB
  refine Ev.congr (f := fun k => if inR 1 4 d = true then spec_l9Good.j0 k (!(inR 1 6 N.length)) d N else spec_l9Good.j0 k true d N) (fun k => by simp only [spec_l9Good.f, spec_l1In_eq, Option.bind_some]) ?_
  cases inR 1 4 d with
  | false => simp only [Bool.false_eq_true, if_false, Bool.false_and]; exact no
  | true =>
    simp only [if_true, Bool.true_and]
    cases inR 1 6 N.length with
    | false => simpa using no
    | true =>
      refine Ev.step' (f := fun k => spec_l9Good.l0 k d 0 d N) (fun k => by simp [spec_l9Good.j0]) ?_
      rw [Bool.true_and]
      refine ev_list [] N (fun i (e : Int) k => spec_l9Good.l0 k e i d N) (fun _ ys e => layB e ys) (fun _ _ => True) (fun e _ => ?_) (fun i y ys e hi2 hy hm _ ih => ?_) d trivial
      · exact Ev.step' (f := fun _ => some true) (fun k => by simp only [spec_l9Good.l0, if_neg (Int.lt_irrefl _)]) (Ev.now _)
      · have c1 : (i : Int) < (N.length : Int) := by omega
        exact Ev.step' (fun k => by simp only [spec_l9Good.l0, if_pos c1]) (spec_l9Good_row N d e i y _ hi2 h hy (hi y hm) (ih _ trivial))

theorem spec_l1Own_eq (l : List Int) (h : l.length ≤ 1000) : spec_l1Own.f l = some l := by
  have c : ([] : List Int).length + l.length < 17592186044416 := by rw [List.length_nil]; omega
  simp only [spec_l1Own.f, Option.bind_some, if_pos c, List.nil_append]

theorem spec_l2Dot_ev (a b : List Int) (h : a.length ≤ maxLen) (hb : a.length ≤ b.length) : Ev (fun k => spec_l2Dot.f k a b) (dotW a b) := by
  unfold maxLen at h
  have hf := to_fold (L := fun i (s : Int) k => spec_l2Dot.l0 k a b s i) (n := a.length) (f := fun i s => wrap64 (s + wrap64 (a.getD i 0 * b.getD i 0))) (fun _ _ => True) (fun i s hi _ => ⟨To.step fun k => ?_, trivial⟩) 0 trivial
  · refine hf.1 _ (Ev.step' (f := fun _ => some _) (fun k => ?_) (Ev.now _))
    simp only [spec_l2Dot.l0, if_neg (Int.lt_irrefl _)]; rfl
  · have c1 : (i : Int) < (a.length : Int) := by omega
    have c2 : (i : Int) < (b.length : Int) := by omega
    have c3 : 0 ≤ (i : Int) := by omega
    simp only [spec_l2Dot.l0, if_pos c1, if_pos c2, if_pos c3, rd_nat, wrap_succ hi h]

theorem spec_l2Side_ev (w : List Int) (b : Int) (x : List Int) (hw : w.length ≤ maxLen) (hx : w.length ≤ x.length) : Ev (fun k => spec_l2Side.f k w b x) (sideW w b x) := by
  refine Ev.bind (spec_l2Dot_ev w x hw hx) ?_
  unfold sideW
  by_cases c : dotW w x ≥ b
  · simp only [if_pos c]; exact Ev.now _
  · simp only [if_neg c]; exact Ev.now _

def bitS (s : Int) : Int := if s = 1 then 1 else 0
def giveM (y : List S42) (x : List Int) : List Int := y.map fun p => bitS (sideW p.f0 p.f1 x)
def runM : List (List S42) → List Int → List Int
  | [], x => x
  | y :: ys, x => runM ys (giveM y x)
theorem giveM_len (y : List S42) (x : List Int) : (giveM y x).length = y.length := List.length_map _
/-- The layers go one into the other. -/
def okL : Nat → List (List S42) → Prop
  | _, [] => True
  | n, y :: ys => (y.length ≤ 4 ∧ ∀ p ∈ y, p.f0.length = n) ∧ okL y.length ys
theorem layB_ok : ∀ (N : List (List S42)) (n : Nat), layB n N = true → okL n N
  | [], _, _ => trivial
  | y :: ys, n, h => by
    simp only [layB, Bool.and_eq_true, List.all_eq_true, beq_iff_eq] at h
    have hl := (inR_iff _ _ _).1 h.2.1
    exact ⟨⟨by omega, fun p hp => by have := (h.1 p hp).2; omega⟩, layB_ok ys y.length h.2.2⟩
theorem netB_ok {d : Int} {N : List (List S42)} (h : netB d N = true) : (1 ≤ d ∧ d ≤ 4) ∧ (1 ≤ N.length ∧ N.length ≤ 6) ∧ okL d.toNat N := by
  unfold netB at h
  simp only [Bool.and_eq_true] at h
  have h1 := (inR_iff _ _ _).1 h.1
  have h2 := (inR_iff _ _ _).1 h.2.1
  refine ⟨h1, by omega, layB_ok N d.toNat ?_⟩
  rw [Int.toNat_of_nonneg (by omega)]
  exact h.2.2
theorem spec_l9Give_ev (y : List S42) (x : List Int) (hy : y.length ≤ 1000) (hx : x.length ≤ 1000) (hl : ∀ p ∈ y, p.f0.length = x.length) : Ev (fun k => spec_l9Give.f k y x) (giveM y x) := by
  refine ev_list z42 y (fun i (s : List Int) k => spec_l9Give.l0 k y x s i) (fun _ ys s => s ++ giveM ys x) (fun i s => s.length = i) (fun s _ => ?_) (fun i p ys s hi hp hm hs ih => ?_) [] rfl
  · exact Ev.step' (f := fun _ => some s) (fun k => by simp only [spec_l9Give.l0, if_neg (Int.lt_irrefl _)]) (by simpa [giveM] using Ev.now _)
  · have c1 : (i : Int) < (y.length : Int) := by omega
    have c0 : 0 ≤ (i : Int) := by omega
    have c2 : s.length < 17592186044416 := by omega
    have hlp := hl p hm
    refine ev_eq (Ev.step' (f := fun k => (spec_l2Side.f k p.f0 p.f1 x).bind fun t => if t = 1 then spec_l9Give.l0 k y x (s ++ [1]) ((i + 1 : Nat) : Int) else spec_l9Give.l0 k y x (s ++ [0]) ((i + 1 : Nat) : Int)) (fun k => by simp only [spec_l9Give.l0, if_pos c1, if_pos c0, if_pos c2, rdT42_nat, hp, wrap_succ hi (by omega : y.length ≤ 9223372036854775807)]) (Ev.bind (r := s ++ [bitS (sideW p.f0 p.f1 x)] ++ giveM ys x) (spec_l2Side_ev _ _ x (by unfold maxLen; omega) (by omega)) ?_)) (by simp [giveM])
    unfold bitS
    by_cases c : sideW p.f0 p.f1 x = 1
    · simp only [if_pos c]; exact ih (s ++ [1]) (by simp [hs])
    · simp only [if_neg c]; exact ih (s ++ [0]) (by simp [hs])

theorem drop_at {α : Type} {N : List α} {i : Nat} {y d : α} (hi : i < N.length) (hy : N.getD i d = y) : N.drop i = y :: N.drop (i + 1) := by
  rw [List.drop_eq_getElem_cons hi]
  rw [List.getD_eq_getElem?_getD, List.getElem?_eq_getElem hi] at hy
  simp at hy
  rw [hy]
theorem spec_l9Run_ev (d : Int) (N : List (List S42)) (x : List Int) (hN : N.length ≤ 1000) (hx : x.length ≤ 1000) (hok : okL x.length N) : Ev (fun k => spec_l9Run.f k d N x) (runM N x) := by
  refine Ev.congr (f := fun k => spec_l9Run.l0 k x 0 d N) (fun k => by simp only [spec_l9Run.f, spec_l1Own_eq x hx, Option.bind_some]) ?_
  refine ev_list [] N (fun i (s : List Int) k => spec_l9Run.l0 k s i d N) (fun _ ys s => runM ys s) (fun i s => s.length ≤ 1000 ∧ okL s.length (N.drop i)) (fun s _ => ?_) (fun i y ys s hi hy hm hs ih => ?_) x ⟨hx, hok⟩
  · exact Ev.step' (f := fun _ => some s) (fun k => by simp only [spec_l9Run.l0, if_neg (Int.lt_irrefl _)]) (Ev.now _)
  · have c1 : (i : Int) < (N.length : Int) := by omega
    have c0 : 0 ≤ (i : Int) := by omega
    obtain ⟨h1, h2⟩ := hs
    rw [drop_at hi hy] at h2
    obtain ⟨⟨h3, h4⟩, h5⟩ := h2
    refine Ev.step' (f := fun k => (spec_l9Give.f k y s).bind fun t => spec_l9Run.l0 k t ((i + 1 : Nat) : Int) d N) (fun k => by simp only [spec_l9Run.l0, if_pos c1, if_pos c0, rdL5_nat, hy, wrap_succ hi (by omega : N.length ≤ 9223372036854775807)]) (Ev.bind (spec_l9Give_ev y s (by omega) h1 h4) ?_)
    exact ih (giveM y s) ⟨by rw [giveM_len]; omega, by rw [giveM_len]; exact h5⟩

def bitPt (d : Nat) (k : Int) : List Int := (List.range d).map fun (i : Nat) => Go.bits .and .i64 (shr .i64 k (i : Int)) 1
theorem bitPt_len (d : Nat) (k : Int) : (bitPt d k).length = d := by simp [bitPt]
theorem spec_l2BitPoint_ev (d : Nat) (k : Int) (hd : d ≤ 1000) : Ev (fun r => spec_l2BitPoint.f r (d : Int) k) (bitPt d k) := by
  have hf := to_fold (L := fun j (t : List Int) r => spec_l2BitPoint.l0 r (d : Int) k t j) (n := d) (f := fun j t => t ++ [Go.bits .and .i64 (shr .i64 k (j : Int)) 1]) (fun j t => t.length = j) (fun j t hj ht => ⟨To.step fun r => ?_, by simp [ht]⟩) [] rfl
  · refine hf.1 _ (Ev.step' (f := fun _ => some (bitPt d k)) (fun r => ?_) (Ev.now _))
    rw [fold_append, List.nil_append]
    simp only [spec_l2BitPoint.l0, if_neg (Int.lt_irrefl _)]
    rfl
  · have c1 : (j : Int) < (d : Int) := by omega
    have c0 : 0 ≤ (j : Int) := by omega
    have c2 : t.length < 17592186044416 := by omega
    simp only [spec_l2BitPoint.l0, if_pos c1, if_pos c0, if_pos c2, wrap_succ hj (by omega : d ≤ 9223372036854775807)]

def lastL (N : List (List S42)) : List S42 := N.getD (N.length - 1) []
def addAt (g : List Int) (i : Nat) (s : List (List Int)) : List (List Int) := s.set i (s.getD i [] ++ [g.getD i 0])
def rowT (n : Nat) (g : List Int) (s : List (List Int)) : List (List Int) := (List.range n).foldl (fun s i => addAt g i s) s
def tabsM (d : Nat) (N : List (List S42)) : List (List Int) := (List.range (2 ^ d)).foldl (fun s (c : Nat) => rowT (lastL N).length (runM N (bitPt d (c : Int))) s) (List.replicate (lastL N).length [])
/-- n rows; those before i have one more value. -/
def RowOk (n c i : Nat) (s : List (List Int)) : Prop := s.length = n ∧ ∀ j, j < n → (s.getD j []).length = if j < i then c + 1 else c
theorem rowOk_step {n c i : Nat} {s : List (List Int)} (g : List Int) (hi : i < n) (h : RowOk n c i s) : RowOk n c (i + 1) (addAt g i s) := by
  obtain ⟨h1, h2⟩ := h
  refine ⟨by unfold addAt; rw [List.length_set]; exact h1, fun j hj => ?_⟩
  unfold addAt
  by_cases e : j = i
  · subst e
    have := h2 j hj
    rw [if_neg (Nat.lt_irrefl _)] at this
    rw [if_pos (by omega), List.getD_eq_getElem?_getD, List.getElem?_set_self (by omega), Option.getD_some, List.length_append, this]
    rfl
  · have := h2 j hj
    rw [List.getD_eq_getElem?_getD, List.getElem?_set_ne (Ne.symm e), ← List.getD_eq_getElem?_getD, this]
    by_cases c1 : j < i
    · rw [if_pos c1, if_pos (by omega)]
    · rw [if_neg c1, if_neg (by omega)]
theorem rowOk_next {n c : Nat} {s : List (List Int)} (h : RowOk n c n s) : RowOk n (c + 1) 0 s := ⟨h.1, fun j hj => by rw [h.2 j hj, if_pos hj, if_neg (by omega)]⟩
theorem runM_len : ∀ (N : List (List S42)) (x : List Int), 1 ≤ N.length → (runM N x).length = (lastL N).length
  | [y], x, _ => by simp [runM, lastL, giveM_len]
  | y :: z :: ys, x, _ => by
    have := runM_len (z :: ys) (giveM y x) (by simp)
    show (runM (z :: ys) (giveM y x)).length = _
    rw [this]
    simp [lastL]
theorem shl_pow {d : Nat} (h : d ≤ 4) : shl .i64 1 (d : Int) = ((2 ^ d : Nat) : Int) := by
  have : d = 0 ∨ d = 1 ∨ d = 2 ∨ d = 3 ∨ d = 4 := by omega
  rcases this with rfl | rfl | rfl | rfl | rfl <;> decide +kernel
theorem pow_small {d : Nat} (h : d ≤ 4) : 2 ^ d ≤ 16 := Nat.pow_le_pow_right (n := 2) (by omega) h
theorem okL_last : ∀ (N : List (List S42)) (n : Nat), 1 ≤ N.length → okL n N → (lastL N).length ≤ 4
  | [y], n, _, h => by have := h.1.1; simpa [lastL] using this
  | y :: z :: ys, n, _, h => by
    have := okL_last (z :: ys) y.length (by simp) h.2
    simpa [lastL] using this
theorem spec_l9Tables_row (d : Int) (N : List (List S42)) (n c : Nat) (g : List Int) (s : List (List Int)) (hg : g.length = n) (hn : n ≤ 1000) (hc : c ≤ 1000) (hs : RowOk n c 0 s) :
    To (fun k => spec_l9Tables.l1 k s (c : Int) g 0 d N) (fun k => spec_l9Tables.l0 k (rowT n g s) ((c + 1 : Nat) : Int) d N) ∧ RowOk n (c + 1) 0 (rowT n g s) := by
  have hf := to_fold (L := fun j (t : List (List Int)) k => spec_l9Tables.l1 k t (c : Int) g j d N) (n := n) (f := fun j t => addAt g j t) (fun j t => RowOk n c j t) (fun j t hj ht => ⟨To.step fun k => ?_, rowOk_step g hj ht⟩) s hs
  · refine ⟨hf.1.trans (To.step fun k => ?_), rowOk_next hf.2⟩
    have e : ((rowT n g s).length : Int) = (n : Int) := by have := hf.2.1; exact congrArg _ this
    show spec_l9Tables.l1 (k + 1) (rowT n g s) _ _ _ _ _ = _
    simp only [spec_l9Tables.l1, e, if_neg (Int.lt_irrefl _), wrap_succ (i := c) (n := 1001) (by omega) (by omega)]
  · have h1 : t.length = n := ht.1
    have h2 := ht.2 j hj
    rw [if_neg (Nat.lt_irrefl _)] at h2
    have c1 : (j : Int) < (t.length : Int) := by omega
    have c0 : 0 ≤ (j : Int) := by omega
    have c2 : (j : Int) < (g.length : Int) := by omega
    have c3 : (t.getD j []).length < 17592186044416 := by omega
    simp only [spec_l9Tables.l1, if_pos c1, if_pos c0, if_pos c2, rdL1_nat, if_pos c3, rd_nat, Int.toNat_natCast, wrap_succ (i := j) (n := n) hj (by omega)]
    rfl
theorem spec_l9Tables_ev (d : Int) (N : List (List S42)) (h : netB d N = true) : Ev (fun k => spec_l9Tables.f k d N) (tabsM d.toNat N) := by
  obtain ⟨h1, h2, h3⟩ := netB_ok h
  have hl := okL_last N d.toNat (by omega) h3
  have e : wrap64 ((N.length : Int) - 1) = ((N.length - 1 : Nat) : Int) := by rw [wrap_id (by omega) (by omega)]; omega
  have c0 : 0 ≤ ((N.length - 1 : Nat) : Int) := by omega
  have c1 : ((N.length - 1 : Nat) : Int) < (N.length : Int) := by omega
  have el : N.getD (N.length - 1) [] = lastL N := rfl
  have c2 : 0 ≤ ((lastL N).length : Int) := by omega
  have c3 : (lastL N).length ≤ 11728124029610 := by omega
  obtain ⟨m, rfl⟩ : ∃ m : Nat, d = (m : Int) := ⟨d.toNat, by omega⟩
  rw [Int.toNat_natCast] at h3 ⊢
  have cd : 0 ≤ (m : Int) := by omega
  have hp := pow_small (d := m) (by omega)
  refine Ev.congr (f := fun k => spec_l9Tables.l0 k (List.replicate (lastL N).length []) 0 (m : Int) N) (fun k => by simp only [spec_l9Tables.f, e, if_pos c0, if_pos c1, rdL5_nat, el, if_pos c2, Int.toNat_natCast, if_pos c3]) ?_
  have hf := to_fold (L := fun c (s : List (List Int)) k => spec_l9Tables.l0 k s c (m : Int) N) (n := 2 ^ m) (f := fun (c : Nat) s => rowT (lastL N).length (runM N (bitPt m (c : Int))) s) (fun c s => RowOk (lastL N).length c 0 s) (fun c s hc hs => ?_) (List.replicate (lastL N).length []) ⟨by simp, fun j hj => by simp [List.getElem?_replicate, hj]⟩
  · refine hf.1 _ (Ev.step' (f := fun _ => some (tabsM m N)) (fun k => ?_) (Ev.now _))
    simp only [spec_l9Tables.l0, if_pos cd, shl_pow (d := m) (by omega), if_neg (Int.lt_irrefl _)]
    rfl
  · have hbl := bitPt_len m (c : Int)
    have hr := spec_l9Tables_row (m : Int) N (lastL N).length c (runM N (bitPt m (c : Int))) s (runM_len N _ (by omega)) (by omega) (by omega) hs
    have cc : (c : Int) < ((2 ^ m : Nat) : Int) := by omega
    refine ⟨(To.step (f := fun k => (spec_l2BitPoint.f k (m : Int) (c : Int)).bind fun t => (spec_l9Run.f k (m : Int) N t).bind fun u => spec_l9Tables.l1 k s (c : Int) u 0 (m : Int) N) (fun k => ?_)).trans ((To.bind (spec_l2BitPoint_ev m (c : Int) (by omega))).trans ((To.bind (spec_l9Run_ev (m : Int) N _ (by omega) (by omega) (by rw [hbl]; exact h3))).trans hr.1)), hr.2⟩
    simp only [spec_l9Tables.l0, if_pos cd, shl_pow (d := m) (by omega), if_pos cc]
theorem tabsM_small (d : Int) (N : List (List S42)) (h : netB d N = true) : RowOk (lastL N).length (2 ^ d.toNat) 0 (tabsM d.toNat N) := by
  have hf := to_fold (α := Nat) (L := fun _ (s : List (List Int)) _ => none) (n := 2 ^ d.toNat) (f := fun (c : Nat) s => rowT (lastL N).length (runM N (bitPt d.toNat (c : Int))) s) (fun c s => RowOk (lastL N).length c 0 s) (fun c s hc hs => ⟨To.refl _, ?_⟩) (List.replicate (lastL N).length []) ⟨by simp, fun j hj => by simp [List.getElem?_replicate, hj]⟩
  · exact hf.2
  · have hg := to_fold (α := Nat) (L := fun _ (s : List (List Int)) _ => none) (n := (lastL N).length) (f := fun j t => addAt (runM N (bitPt d.toNat (c : Int))) j t) (fun j t => RowOk (lastL N).length c j t) (fun j t hj ht => ⟨To.refl _, rowOk_step _ hj ht⟩) s hs
    exact rowOk_next hg.2

def netTablesM (d : Int) (N : List (List S42)) : List (List Int) × Bool := if netB d N = true then (tabsM d.toNat N, true) else ([], false)
theorem spec_NetTables_ev (d : Int) (N : List (List S42)) (h : N.length ≤ maxLen) (hi : ∀ x ∈ N, x.length ≤ maxLen ∧ ∀ y ∈ x, y.f0.length ≤ maxLen) : Ev (fun k => spec_NetTables.f k d N) (netTablesM d N) := by
  refine Ev.bind (spec_l9Good_ev d N h hi) ?_
  unfold netTablesM
  cases hn : netB d N with
  | false => simp only [Bool.false_eq_true, if_false]; exact Ev.now _
  | true =>
    simp only [if_true]
    exact Ev.bind (spec_l9Tables_ev d N hn) (Ev.now _)

theorem impl_within_eq (x a b : Int) : impl_within.f x a b = some (inR a b x) := in_tells a b x

theorem impl_allWithin_ev (l : List Int) (a b : Int) (h : l.length ≤ maxLen) : Ev (fun k => impl_allWithin.f k l a b) (l.all (inR a b)) := by
  unfold maxLen at h
  rw [← range_all l (inR a b) 0]
  refine ev_all (L := fun i k => impl_allWithin.l0 k a b l (l.length : Int) i) (fun i hi hp => To.step fun k => ?_) (fun i hi hp => Ev.step' (f := fun _ => some false) (fun k => ?_) (Ev.now _)) (Ev.step' (f := fun _ => some true) (fun k => ?_) (Ev.now _))
  · have c1 : (i : Int) < (l.length : Int) := by omega
    have c0 : 0 ≤ (i : Int) := by omega
    simp only [impl_allWithin.l0, if_pos c1, if_pos c0, impl_within_eq, rd_nat, hp, Option.bind_some, if_true, wrap_succ hi h]
  · have c1 : (i : Int) < (l.length : Int) := by omega
    have c0 : 0 ≤ (i : Int) := by omega
    simp only [impl_allWithin.l0, if_pos c1, if_pos c0, impl_within_eq, rd_nat, hp, Option.bind_some, Bool.false_eq_true, if_false]
  · simp only [impl_allWithin.l0, if_neg (Int.lt_irrefl _)]

theorem impl_IsPlane_ev (l : List Int) (b : Int) (h : l.length ≤ maxLen) : Ev (fun k => impl_IsPlane.f k l b) (planeB l b) := by
  have e : ∀ k, impl_IsPlane.f k l b = if inR 1 4 l.length = true then (impl_allWithin.f k l (-99) 99).bind (fun t => if t = true then some (inR (-99) 99 b) else some false) else some false := fun k => by
    simp only [impl_IsPlane.f, impl_within_eq, Option.bind_some]
  refine Ev.congr e ?_
  unfold planeB
  cases inR 1 4 l.length with
  | false => exact Ev.now _
  | true =>
    simp only [if_true, Bool.true_and]
    refine Ev.bind (impl_allWithin_ev l (-99) 99 h) ?_
    cases l.all (inR (-99) 99) with
    | false => exact Ev.now _
    | true => exact Ev.now _

theorem impl_IsNet_row (N : List (List S42)) (d : Int) (i : Nat) (y : List S42) (R : Bool) (hi : i < N.length) (h : N.length ≤ maxLen) (hl : y.length ≤ maxLen ∧ ∀ z ∈ y, z.f0.length ≤ maxLen) (hr : Ev (fun k => impl_IsNet.l0 k (y.length : Int) N (N.length : Int) ((i + 1 : Nat) : Int)) R) :
    Ev (fun k => impl_IsNet.l1 k d y N (N.length : Int) i y (y.length : Int) 0) (y.all (fun x => planeB x.f0 x.f1 && ((x.f0.length : Int) == d)) && R) := by
  have h' : N.length ≤ 9223372036854775807 := h
  have h2' : y.length ≤ 9223372036854775807 := hl.1
  refine ev_list z42 y (fun j (_ : Unit) k => impl_IsNet.l1 k d y N (N.length : Int) i y (y.length : Int) j) (fun _ ys _ => ys.all (fun x => planeB x.f0 x.f1 && ((x.f0.length : Int) == d)) && R) (fun _ _ => True) (fun _ _ => ?_) (fun j x ys _ hj hx hm _ ih => ?_) () trivial
  · rw [List.all_nil, Bool.true_and]
    exact Ev.step' (fun k => by simp only [impl_IsNet.l1, if_neg (Int.lt_irrefl _), wrap_succ hi h']) hr
  · have d1 : (j : Int) < (y.length : Int) := by omega
    have d0 : 0 ≤ (j : Int) := by omega
    rw [List.all_cons, Bool.and_assoc, Bool.and_assoc]
    refine Ev.step' (f := fun k => (impl_IsPlane.f k x.f0 x.f1).bind fun t => if t = true then (if (x.f0.length : Int) = d then impl_IsNet.l1 k d y N (N.length : Int) i y (y.length : Int) ((j + 1 : Nat) : Int) else some false) else some false) (fun k => by
      simp only [impl_IsNet.l1, if_pos d1, if_pos d0, rdT42_nat, hx, wrap_succ hj h2']) (Ev.bind (impl_IsPlane_ev x.f0 x.f1 (hl.2 x hm)) ?_)
    cases planeB x.f0 x.f1 with
    | false => simp only [Bool.false_eq_true, if_false, Bool.false_and]; exact Ev.now _
    | true =>
      simp only [if_true, Bool.true_and]
      by_cases c : (x.f0.length : Int) = d
      · simp only [if_pos c, beq_iff_eq.2 c, Bool.true_and]; exact ih () trivial
      · simp only [if_neg c, beq_eq_false_iff_ne.2 c, Bool.false_and]; exact Ev.now _
theorem impl_IsNet_ev (d : Int) (N : List (List S42)) (h : N.length ≤ maxLen) (hi : ∀ x ∈ N, x.length ≤ maxLen ∧ ∀ y ∈ x, y.f0.length ≤ maxLen) : Ev (fun k => impl_IsNet.f k d N) (netB d N) := by
  have no : Ev (fun k => impl_IsNet.j0 k true d N) false := Ev.step' (f := fun _ => some false) (fun k => by simp only [impl_IsNet.j0, if_true]) (Ev.now _)
  unfold netB
  refine Ev.congr (f := fun k => if inR 1 4 d = true then impl_IsNet.j0 k (!(inR 1 6 N.length)) d N else impl_IsNet.j0 k true d N) (fun k => by simp only [impl_IsNet.f, impl_within_eq, Option.bind_some]) ?_
  cases inR 1 4 d with
  | false => simp only [Bool.false_eq_true, if_false, Bool.false_and]; exact no
  | true =>
    simp only [if_true, Bool.true_and]
    cases inR 1 6 N.length with
    | false => simpa using no
    | true =>
      refine Ev.step' (f := fun k => impl_IsNet.l0 k d N (N.length : Int) 0) (fun k => by simp [impl_IsNet.j0]) ?_
      rw [Bool.true_and]
      refine ev_list [] N (fun i (e : Int) k => impl_IsNet.l0 k e N (N.length : Int) i) (fun _ ys e => layB e ys) (fun _ _ => True) (fun e _ => ?_) (fun i y ys e hi2 hy hm _ ih => ?_) d trivial
      · exact Ev.step' (f := fun _ => some true) (fun k => by simp only [impl_IsNet.l0, if_neg (Int.lt_irrefl _)]) (Ev.now _)
      · have c1 : (i : Int) < (N.length : Int) := by omega
        have c0 : 0 ≤ (i : Int) := by omega
        show Ev _ (y.all (fun x => planeB x.f0 x.f1 && ((x.f0.length : Int) == e)) && (inR 1 4 y.length && layB y.length ys))
        rw [Bool.and_left_comm]
        refine Ev.step' (f := fun k => if inR 1 4 y.length = true then impl_IsNet.l1 k e y N (N.length : Int) i y (y.length : Int) 0 else some false) (fun k => by simp only [impl_IsNet.l0, if_pos c1, if_pos c0, rdL5_nat, hy, impl_within_eq, Option.bind_some]) ?_
        cases inR 1 4 y.length with
        | false => simp only [Bool.false_eq_true, if_false, Bool.false_and]; exact Ev.now _
        | true =>
          simp only [if_true, Bool.true_and]
          exact impl_IsNet_row N e i y _ hi2 h (hi y hm) (ih _ trivial)

theorem impl_copied_eq (l : List Int) (h : l.length ≤ 1000) : impl_copied.f l = some l := by
  have c : ([] : List Int).length + l.length < 17592186044416 := by rw [List.length_nil]; omega
  simp only [impl_copied.f, Option.bind_some, if_pos c, List.nil_append]

theorem impl_product_ev (a b : List Int) (h : a.length ≤ maxLen) (hb : a.length ≤ b.length) : Ev (fun k => impl_product.f k a b) (dotW a b) := by
  unfold maxLen at h
  have hf := to_fold (L := fun i (s : Int) k => impl_product.l0 k b s a (a.length : Int) i) (n := a.length) (f := fun i s => wrap64 (s + wrap64 (a.getD i 0 * b.getD i 0))) (fun _ _ => True) (fun i s hi _ => ⟨To.step fun k => ?_, trivial⟩) 0 trivial
  · refine hf.1 _ (Ev.step' (f := fun _ => some _) (fun k => ?_) (Ev.now _))
    simp only [impl_product.l0, if_neg (Int.lt_irrefl _)]; rfl
  · have c1 : (i : Int) < (a.length : Int) := by omega
    have c2 : (i : Int) < (b.length : Int) := by omega
    have c3 : 0 ≤ (i : Int) := by omega
    simp only [impl_product.l0, if_pos c1, if_pos c2, if_pos c3, rd_nat, wrap_succ hi h]

theorem impl_Plane_side_ev (w : List Int) (b : Int) (x : List Int) (hw : w.length ≤ maxLen) (hx : w.length ≤ x.length) : Ev (fun k => impl_Plane_side.f k w b x) (sideW w b x) := by
  refine Ev.bind (impl_product_ev w x hw hx) ?_
  unfold sideW
  by_cases c : dotW w x ≥ b
  · simp only [if_pos c]; exact Ev.now _
  · simp only [if_neg c]; exact Ev.now _

theorem bit_of_side (w : List Int) (b : Int) (x : List Int) : wrap64 (Int.tdiv (wrap64 (sideW w b x + 1)) 2) = bitS (sideW w b x) := by
  unfold sideW bitS
  by_cases c : dotW w x ≥ b
  · simp only [if_pos c, if_true]
    rw [wrap_id (x := (1 : Int) + 1) (by omega) (by omega), show Int.tdiv ((1 : Int) + 1) 2 = 1 from rfl, wrap_id (by omega) (by omega)]
  · simp only [if_neg c]
    rw [if_neg (by decide), wrap_id (x := (-1 : Int) + 1) (by omega) (by omega), show Int.tdiv ((-1 : Int) + 1) 2 = 0 from rfl, wrap_id (by omega) (by omega)]
theorem impl_Net_gives_row (N : List (List S42)) (y : List S42) (x : List Int) (i : Nat) (hi : i < N.length) (hN : N.length ≤ 1000) (hy : y.length ≤ 1000) (hx : x.length ≤ 1000) (hl : ∀ p ∈ y, p.f0.length = x.length) :
    To (fun k => impl_Net_gives.l1 k x [] N (N.length : Int) i y (y.length : Int) 0) (fun k => impl_Net_gives.l0 k (giveM y x) N (N.length : Int) ((i + 1 : Nat) : Int)) := by
  have hf := to_fold (L := fun j (t : List Int) k => impl_Net_gives.l1 k x t N (N.length : Int) i y (y.length : Int) j) (n := y.length) (f := fun j t => t ++ [bitS (sideW (y.getD j z42).f0 (y.getD j z42).f1 x)]) (fun j t => t.length = j) (fun j t hj ht => ⟨?_, by simp [ht]⟩) [] rfl
  · refine hf.1.trans (To.step fun k => ?_)
    rw [fold_append, List.nil_append, range_map y (fun p => bitS (sideW p.f0 p.f1 x)) z42]
    simp only [impl_Net_gives.l1, if_neg (Int.lt_irrefl _), wrap_succ hi (by omega : N.length ≤ 9223372036854775807)]
    rfl
  · have c2 : (j : Int) < (y.length : Int) := by omega
    have c3 : 0 ≤ (j : Int) := by omega
    have c4 : t.length < 17592186044416 := by omega
    have hm := hl _ (getD_mem hj z42)
    refine (To.step (f := fun k => (impl_Plane_side.f k (y.getD j z42).f0 (y.getD j z42).f1 x).bind fun u => impl_Net_gives.l1 k x (t ++ [wrap64 (Int.tdiv (wrap64 (u + 1)) 2)]) N (N.length : Int) i y (y.length : Int) ((j + 1 : Nat) : Int)) fun k => ?_).trans ((To.bind (impl_Plane_side_ev _ _ x (by unfold maxLen; omega) (by omega))).trans (To.congr fun k => by rw [bit_of_side]))
    simp only [impl_Net_gives.l1, if_pos c2, if_pos c3, if_pos c4, rdT42_nat, wrap_succ hj (by omega : y.length ≤ 9223372036854775807)]
theorem impl_Net_gives_ev (d : Int) (N : List (List S42)) (x : List Int) (hN : N.length ≤ 1000) (hx : x.length ≤ 1000) (hok : okL x.length N) : Ev (fun k => impl_Net_gives.f k d N x) (runM N x) := by
  refine Ev.congr (f := fun k => impl_Net_gives.l0 k x N (N.length : Int) 0) (fun k => by simp only [impl_Net_gives.f, impl_copied_eq x hx, Option.bind_some]) ?_
  refine ev_list [] N (fun i (s : List Int) k => impl_Net_gives.l0 k s N (N.length : Int) i) (fun _ ys s => runM ys s) (fun i s => s.length ≤ 1000 ∧ okL s.length (N.drop i)) (fun s _ => ?_) (fun i y ys s hi hy hm hs ih => ?_) x ⟨hx, hok⟩
  · exact Ev.step' (f := fun _ => some s) (fun k => by simp only [impl_Net_gives.l0, if_neg (Int.lt_irrefl _)]) (Ev.now _)
  · have c1 : (i : Int) < (N.length : Int) := by omega
    have c0 : 0 ≤ (i : Int) := by omega
    obtain ⟨h1, h2⟩ := hs
    rw [drop_at hi hy] at h2
    obtain ⟨⟨h3, h4⟩, h5⟩ := h2
    exact Ev.step' (f := fun k => impl_Net_gives.l1 k s [] N (N.length : Int) i y (y.length : Int) 0) (fun k => by simp only [impl_Net_gives.l0, if_pos c1, if_pos c0, rdL5_nat, hy]) (impl_Net_gives_row N y s i hi hN (by omega) h1 h4 _ (ih (giveM y s) ⟨by rw [giveM_len]; omega, by rw [giveM_len]; exact h5⟩))

theorem impl_Net_last_eq (d : Int) (N : List (List S42)) (h1 : 1 ≤ N.length) (h : N.length ≤ 1000) : impl_Net_last.f d N = some (lastL N) := by
  have e : wrap64 ((N.length : Int) - 1) = ((N.length - 1 : Nat) : Int) := by rw [wrap_id (by omega) (by omega)]; omega
  have c0 : 0 ≤ ((N.length - 1 : Nat) : Int) := by omega
  have c1 : ((N.length - 1 : Nat) : Int) < (N.length : Int) := by omega
  simp only [impl_Net_last.f, e, if_pos c0, if_pos c1, rdL5_nat]
  rfl

theorem impl_bitPoint_ev (d : Nat) (k : Int) (hd : d ≤ 1000) : Ev (fun r => impl_bitPoint.f r (d : Int) k) (bitPt d k) := by
  have hf := to_fold (L := fun j (t : List Int) r => impl_bitPoint.l0 r k t (d : Int) j) (n := d) (f := fun j t => t ++ [Go.bits .and .i64 (shr .i64 k (j : Int)) 1]) (fun j t => t.length = j) (fun j t hj ht => ⟨To.step fun r => ?_, by simp [ht]⟩) [] rfl
  · refine hf.1 _ (Ev.step' (f := fun _ => some (bitPt d k)) (fun r => ?_) (Ev.now _))
    rw [fold_append, List.nil_append]
    simp only [impl_bitPoint.l0, if_neg (Int.lt_irrefl _)]
    rfl
  · have c1 : (j : Int) < (d : Int) := by omega
    have c0 : 0 ≤ (j : Int) := by omega
    have c2 : t.length < 17592186044416 := by omega
    simp only [impl_bitPoint.l0, if_pos c1, if_pos c0, if_pos c2, wrap_succ hj (by omega : d ≤ 9223372036854775807)]

theorem impl_Net_tables_row (d : Int) (N : List (List S42)) (M : Int) (n c : Nat) (g : List Int) (s : List (List Int)) (hg : g.length = n) (hn : n ≤ 1000) (hc : c ≤ 1000) (hs : RowOk n c 0 s) :
    To (fun k => impl_Net_tables.l1 k s M (c : Int) g (g.length : Int) 0 d N) (fun k => impl_Net_tables.l0 k (rowT n g s) M ((c + 1 : Nat) : Int) d N) ∧ RowOk n (c + 1) 0 (rowT n g s) := by
  have hf := to_fold (L := fun j (t : List (List Int)) k => impl_Net_tables.l1 k t M (c : Int) g (g.length : Int) j d N) (n := n) (f := fun j t => addAt g j t) (fun j t => RowOk n c j t) (fun j t hj ht => ⟨To.step fun k => ?_, rowOk_step g hj ht⟩) s hs
  · refine ⟨hf.1.trans (To.step fun k => ?_), rowOk_next hf.2⟩
    simp only [impl_Net_tables.l1, hg, if_neg (Int.lt_irrefl _), wrap_succ (i := c) (n := 1001) (by omega) (by omega)]
    rfl
  · have h1 : t.length = n := ht.1
    have h2 := ht.2 j hj
    rw [if_neg (Nat.lt_irrefl _)] at h2
    have c1 : (j : Int) < (t.length : Int) := by omega
    have c0 : 0 ≤ (j : Int) := by omega
    have c2 : (j : Int) < (g.length : Int) := by omega
    have c3 : (t.getD j []).length < 17592186044416 := by omega
    simp only [impl_Net_tables.l1, if_pos c1, if_pos c0, if_pos c2, rdL1_nat, if_pos c3, rd_nat, Int.toNat_natCast, wrap_succ (i := j) (n := n) hj (by omega)]
    rfl
theorem impl_Net_tables_ev (d : Int) (N : List (List S42)) (h : netB d N = true) : Ev (fun k => impl_Net_tables.f k d N) (tabsM d.toNat N) := by
  obtain ⟨h1, h2, h3⟩ := netB_ok h
  have hl := okL_last N d.toNat (by omega) h3
  have c2 : 0 ≤ ((lastL N).length : Int) := by omega
  have c3 : (lastL N).length ≤ 11728124029610 := by omega
  obtain ⟨m, rfl⟩ : ∃ m : Nat, d = (m : Int) := ⟨d.toNat, by omega⟩
  rw [Int.toNat_natCast] at h3 ⊢
  have cd : 0 ≤ (m : Int) := by omega
  have hp := pow_small (d := m) (by omega)
  refine Ev.congr (f := fun k => impl_Net_tables.l0 k (List.replicate (lastL N).length []) ((2 ^ m : Nat) : Int) 0 (m : Int) N) (fun k => by simp only [impl_Net_tables.f, impl_Net_last_eq (m : Int) N (by omega) (by omega), Option.bind_some, if_pos c2, Int.toNat_natCast, if_pos c3, if_pos cd, shl_pow (d := m) (by omega)]) ?_
  have hf := to_fold (L := fun c (s : List (List Int)) k => impl_Net_tables.l0 k s ((2 ^ m : Nat) : Int) c (m : Int) N) (n := 2 ^ m) (f := fun (c : Nat) s => rowT (lastL N).length (runM N (bitPt m (c : Int))) s) (fun c s => RowOk (lastL N).length c 0 s) (fun c s hc hs => ?_) (List.replicate (lastL N).length []) ⟨by simp, fun j hj => by simp [List.getElem?_replicate, hj]⟩
  · refine hf.1 _ (Ev.step' (f := fun _ => some (tabsM m N)) (fun k => ?_) (Ev.now _))
    simp only [impl_Net_tables.l0, if_neg (Int.lt_irrefl _)]
    rfl
  · have hbl := bitPt_len m (c : Int)
    have hr := impl_Net_tables_row (m : Int) N ((2 ^ m : Nat) : Int) (lastL N).length c (runM N (bitPt m (c : Int))) s (runM_len N _ (by omega)) (by omega) (by omega) hs
    have cc : (c : Int) < ((2 ^ m : Nat) : Int) := by omega
    refine ⟨(To.step (f := fun k => (impl_bitPoint.f k (m : Int) (c : Int)).bind fun t => (impl_Net_gives.f k (m : Int) N t).bind fun u => impl_Net_tables.l1 k s ((2 ^ m : Nat) : Int) (c : Int) u (u.length : Int) 0 (m : Int) N) (fun k => ?_)).trans ((To.bind (impl_bitPoint_ev m (c : Int) (by omega))).trans ((To.bind (impl_Net_gives_ev (m : Int) N _ (by omega) (by omega) (by rw [hbl]; exact h3))).trans hr.1)), hr.2⟩
    simp only [impl_Net_tables.l0, if_pos cc]

theorem impl_NetTables_ev (d : Int) (N : List (List S42)) (h : N.length ≤ maxLen) (hi : ∀ x ∈ N, x.length ≤ maxLen ∧ ∀ y ∈ x, y.f0.length ≤ maxLen) : Ev (fun k => impl_NetTables.f k d N) (netTablesM d N) := by
  refine Ev.bind (impl_IsNet_ev d N h hi) ?_
  unfold netTablesM
  cases hn : netB d N with
  | false => simp only [Bool.false_eq_true, if_false]; exact Ev.now _
  | true =>
    simp only [if_true]
    exact Ev.bind (impl_Net_tables_ev d N hn) (Ev.now _)

theorem laws_markIntSS_ev (P : List (List Int)) (a : Int) (h0 : 0 ≤ a) (h1 : a + sumN List.length P ≤ 1000000000000) (hP : P.length ≤ 1000000000000) : Ev (fun k => laws_markIntSS.f k P a) (a + sumN List.length P, iota2 a P) :=
  ev_mark ([] : List Int) List.length iota P 1000000000000 (L := fun ys a i k => laws_markIntSS.l0 k ys a i) (fun ys a i x hi hl hx hm ha hb r hr => by
    refine Ev.step' (f := fun k => (laws_markIntS.f k x a).bind fun b => laws_markIntSS.l0 k (ys.set i b.2) b.1 ((i + 1 : Nat) : Int)) (fun k => ?_) (Ev.bind (laws_markIntS_ev x a ha hb) hr)
    have c1 : (i : Int) < (ys.length : Int) := by omega
    have c3 : 0 ≤ (i : Int) := by omega
    simp only [laws_markIntSS.l0, if_pos c1, if_pos c3, Int.toNat_natCast, rdR_nat, hx, wrap_succ (i := i) (n := ys.length) (by omega) (by omega)]) (fun ys a hl => Ev.step' (f := fun _ => some (a, ys)) (fun k => by
    simp only [laws_markIntSS.l0, hl, if_neg (Int.lt_irrefl _)]) (Ev.now _)) a h0 h1

def markP (a : Int) (x : S42) : S42 := ⟨iota a x.f0, a + x.f0.length⟩
theorem laws_markPlaneS_ev (l : List S42) (a : Int) (h0 : 0 ≤ a) (h1 : a + sumN (fun x : S42 => x.f0.length + 1) l ≤ 1000000000000) (hl : l.length ≤ 1000000000000) : Ev (fun k => laws_markPlaneS.f k l a) (a + sumN (fun x : S42 => x.f0.length + 1) l, markL (fun x : S42 => x.f0.length + 1) markP a l) :=
  ev_mark z42 (fun x : S42 => x.f0.length + 1) markP l 1000000000000 (L := fun ys a i k => laws_markPlaneS.l0 k ys a i) (fun ys a i x hi hl hx hm ha hb r hr => by
    have hb2 : a + (x.f0.length : Int) ≤ 1000000000000 := by have : ((x.f0.length + 1 : Nat) : Int) = (x.f0.length : Int) + 1 := by omega
                                                             omega
    refine Ev.step' (f := fun k => (laws_markIntS.f k x.f0 a).bind fun b => laws_markPlaneS.l0 k (ys.set i ⟨b.2, b.1⟩) (wrap64 (b.1 + 1)) ((i + 1 : Nat) : Int)) (fun k => ?_) (Ev.bind (laws_markIntS_ev x.f0 a ha hb2) ?_)
    · have c1 : (i : Int) < (ys.length : Int) := by omega
      have c3 : 0 ≤ (i : Int) := by omega
      simp only [laws_markPlaneS.l0, if_pos c1, if_pos c3, Int.toNat_natCast, rdT42_nat, hx, wrap_succ (i := i) (n := ys.length) (by omega) (by omega)]
    · have e : wrap64 (a + (x.f0.length : Int) + 1) = a + ((x.f0.length + 1 : Nat) : Int) := by rw [wrap_id (by omega) (by omega)]; omega
      simp only [e]
      exact hr) (fun ys a hl => Ev.step' (f := fun _ => some (a, ys)) (fun k => by
    simp only [laws_markPlaneS.l0, hl, if_neg (Int.lt_irrefl _)]) (Ev.now _)) a h0 h1
theorem sum_succ : ∀ l : List S37, sumN (fun x : S42 => x.f0.length + 1) (l.map cvP) = szP l
  | [] => rfl
  | x :: l => by
    have := sum_succ l
    unfold szP at this ⊢
    simp only [List.map_cons, sumN, List.length_cons, this]
    show (x.f0.length + 1) + _ = _
    omega

def wtPP (y : List S42) : Nat := sumN (fun x : S42 => x.f0.length + 1) y
def markPP (a : Int) (y : List S42) : List S42 := markL (fun x : S42 => x.f0.length + 1) markP a y
theorem laws_markPlaneSS_ev (l : List (List S42)) (a : Int) (h0 : 0 ≤ a) (h1 : a + sumN wtPP l ≤ 1000000000000) (hl : l.length ≤ 1000000000000) (hi : ∀ y ∈ l, y.length ≤ 1000000000000) : Ev (fun k => laws_markPlaneSS.f k l a) (a + sumN wtPP l, markL wtPP markPP a l) :=
  ev_mark ([] : List S42) wtPP markPP l 1000000000000 (L := fun ys a i k => laws_markPlaneSS.l0 k ys a i) (fun ys a i x hi2 hl hx hm ha hb r hr => by
    refine Ev.step' (f := fun k => (laws_markPlaneS.f k x a).bind fun b => laws_markPlaneSS.l0 k (ys.set i b.2) b.1 ((i + 1 : Nat) : Int)) (fun k => ?_) (Ev.bind (laws_markPlaneS_ev x a ha hb (hi x hm)) hr)
    have c1 : (i : Int) < (ys.length : Int) := by omega
    have c3 : 0 ≤ (i : Int) := by omega
    simp only [laws_markPlaneSS.l0, if_pos c1, if_pos c3, Int.toNat_natCast, rdR_nat, hx, wrap_succ (i := i) (n := ys.length) (by omega) (by omega)]) (fun ys a hl => Ev.step' (f := fun _ => some (a, ys)) (fun k => by
    simp only [laws_markPlaneSS.l0, hl, if_neg (Int.lt_irrefl _)]) (Ev.now _)) a h0 h1
theorem sum_succ2 : ∀ l : List (List S37), sumN wtPP (l.map (List.map cvP)) = sumN szP l
  | [] => rfl
  | x :: l => by
    simp only [List.map_cons, sumN, sum_succ2 l]
    show wtPP (x.map cvP) + _ = _
    unfold wtPP
    rw [sum_succ x]

theorem laws_markNet_ev (d : Int) (l : List (List S42)) (a : Int) (h0 : 0 ≤ a) (h1 : a + sumN wtPP l ≤ 1000000000000) (hl : l.length ≤ 1000000000000) (hi : ∀ y ∈ l, y.length ≤ 1000000000000) : Ev (fun k => laws_markNet.f k d l a) (a + sumN wtPP l, markL wtPP markPP a l) := laws_markPlaneSS_ev l a h0 h1 hl hi

theorem sumN_le {α : Type} (g : α → Nat) (b : Nat) : ∀ (xs : List α), (∀ x ∈ xs, g x ≤ b) → sumN g xs ≤ xs.length * b
  | [], _ => by simp [sumN]
  | x :: xs, h => by
    have := sumN_le g b xs (fun y hy => h y (List.mem_cons_of_mem _ hy))
    have h2 := h x List.mem_cons_self
    simp only [sumN, List.length_cons, Nat.succ_mul]
    omega
theorem netTablesM_small (d : Int) (N : List (List S42)) : (netTablesM d N).1.length ≤ 4 ∧ ∀ x ∈ (netTablesM d N).1, x.length ≤ 16 := by
  unfold netTablesM
  split
  · next h =>
    obtain ⟨h1, h2, h3⟩ := netB_ok h
    have hl := okL_last N d.toNat (by omega) h3
    have hp := pow_small (d := d.toNat) (by omega)
    obtain ⟨a, b⟩ := tabsM_small d N h
    refine ⟨by show (tabsM d.toNat N).length ≤ 4; omega, fun x hx => ?_⟩
    obtain ⟨j, hj, rfl⟩ := List.mem_iff_getElem.1 hx
    have := b j (by have : j < (tabsM d.toNat N).length := hj; omega)
    rw [if_neg (by omega), List.getD_eq_getElem?_getD, List.getElem?_eq_getElem hj] at this
    have e : ((tabsM d.toNat N)[j]'hj).length = 2 ^ d.toNat := this
    show ((tabsM d.toNat N)[j]'hj).length ≤ 16
    omega
  · exact ⟨Nat.zero_le _, fun x hx => by simp at hx⟩
theorem pure : SFnExactNetTables.Pure := by
  intro d N _ ⟨h, hi0⟩
  have hi : ∀ x ∈ N, x.length ≤ maxLen ∧ ∀ y ∈ x, y.f0.length ≤ maxLen := fun x hx => ⟨(hi0 x hx).1, fun y hy => ((hi0 x hx).2 y hy).1.1⟩
  obtain ⟨K1, k1⟩ := laws_szNet_ev d N 1048576 h hi (by omega) (by omega)
  by_cases cn : lft 1048576 (szPP N) < 0
  · exact .inl ⟨K1, _, k1 K1 (by omega), cn⟩
  · have q := lft_nonneg (Int.not_lt.1 cn)
    have hs := szPP_small (l := N) (n := 1048576) (by omega)
    have hsum : sumN szP N ≤ 1048576 := by unfold szPP at q; omega
    have hm : (N.map (List.map cvP)).length ≤ maxLen := by rw [List.length_map]; exact h
    have hmi : ∀ x ∈ N.map (List.map cvP), x.length ≤ maxLen ∧ ∀ y ∈ x, y.f0.length ≤ maxLen := fun x hx => by
      obtain ⟨z, hz, rfl⟩ := List.mem_map.1 hx
      refine ⟨by rw [List.length_map]; exact (hi z hz).1, fun y hy => ?_⟩
      obtain ⟨u, hu, rfl⟩ := List.mem_map.1 hy
      exact (hi z hz).2 u hu
    have hm2 : (N.map (List.map cvP)).length ≤ 1000000000000 := by rw [List.length_map]; omega
    have hm3 : ∀ y ∈ N.map (List.map cvP), y.length ≤ 1000000000000 := fun y hy => by
      obtain ⟨z, hz, rfl⟩ := List.mem_map.1 hy
      rw [List.length_map]
      have := (hs.2 z hz).1
      omega
    have hsz := sum_succ2 N
    have hsm := netTablesM_small d (N.map (List.map cvP))
    have hss := sumN_le List.length 16 _ hsm.2
    have hs64 : (netTablesM d (N.map (List.map cvP))).1.length * 16 ≤ 64 := Nat.mul_le_mul_right 16 hsm.1
    obtain ⟨K2, k2⟩ := laws_toNet_ev d N hs.1 hs.2
    obtain ⟨K4, k4⟩ := spec_NetTables_ev d _ hm hmi
    obtain ⟨K5, k5⟩ := impl_NetTables_ev d _ hm hmi
    obtain ⟨K6, k6⟩ := laws_eqIntSS_ev (netTablesM d (N.map (List.map cvP))).1 (by unfold maxLen; omega) (fun x hx => by have := hsm.2 x hx; unfold maxLen; omega)
    obtain ⟨K7, k7⟩ := laws_eqNet_ev d _ hm hmi
    obtain ⟨K9, k9⟩ := laws_markNet_ev d _ 1 (by omega) (by rw [hsz]; omega) hm2 hm3
    obtain ⟨K11, k11⟩ := laws_markIntSS_ev (netTablesM d (N.map (List.map cvP))).1 1 (by omega) (by omega) (by omega)
    obtain ⟨K12, k12⟩ := laws_heldIntSS_ev (netTablesM d (N.map (List.map cvP))).1 1 (by omega) (by omega) (by omega)
    let K := K1 + K2 + K4 + K5 + K6 + K7 + K9 + K11 + K12
    exact .inr ⟨K, _, _, _, (netTablesM d (N.map (List.map cvP))).1, (netTablesM d (N.map (List.map cvP))).2, _, _, _, _, k1 K (by omega), k2 K (by omega), k4 K (by omega), k5 K (by omega), k6 K (by omega), k7 K (by omega), k9 K (by omega), k11 K (by omega), k12 K (by omega), Int.not_lt.1 cn, by omega, by omega⟩
end Go.Proofs.Ytniebbjbihenfaa.QFnExactNetTables
