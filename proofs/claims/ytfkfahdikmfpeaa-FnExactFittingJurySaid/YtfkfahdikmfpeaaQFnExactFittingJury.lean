/- FnExactFittingJury: what its calls come to, shown of numbers and lists alone. -/
import Derived.Test.YtfkfahdikmfpeaaSFnExactFittingJury
import Derived.Test.YtfkfahdikmfpeaaLb
namespace Go.Proofs.Ytfkfahdikmfpeaa.QFnExactFittingJury
open Go.RowKit Go.Proofs.Ytfkfahdikmfpeaa.KFnExactFittingJury Go.Proofs.Ytfkfahdikmfpeaa.Lb Go.Proofs.Ytfkfahdikmfpeaa.PFnExactFittingJury Go.Proofs.YtfkfahdikmfpeaaW.PrintWords Go.Proofs.YtfkfahdikmfpeaaW.PrintLast Go.Proofs.YtfkfahdikmfpeaaW.PrintMore
set_option linter.unusedVariables false
set_option linter.unusedSimpArgs false
def isLab (x : Int) : Bool := decide (x = 1) || decide (x = -1)
def pointB (x : List Int) : Bool := inR 1 4 x.length && x.all (inR (-9) 9)
def sz2 (l : List (List Int)) : Nat := l.length + sumN List.length l
theorem sz2_small {l : List (List Int)} {n : Nat} (h : sz2 l ≤ n) : l.length ≤ n ∧ ∀ x ∈ l, x.length ≤ n := by
 unfold sz2 at h
 exact ⟨by omega, fun x hx => by have := sumN_mem List.length hx; omega⟩
def sideW (w : List Int) (b : Int) (x : List Int) : Int := if dotW w x ≥ b then 1 else -1
def Near (B : Int) (l : List Int) : Prop := ∀ x ∈ l, -B ≤ x ∧ x ≤ B
theorem near_of {B : Int} {l : List Int} (h : l.all (inR (-B) B) = true) : Near B l := fun x hx => (inR_iff _ _ _).1 (List.all_eq_true.1 h x hx)
theorem point_len {x : List Int} (h : pointB x = true) : 1 ≤ x.length ∧ x.length ≤ 4 := by
 unfold pointB at h
 simp only [Bool.and_eq_true] at h
 have := (inR_iff _ _ _).1 h.1
 omega
theorem point_near {x : List Int} (h : pointB x = true) : Near 9 x := by
 unfold pointB at h
 simp only [Bool.and_eq_true] at h
 exact near_of h.2
def ptB (P : List (List Int)) (x : List Int) : Bool := pointB x && decide (x.length = (P.getD 0 []).length)
def sampleB (P : List (List Int)) (L : List Int) : Bool := decide (P.length ≤ 16) && (decide (L.length = P.length) && (L.all isLab && P.all (ptB P)))
theorem sample_tell {P : List (List Int)} {L : List Int} (h : sampleB P L = true) : P.length ≤ 16 ∧ L.length = P.length ∧ (∀ l ∈ L, l = 1 ∨ l = -1) ∧ ∀ x ∈ P, pointB x = true ∧ x.length = (P.getD 0 []).length := by
 unfold sampleB at h
 simp only [Bool.and_eq_true, decide_eq_true_eq, List.all_eq_true] at h
 refine ⟨h.1, h.2.1, fun l hl => ?_, fun x hx => ?_⟩
 · have := h.2.2.1 l hl
   unfold isLab at this
   simpa using this
 · have := h.2.2.2 x hx
   unfold ptB at this
   simpa using this
def someB (P : List (List Int)) (L : List Int) : Bool := sampleB P L && decide (0 < P.length)
theorem some_tell {P : List (List Int)} {L : List Int} (h : someB P L = true) : sampleB P L = true ∧ 0 < P.length := by
 unfold someB at h
 simpa using h
theorem rdL1_nat (xs : List (List Int)) (i : Nat) : rd_L1 xs (i : Int) = xs.getD i [] := by simp [rd_L1]
theorem rdT39_nat (xs : List S39) (i : Nat) : rd_T39 xs (i : Int) = xs.getD i z39 := by simp [rd_T39]
def markP (a : Int) (x : S39) : S39 := ⟨iota a x.f0, a + x.f0.length⟩
theorem laws_szIntS_eq (l : List Int) (a : Int) (h : l.length ≤ maxLen) (h0 : 0 ≤ a) (h1 : a ≤ 1048576) : laws_szIntS.f l a = some (lft a l.length) := by
 unfold maxLen at h
 have hw : wrap64 (a - (l.length : Int)) = a - l.length := wrap_id (by omega) (by omega)
 unfold laws_szIntS.f lft
 rw [hw]
 by_cases c : (l.length : Int) ≤ a
 · rw [if_neg (by omega), if_pos c]
 · rw [if_pos (by omega), if_neg c]
theorem laws_szIntSS_ev (l : List (List Int)) (a : Int) (h : l.length ≤ maxLen) (hi : ∀ x ∈ l, x.length ≤ maxLen) (h0 : 0 ≤ a) (h1 : a ≤ 1048576) : Ev (fun k => laws_szIntSS.f k l a) (lft a (sz2 l)) := by
 have h' : l.length ≤ 9223372036854775807 := h
 unfold sz2 laws_szIntSS.f
 rw [← lft_add a _ _ h0]
 have hw : wrap64 (a - (l.length : Int)) = a - l.length := wrap_id (by omega) (by omega)
 rw [hw]
 by_cases c : (l.length : Int) ≤ a
 · have e : lft a l.length = a - l.length := by unfold lft; rw [if_pos c]
   rw [e]
   simp only [if_neg (show ¬ a - (l.length : Int) < 0 by omega)]
   refine ev_sz [] List.length l (L := fun a i k => laws_szIntSS.l0 k l a i) (fun i a hi2 h0 h1 hn => ?_) (fun i a hi2 h0 h1 hn => ?_) (fun a => Ev.step' (f := fun _ => some a) (fun k => by simp only [laws_szIntSS.l0, if_neg (Int.lt_irrefl _)]) (Ev.now _)) _ (by omega) (by omega)
   · have c1 : (i : Int) < (l.length : Int) := by omega
     have c0 : 0 ≤ (i : Int) := by omega
     refine To.step (fun k => ?_)
     simp only [laws_szIntSS.l0, if_pos c1, if_pos c0, rdL1_nat, laws_szIntS_eq _ a (hi _ (getD_mem hi2 [])) h0 h1, Option.bind_some, if_neg (show ¬ lft a (l.getD i []).length < 0 by omega), wrap_succ hi2 h']
   · have c1 : (i : Int) < (l.length : Int) := by omega
     have c0 : 0 ≤ (i : Int) := by omega
     refine Ev.step' (f := fun _ => some (-1)) (fun k => ?_) (Ev.now _)
     simp only [laws_szIntSS.l0, if_pos c1, if_pos c0, rdL1_nat, laws_szIntS_eq _ a (hi _ (getD_mem hi2 [])) h0 h1, Option.bind_some, if_pos hn]
 · have e : lft a l.length = -1 := by unfold lft; rw [if_neg c]
   rw [e]
   simp only [if_pos (show a - (l.length : Int) < 0 by omega), if_pos (show (-1 : Int) < 0 by omega)]
   exact Ev.now _
theorem laws_szSample_ev (P : List (List Int)) (L : List Int) (a : Int) (h : P.length ≤ maxLen) (hi : ∀ x ∈ P, x.length ≤ maxLen) (hL : L.length ≤ maxLen) (h0 : 0 ≤ a) (h1 : a ≤ 1048576) : Ev (fun k => laws_szSample.f k P L a) (lft a (sz2 P + L.length)) := by
 have hle := lft_le a (sz2 P) h0
 refine Ev.bind (laws_szIntSS_ev P a h hi h0 h1) ?_
 rw [← lft_add a _ _ h0]
 by_cases c : lft a (sz2 P) < 0
 · simp only [if_pos c]; exact Ev.now _
 · simp only [if_neg c, laws_szIntS_eq L _ hL (show 0 ≤ lft a (sz2 P) by omega) (show lft a (sz2 P) ≤ 1048576 by omega), Option.bind_some]
   by_cases c2 : lft (lft a (sz2 P)) L.length < 0
   · simp only [if_pos c2, lft_neg c2]; exact Ev.now _
   · simp only [if_neg c2]; exact Ev.now _
theorem laws_toIntS_ev (l : List Int) (h : l.length ≤ 1048576) : Ev (fun k => laws_toIntS.f k l) l := by
 have hw : wrap64 (l.length : Int) = l.length := wrap_id (by omega) (by omega)
 have c0 : 0 ≤ (l.length : Int) := by omega
 have e : ∀ k, laws_toIntS.f k l = laws_toIntS.l0 k l (List.replicate l.length 0) 0 := fun k => by
  simp only [laws_toIntS.f, if_pos c0, Int.toNat_natCast]; rw [if_pos (by omega)]
 refine Ev.congr e ?_
 have hf := to_fold (L := fun i (s : List Int) k => laws_toIntS.l0 k l s i) (n := l.length) (f := fun i s => s.set i (l.getD i 0)) (fun i s => s = l.take i ++ List.replicate (l.length - i) 0) (fun i s hi hs => ⟨To.step fun k => ?_, ?_⟩) (List.replicate l.length 0) (by simp)
 · refine hf.1 _ (Ev.step' (f := fun _ => some l) (fun k => ?_) (Ev.now _))
   have := hf.2
   rw [Nat.sub_self, List.take_length, List.replicate_zero, List.append_nil] at this
   show laws_toIntS.l0 (k + 1) l _ _ = _
   rw [this]
   simp only [laws_toIntS.l0, if_neg (Int.lt_irrefl _)]
 · have c1 : (i : Int) < (l.length : Int) := by omega
   have c2 : (i : Int) < (s.length : Int) := by rw [hs, List.length_append, List.length_take, List.length_replicate]; omega
   have c3 : 0 ≤ (i : Int) := by omega
   simp only [laws_toIntS.l0, if_pos c1, if_pos c2, if_pos c3, rd_nat, Int.toNat_natCast, wrap_succ hi (by omega : l.length ≤ 9223372036854775807)]
 · show List.set s i _ = _
   rw [hs]; exact set_step l 0 0 i hi
theorem laws_toIntSS_ev (l : List (List Int)) (h : l.length ≤ 1048576) (hi : ∀ x ∈ l, x.length ≤ 1048576) : Ev (fun k => laws_toIntSS.f k l) l := by
 have c0 : 0 ≤ (l.length : Int) := by omega
 have e : ∀ k, laws_toIntSS.f k l = laws_toIntSS.l0 k l (List.replicate l.length []) 0 := fun k => by
  simp only [laws_toIntSS.f, if_pos c0, Int.toNat_natCast]; rw [if_pos (by omega)]
 refine Ev.congr e ?_
 have hf := to_fold (L := fun i (s : List (List Int)) k => laws_toIntSS.l0 k l s i) (n := l.length) (f := fun i s => s.set i (l.getD i [])) (fun i s => s = l.take i ++ List.replicate (l.length - i) []) (fun i s hi2 hs => ⟨?_, ?_⟩) (List.replicate l.length []) (by simp)
 · refine hf.1 _ (Ev.step' (f := fun _ => some l) (fun k => ?_) (Ev.now _))
   have := hf.2
   rw [Nat.sub_self, List.take_length, List.replicate_zero, List.append_nil] at this
   show laws_toIntSS.l0 (k + 1) l _ _ = _
   rw [this]
   simp only [laws_toIntSS.l0, if_neg (Int.lt_irrefl _)]
 · have c1 : (i : Int) < (l.length : Int) := by omega
   have c2 : (i : Int) < (s.length : Int) := by rw [hs, List.length_append, List.length_take, List.length_replicate]; omega
   have c3 : 0 ≤ (i : Int) := by omega
   refine (To.step (f := fun k => (laws_toIntS.f k (l.getD i [])).bind fun t => laws_toIntSS.l0 k l (s.set i t) ((i + 1 : Nat) : Int)) (fun k => ?_)).trans (To.bind (laws_toIntS_ev _ (hi _ (getD_mem hi2 []))))
   simp only [laws_toIntSS.l0, if_pos c1, if_pos c2, if_pos c3, rdL1_nat, Int.toNat_natCast, wrap_succ hi2 (by omega : l.length ≤ 9223372036854775807)]
 · show List.set s i _ = _
   rw [hs]; exact set_step l [] [] i hi2
theorem laws_toSample_ev (P : List (List Int)) (L : List Int) (h : P.length ≤ 1048576) (hi : ∀ x ∈ P, x.length ≤ 1048576) (hL : L.length ≤ 1048576) : Ev (fun k => laws_toSample.f k P L) (P, L) := Ev.bind (laws_toIntSS_ev P h hi) (Ev.bind (laws_toIntS_ev L hL) (Ev.now _))
theorem laws_eqIntS_ev (l : List Int) (h : l.length ≤ maxLen) : Ev (fun k => laws_eqIntS.f k l l) true := by
 unfold maxLen at h
 refine Ev.congr (f := fun k => laws_eqIntS.l0 k l l 0) (fun k => by simp only [laws_eqIntS.f, if_true]) ?_
 refine ev_yes (L := fun i k => laws_eqIntS.l0 k l l i) (n := l.length) (fun i hi => To.step fun k => ?_) (Ev.step' (f := fun _ => some true) (fun k => ?_) (Ev.now _))
 · have c1 : (i : Int) < (l.length : Int) := by omega
   have c0 : 0 ≤ (i : Int) := by omega
   simp only [laws_eqIntS.l0, if_pos c1, if_pos c0, if_true, wrap_succ hi h]
 · simp only [laws_eqIntS.l0, if_neg (Int.lt_irrefl _)]
theorem laws_eqIntSS_ev (l : List (List Int)) (h : l.length ≤ maxLen) (hi : ∀ x ∈ l, x.length ≤ maxLen) : Ev (fun k => laws_eqIntSS.f k l l) true := by
 have h' : l.length ≤ 9223372036854775807 := h
 refine Ev.congr (f := fun k => laws_eqIntSS.l0 k l l 0) (fun k => by simp only [laws_eqIntSS.f, if_true]) ?_
 refine ev_yes (L := fun i k => laws_eqIntSS.l0 k l l i) (n := l.length) (fun i hi2 => ?_) (Ev.step' (f := fun _ => some true) (fun k => ?_) (Ev.now _))
 · have c1 : (i : Int) < (l.length : Int) := by omega
   have c0 : 0 ≤ (i : Int) := by omega
   refine (To.step (f := fun k => (laws_eqIntS.f k (l.getD i []) (l.getD i [])).bind fun t => if t = true then laws_eqIntSS.l0 k l l ((i + 1 : Nat) : Int) else some false) (fun k => ?_)).trans ((To.bind (laws_eqIntS_ev _ (hi _ (getD_mem hi2 [])))).trans (To.congr fun k => by simp only [if_true]))
   simp only [laws_eqIntSS.l0, if_pos c1, if_pos c0, rdL1_nat, wrap_succ hi2 h']
 · simp only [laws_eqIntSS.l0, if_neg (Int.lt_irrefl _)]
theorem laws_eqSample_ev (P : List (List Int)) (L : List Int) (h : P.length ≤ maxLen) (hi : ∀ x ∈ P, x.length ≤ maxLen) (hL : L.length ≤ maxLen) : Ev (fun k => laws_eqSample.f k P L P L) true := by
 refine Ev.bind (laws_eqIntSS_ev P h hi) ?_
 simp only [if_true]
 refine Ev.bind (laws_eqIntS_ev L hL) ?_
 simp only [if_true]
 exact Ev.now _
theorem laws_markIntS_ev (l : List Int) (a : Int) (h0 : 0 ≤ a) (h1 : a + l.length ≤ 1000000000000) : Ev (fun k => laws_markIntS.f k l a) (a + l.length, iota a l) := by
 have e := ev_mark (0 : Int) (fun _ => 1) (fun a _ => a) l 1000000000000 (L := fun ys a i k => laws_markIntS.l0 k ys a i) (fun ys a i x hi hl hx hm ha hb => To.step fun k => by
  have c1 : (i : Int) < (ys.length : Int) := by omega
  have c3 : 0 ≤ (i : Int) := by omega
  have e : wrap64 (a + 1) = a + ((1 : Nat) : Int) := wrap_id (by omega) (by simpa using (by omega : a + 1 ≤ 9223372036854775807))
  simp only [laws_markIntS.l0, if_pos c1, if_pos c3, Int.toNat_natCast, wrap_succ (i := i) (n := ys.length) (by omega) (by omega), e]) (fun ys a hl => Ev.step' (f := fun _ => some (a, ys)) (fun k => by
  simp only [laws_markIntS.l0, hl, if_neg (Int.lt_irrefl _)]) (Ev.now _)) a h0 (by rw [sumN_one]; exact h1)
 rw [sumN_one] at e
 exact e
theorem laws_eqPlane_ev (l : List Int) (b : Int) (h : l.length ≤ maxLen) : Ev (fun k => laws_eqPlane.f k l b l b) true := Ev.bind (laws_eqIntS_ev l h) (Ev.congr (f := fun _ => some true) (fun k => by simp only [if_true]) (Ev.now _))
theorem laws_eqPlaneS_ev (l : List S39) (h : l.length ≤ maxLen) (hi : ∀ x ∈ l, x.f0.length ≤ maxLen) : Ev (fun k => laws_eqPlaneS.f k l l) true := by
 have h' : l.length ≤ 9223372036854775807 := h
 refine Ev.congr (f := fun k => laws_eqPlaneS.l0 k l l 0) (fun k => by simp only [laws_eqPlaneS.f, if_true]) ?_
 refine ev_yes (L := fun i k => laws_eqPlaneS.l0 k l l i) (n := l.length) (fun i hi2 => ?_) (Ev.step' (f := fun _ => some true) (fun k => ?_) (Ev.now _))
 · have c1 : (i : Int) < (l.length : Int) := by omega
   have c0 : 0 ≤ (i : Int) := by omega
   refine (To.step (f := fun k => (laws_eqPlane.f k (l.getD i z39).f0 (l.getD i z39).f1 (l.getD i z39).f0 (l.getD i z39).f1).bind fun t => if t = true then laws_eqPlaneS.l0 k l l ((i + 1 : Nat) : Int) else some false) (fun k => ?_)).trans ((To.bind (laws_eqPlane_ev _ _ (hi _ (getD_mem hi2 z39)))).trans (To.congr fun k => by simp only [if_true]))
   simp only [laws_eqPlaneS.l0, if_pos c1, if_pos c0, rdT39_nat, wrap_succ hi2 h']
 · simp only [laws_eqPlaneS.l0, if_neg (Int.lt_irrefl _)]
theorem laws_heldIntS_ev (l : List Int) (a : Int) (h0 : 0 ≤ a) (h1 : a + l.length ≤ 1000000000000) : Ev (fun k => laws_heldIntS.f k (iota a l) a) (a + l.length) := by
 have e := ev_held (0 : Int) (fun _ => 1) (fun a _ => a) l 1000000000000 (L := fun b i k => laws_heldIntS.l0 k (iota a l) b i) a (fun b i x hi hx hm ha hb => To.step fun k => by
  have c1 : (i : Int) < ((iota a l).length : Int) := by rw [iota_len]; omega
  have c3 : 0 ≤ (i : Int) := by omega
  have c4 : (iota a l).getD i 0 = b := hx
  have e : wrap64 (b + 1) = b + ((1 : Nat) : Int) := wrap_id (by omega) (by simpa using (by omega : b + 1 ≤ 9223372036854775807))
  simp only [laws_heldIntS.l0, if_pos c1, if_pos c3, rd_nat, if_pos c4, wrap_succ (i := i) (n := l.length) hi (by omega), e]) (fun b => Ev.step' (f := fun _ => some b) (fun k => by
  simp only [laws_heldIntS.l0, iota_len, if_neg (Int.lt_irrefl _)]) (Ev.now _)) h0 (by rw [sumN_one]; exact h1)
 rw [sumN_one] at e
 exact e
theorem laws_heldPlaneS_ev (l : List S39) (a : Int) (h0 : 0 ≤ a) (h1 : a + sumN (fun x : S39 => x.f0.length + 1) l ≤ 1000000000000) (hl : l.length ≤ 1000000000000) : Ev (fun k => laws_heldPlaneS.f k (markL (fun x : S39 => x.f0.length + 1) markP a l) a) (a + sumN (fun x : S39 => x.f0.length + 1) l) := by
  have hlen : (markL (fun x : S39 => x.f0.length + 1) markP a l).length = l.length := markL_len _ _ _ _
  refine ev_held z39 (fun x : S39 => x.f0.length + 1) markP l 1000000000000 (L := fun b i k => laws_heldPlaneS.l0 k (markL (fun x : S39 => x.f0.length + 1) markP a l) b i) a (fun b i x hi hx hm ha hb r hr => ?_) (fun b => Ev.step' (f := fun _ => some b) (fun k => by simp only [laws_heldPlaneS.l0, hlen, if_neg (Int.lt_irrefl _)]) (Ev.now _)) h0 h1
  have hb2 : b + (x.f0.length : Int) ≤ 1000000000000 := by have : ((x.f0.length + 1 : Nat) : Int) = (x.f0.length : Int) + 1 := by omega
                                                           omega
  have c1 : (i : Int) < ((markL (fun x : S39 => x.f0.length + 1) markP a l).length : Int) := by rw [hlen]; omega
  have c3 : 0 ≤ (i : Int) := by omega
  refine Ev.step' (f := fun k => (laws_heldIntS.f k (iota b x.f0) b).bind fun t => if t < 0 then some (-1) else if b + (x.f0.length : Int) = t then laws_heldPlaneS.l0 k (markL (fun x : S39 => x.f0.length + 1) markP a l) (wrap64 (t + 1)) ((i + 1 : Nat) : Int) else some (-1)) (fun k => by
    simp only [laws_heldPlaneS.l0, if_pos c1, if_pos c3, rdT39_nat, hx, wrap_succ hi (by omega : l.length ≤ 9223372036854775807)]
    rfl) (Ev.bind (laws_heldIntS_ev x.f0 b ha hb2) ?_)
  have e : wrap64 (b + (x.f0.length : Int) + 1) = b + ((x.f0.length + 1 : Nat) : Int) := by rw [wrap_id (by omega) (by omega)]; omega
  simp only [if_neg (show ¬ b + (x.f0.length : Int) < 0 by omega), if_true, e]
  exact hr
theorem spec_l1In_eq (x a b : Int) : spec_l1In.f x a b = some (inR a b x) := in_tells a b x
theorem spec_l2Labels_ev (l : List Int) (h : l.length ≤ maxLen) : Ev (fun k => spec_l2Labels.f k l) (l.all isLab) := by
 have h' : l.length ≤ 9223372036854775807 := h
 refine ev_list 0 l (fun i (_ : Unit) k => spec_l2Labels.l0 k l i) (fun _ ys _ => ys.all isLab) (fun _ _ => True) (fun _ _ => ?_) (fun i x ys _ hi hx hm _ ih => ?_) () trivial
 · exact Ev.step' (f := fun _ => some true) (fun k => by simp only [spec_l2Labels.l0, if_neg (Int.lt_irrefl _)]) (Ev.now _)
 · have c1 : (i : Int) < (l.length : Int) := by omega
   have c0 : 0 ≤ (i : Int) := by omega
   have ih := ih () trivial
   simp only [List.all_cons]
   unfold isLab at ih ⊢
   by_cases e1 : x = 1
   · rw [show (decide (x = 1) || decide (x = -1)) = true by simp [e1], Bool.true_and]
     exact Ev.step' (fun k => by simp only [spec_l2Labels.l0, if_pos c1, if_pos c0, rd_nat, hx, if_pos e1, wrap_succ hi h']) ih
   · by_cases e2 : x = -1
     · rw [show (decide (x = 1) || decide (x = -1)) = true by simp [e2], Bool.true_and]
       exact Ev.step' (fun k => by simp only [spec_l2Labels.l0, if_pos c1, if_pos c0, rd_nat, hx, if_neg e1, if_pos e2, wrap_succ hi h']) ih
     · rw [show (decide (x = 1) || decide (x = -1)) = false by simp [e1, e2], Bool.false_and]
       exact Ev.step' (f := fun _ => some false) (fun k => by simp only [spec_l2Labels.l0, if_pos c1, if_pos c0, rd_nat, hx, if_neg e1, if_neg e2]) (Ev.now _)
theorem spec_l2Numbers_ev (l : List Int) (m : Int) (h : l.length ≤ maxLen) : Ev (fun k => spec_l2Numbers.f k l m) (l.all (inR (wrap64 (-m)) m)) := by
 unfold maxLen at h
 rw [← range_all l (inR (wrap64 (-m)) m) 0]
 refine ev_all (L := fun i k => spec_l2Numbers.l0 k l m i) (fun i hi hp => To.step fun k => ?_) (fun i hi hp => Ev.step' (f := fun _ => some false) (fun k => ?_) (Ev.now _)) (Ev.step' (f := fun _ => some true) (fun k => ?_) (Ev.now _))
 · have c1 : (i : Int) < (l.length : Int) := by omega
   have c0 : 0 ≤ (i : Int) := by omega
   simp only [spec_l2Numbers.l0, if_pos c1, if_pos c0, spec_l1In_eq, rd_nat, hp, Option.bind_some, if_true, wrap_succ hi h]
 · have c1 : (i : Int) < (l.length : Int) := by omega
   have c0 : 0 ≤ (i : Int) := by omega
   simp only [spec_l2Numbers.l0, if_pos c1, if_pos c0, spec_l1In_eq, rd_nat, hp, Option.bind_some, Bool.false_eq_true, if_false]
 · simp only [spec_l2Numbers.l0, if_neg (Int.lt_irrefl _)]
theorem spec_l2Point_ev (l : List Int) (h : l.length ≤ maxLen) : Ev (fun k => spec_l2Point.f k l) (pointB l) := by
 have e : ∀ k, spec_l2Point.f k l = if inR 1 4 l.length = true then (spec_l2Numbers.f k l 9).bind (fun t => some t) else some false := fun k => by simp only [spec_l2Point.f, spec_l1In_eq, Option.bind_some]
 refine Ev.congr e ?_
 unfold pointB
 cases inR 1 4 l.length with
 | false => exact Ev.now _
 | true =>
  simp only [if_true, Bool.true_and]
  refine Ev.bind (spec_l2Numbers_ev l 9 h) ?_
  rw [show wrap64 (-9) = -9 from wrap_id (by omega) (by omega)]
  exact Ev.now _
theorem spec_l2Sample_ev (P : List (List Int)) (L : List Int) (h : P.length ≤ maxLen) (hi : ∀ x ∈ P, x.length ≤ maxLen) (hL : L.length ≤ maxLen) : Ev (fun k => spec_l2Sample.f k P L) (sampleB P L) := by
 have h' : P.length ≤ 9223372036854775807 := h
 have no : Ev (fun k => spec_l2Sample.j0 k true P L) false := Ev.step' (f := fun _ => some false) (fun k => by simp only [spec_l2Sample.j0, if_true]) (Ev.now _)
 unfold sampleB spec_l2Sample.f
 by_cases c : P.length ≤ 16
 · rw [decide_eq_true c, Bool.true_and]
   simp only [if_neg (show ¬ (P.length : Int) > 16 by omega)]
   by_cases c2 : L.length = P.length
   · rw [decide_eq_true c2, Bool.true_and]
     simp only [if_pos (show (L.length : Int) = (P.length : Int) by omega)]
     refine Ev.bind (spec_l2Labels_ev L hL) ?_
     cases L.all isLab with
     | false => exact no
     | true =>
      refine Ev.step' (f := fun k => spec_l2Sample.l0 k 0 P L) (fun k => by simp only [spec_l2Sample.j0, Bool.not_true, Bool.false_eq_true, if_false]) ?_
      rw [Bool.true_and]
      refine ev_list [] P (fun i (_ : Unit) k => spec_l2Sample.l0 k i P L) (fun _ ys _ => ys.all (ptB P)) (fun _ _ => True) (fun _ _ => ?_) (fun i x ys _ hi2 hx hm _ ih => ?_) () trivial
      · exact Ev.step' (f := fun _ => some true) (fun k => by simp only [spec_l2Sample.l0, if_neg (Int.lt_irrefl _)]) (Ev.now _)
      · have c1 : (i : Int) < (P.length : Int) := by omega
        have c0 : 0 ≤ (i : Int) := by omega
        have cp : 0 < (P.length : Int) := by omega
        rw [List.all_cons]
        unfold ptB
        refine Ev.step' (f := fun k => (spec_l2Point.f k x).bind fun t => if t = true then (if (x.length : Int) = ((P.getD 0 []).length : Int) then spec_l2Sample.l0 k ((i + 1 : Nat) : Int) P L else some false) else some false) (fun k => by simp only [spec_l2Sample.l0, if_pos c1, if_pos c0, if_pos cp, rdL1_nat, hx, wrap_succ hi2 h'] <;> rfl) ?_
        refine Ev.bind (spec_l2Point_ev x (hi x hm)) ?_
        cases pointB x with
        | false => exact Ev.now _
        | true =>
         simp only [if_true, Bool.true_and]
         by_cases c5 : x.length = (P.getD 0 []).length
         · rw [decide_eq_true c5, Bool.true_and]
           simp only [if_pos (show (x.length : Int) = ((P.getD 0 []).length : Int) by omega)]
           exact ih () trivial
         · rw [decide_eq_false c5, Bool.false_and]
           simp only [if_neg (show ¬ (x.length : Int) = ((P.getD 0 []).length : Int) by omega)]
           exact Ev.now _
   · rw [decide_eq_false c2, Bool.false_and]
     simp only [if_neg (show ¬ (L.length : Int) = (P.length : Int) by omega)]
     exact no
 · rw [decide_eq_false c, Bool.false_and]
   simp only [if_pos (show (P.length : Int) > 16 by omega)]
   exact no
theorem spec_l8Some_ev (P : List (List Int)) (L : List Int) (h : P.length ≤ maxLen) (hi : ∀ x ∈ P, x.length ≤ maxLen) (hL : L.length ≤ maxLen) : Ev (fun k => spec_l8Some.f k P L) (someB P L) := by
 refine Ev.bind (spec_l2Sample_ev P L h hi hL) ?_
 unfold someB
 cases sampleB P L with
 | false => simp only [Bool.false_eq_true, if_false, Bool.false_and]; exact Ev.now _
 | true =>
  simp only [if_true, Bool.true_and]
  rw [show decide ((P.length : Int) > 0) = decide (0 < P.length) from decide_eq_decide.2 (by omega)]
  exact Ev.now _
def putM (a : Int) : List Int → List Int
 | [] => [a]
 | y :: ys => if y < a then y :: putM a ys else if y = a then y :: ys else a :: y :: ys
theorem spec_l1Put_ev (l : List Int) (a : Int) (h : l.length ≤ 1000000) : Ev (fun k => spec_l1Put.f k l a) (putM a l) := by
 have key : ∀ (d i : Nat), i + d = l.length → Ev (fun k => spec_l1Put.l0 k l a i) (l.take i ++ putM a (l.drop i)) := by
  intro d
  induction d with
  | zero =>
   intro i hi
   obtain rfl : i = l.length := by omega
   have c0 : 0 ≤ (l.length : Int) := by omega
   refine ev_eq (Ev.step' (f := fun _ => some (([] ++ l.take l.length) ++ [a] ++ l.drop l.length)) (fun k => ?_) (Ev.now _)) ?_
   · have c1 : ([] : List Int).length + (l.take l.length).length < 17592186044416 := by simp; omega
     have c2 : (([] : List Int) ++ l.take l.length).length + [a].length < 17592186044416 := by simp; omega
     have c3 : ((([] : List Int) ++ l.take l.length) ++ [a]).length + (l.drop l.length).length < 17592186044416 := by simp; omega
     simp only [spec_l1Put.l0, if_neg (Int.lt_irrefl _), Option.bind_some, if_pos c0, if_pos (Int.le_refl _), Int.toNat_natCast, if_pos c1, if_pos c2, if_pos c3]
   · simp [putM]
  | succ d ih =>
   intro i hi
   have hil : i < l.length := by omega
   have c0 : 0 ≤ (i : Int) := by omega
   have c1 : (i : Int) < (l.length : Int) := by omega
   have c2 : (i : Int) ≤ (l.length : Int) := by omega
   have hd : l.drop i = l.getD i 0 :: l.drop (i + 1) := by rw [List.drop_eq_getElem_cons hil]; simp [List.getD_eq_getElem?_getD, List.getElem?_eq_getElem hil]
   have ht : l.take (i + 1) = l.take i ++ [l.getD i 0] := by rw [List.take_succ_eq_append_getElem hil]; simp [List.getD_eq_getElem?_getD, List.getElem?_eq_getElem hil]
   by_cases e1 : l.getD i 0 < a
   · refine ev_eq (Ev.step' (f := fun k => spec_l1Put.l0 k l a ((i + 1 : Nat) : Int)) (fun k => ?_) (ih (i + 1) (by omega))) ?_
     · simp only [spec_l1Put.l0, if_pos c1, if_pos c0, rd_nat, if_pos e1, wrap_succ hil (by omega : l.length ≤ 9223372036854775807)]
     · rw [hd, ht, putM, if_pos e1, List.append_assoc]; rfl
   · by_cases e2 : l.getD i 0 = a
     · refine ev_eq (Ev.step' (f := fun _ => some l) (fun k => ?_) (Ev.now _)) ?_
       · simp only [spec_l1Put.l0, if_pos c1, if_pos c0, rd_nat, if_neg e1, if_pos e2]
       · rw [hd, putM, if_neg e1, if_pos e2, ← hd, List.take_append_drop]
     · refine ev_eq (Ev.step' (f := fun _ => some (([] ++ l.take i) ++ [a] ++ l.drop i)) (fun k => ?_) (Ev.now _)) ?_
       · have c3 : ([] : List Int).length + (l.take i).length < 17592186044416 := by simp; omega
         have c4 : (([] : List Int) ++ l.take i).length + [a].length < 17592186044416 := by simp; omega
         have c5 : ((([] : List Int) ++ l.take i) ++ [a]).length + (l.drop i).length < 17592186044416 := by simp; omega
         simp only [spec_l1Put.l0, if_pos c1, if_pos c0, rd_nat, if_neg e1, if_neg e2, Option.bind_some, if_pos c2, Int.toNat_natCast, if_pos c3, if_pos c4, if_pos c5]
       · rw [hd, putM, if_neg e1, if_neg e2]; simp
 exact key l.length 0 (by omega)
def SI (l : List Int) : Prop := l.Pairwise (· < ·)
theorem putM_mem (a x : Int) : ∀ l : List Int, x ∈ putM a l ↔ x = a ∨ x ∈ l
 | [] => by simp [putM]
 | y :: ys => by
  unfold putM
  split
  · rw [List.mem_cons, putM_mem a x ys, List.mem_cons]; constructor <;> (intro h; rcases h with h | h | h <;> simp [h])
  · split
    · next e => subst e; simp
    · simp
theorem putM_si (a : Int) : ∀ l : List Int, SI l → SI (putM a l)
 | [], _ => by simp [putM, SI]
 | y :: ys, h => by
  have hp := List.pairwise_cons.1 h
  unfold putM
  split
  · next c =>
    refine List.pairwise_cons.2 ⟨fun z hz => ?_, putM_si a ys hp.2⟩
    rcases (putM_mem a z ys).1 hz with rfl | hz
    · exact c
    · exact hp.1 z hz
  · split
    · exact h
    · refine List.pairwise_cons.2 ⟨fun z hz => ?_, h⟩
      rcases List.mem_cons.1 hz with rfl | hz
      · omega
      · have := hp.1 z hz; omega
theorem si_ext : ∀ (a b : List Int), SI a → SI b → (∀ x, x ∈ a ↔ x ∈ b) → a = b
 | [], [], _, _, _ => rfl
 | [], y :: ys, _, _, h => absurd ((h y).2 List.mem_cons_self) (by simp)
 | x :: xs, [], _, _, h => absurd ((h x).1 List.mem_cons_self) (by simp)
 | x :: xs, y :: ys, ha, hb, h => by
  have pa := List.pairwise_cons.1 ha
  have pb := List.pairwise_cons.1 hb
  have e : x = y := by
   rcases List.mem_cons.1 ((h x).1 List.mem_cons_self) with e | e
   · exact e
   · rcases List.mem_cons.1 ((h y).2 List.mem_cons_self) with e2 | e2
     · exact e2.symm
     · have := pb.1 x e; have := pa.1 y e2; omega
  subst e
  rw [si_ext xs ys pa.2 pb.2 (fun z => ⟨fun hz => ?_, fun hz => ?_⟩)]
  · rcases List.mem_cons.1 ((h z).1 (List.mem_cons_of_mem _ hz)) with e | e
    · subst e; exact absurd (pa.1 z hz) (Int.lt_irrefl _)
    · exact e
  · rcases List.mem_cons.1 ((h z).2 (List.mem_cons_of_mem _ hz)) with e | e
    · subst e; exact absurd (pb.1 z hz) (Int.lt_irrefl _)
    · exact e
theorem putM_len (a : Int) : ∀ l : List Int, (putM a l).length ≤ l.length + 1
 | [] => by simp [putM]
 | y :: ys => by
  have := putM_len a ys
  unfold putM
  split
  · simp only [List.length_cons]; omega
  · split <;> simp
def unitM (n p : Nat) (w : Int) : List Int := (List.replicate n (0 : Int)).set p w
theorem spec_l8Unit_eq (n p : Nat) (w : Int) (hp : p < n) (hn : n ≤ 1000) : spec_l8Unit.f (n : Int) (p : Int) w = some (unitM n p w) := by
 have c0 : 0 ≤ (n : Int) := by omega
 have c1 : n ≤ 35184372088832 := by omega
 have c2 : 0 ≤ (p : Int) := by omega
 have c3 : (p : Int) < ((List.replicate n (0 : Int)).length : Int) := by rw [List.length_replicate]; omega
 simp only [spec_l8Unit.f, if_pos c0, Int.toNat_natCast, if_pos c1, Option.bind_some, if_pos c2, if_pos c3, unitM]
def putsM (P : List (List Int)) (p : Nat) (w : Int) : List Int := P.foldl (fun b x => putM (w * x.getD p 0) b) []
def lastM (b : List Int) : Int := b.getD (b.length - 1) 0
def bndM (P : List (List Int)) (p : Nat) (w : Int) : List Int := putsM P p w ++ [lastM (putsM P p w) + 1]
def oneM (P : List (List Int)) (n p : Nat) (w : Int) : List S39 := (bndM P p w).map fun b => ⟨unitM n p w, b⟩
def bothM (P : List (List Int)) (n p : Nat) : List S39 := oneM P n p 1 ++ oneM P n p (-1)
def stumpsL (P : List (List Int)) : List S39 := (List.range (P.getD 0 []).length).foldl (fun s p => s ++ bothM P (P.getD 0 []).length p) []
theorem puts_mem (p : Nat) (w z : Int) : ∀ (P : List (List Int)) (b : List Int), z ∈ P.foldl (fun b x => putM (w * x.getD p 0) b) b ↔ z ∈ b ∨ ∃ x ∈ P, z = w * x.getD p 0
 | [], b => by simp
 | x :: P, b => by
  rw [List.foldl_cons, puts_mem p w z P, putM_mem]
  constructor
  · rintro ((h | h) | ⟨y, hy, h⟩)
    · exact .inr ⟨x, List.mem_cons_self, h⟩
    · exact .inl h
    · exact .inr ⟨y, List.mem_cons_of_mem _ hy, h⟩
  · rintro (h | ⟨y, hy, h⟩)
    · exact .inl (.inr h)
    · rcases List.mem_cons.1 hy with rfl | hy
      · exact .inl (.inl h)
      · exact .inr ⟨y, hy, h⟩
theorem puts_si (p : Nat) (w : Int) : ∀ (P : List (List Int)) (b : List Int), SI b → SI (P.foldl (fun b x => putM (w * x.getD p 0) b) b)
 | [], b, h => h
 | x :: P, b, h => by rw [List.foldl_cons]; exact puts_si p w P _ (putM_si _ _ h)
theorem puts_len (p : Nat) (w : Int) : ∀ (P : List (List Int)) (b : List Int), (P.foldl (fun b x => putM (w * x.getD p 0) b) b).length ≤ b.length + P.length
 | [], b => by simp
 | x :: P, b => by
  have := puts_len p w P (putM (w * x.getD p 0) b)
  have := putM_len (w * x.getD p 0) b
  rw [List.foldl_cons, List.length_cons]; omega
theorem puts_ne {P : List (List Int)} (hP : 0 < P.length) (p : Nat) (w : Int) : 0 < (putsM P p w).length := by
 have h : w * (P.getD 0 []).getD p 0 ∈ putsM P p w := (puts_mem p w _ P []).2 (.inr ⟨_, getD_mem hP [], rfl⟩)
 exact List.length_pos_of_mem h
theorem last_mem {b : List Int} (h : 0 < b.length) : lastM b ∈ b := getD_mem (by omega) 0
theorem last_le {b : List Int} (h : SI b) {z : Int} (hz : z ∈ b) : z ≤ lastM b := by
 obtain ⟨i, hi, rfl⟩ := List.mem_iff_getElem.1 hz
 unfold lastM
 rw [List.getD_eq_getElem?_getD, List.getElem?_eq_getElem (by omega), Option.getD_some]
 by_cases e : i = b.length - 1
 · subst e; exact Int.le_refl _
 · exact Int.le_of_lt (List.pairwise_iff_getElem.1 h i (b.length - 1) hi (by omega) (by omega))
theorem bnd_si (P : List (List Int)) (p : Nat) (w : Int) : SI (bndM P p w) := by
 have h := puts_si p w P [] (by simp [SI])
 refine List.pairwise_append.2 ⟨h, by simp, fun a ha b hb => ?_⟩
 rw [List.mem_singleton.1 hb]
 have := last_le h ha
 unfold putsM; omega
theorem bnd_len (P : List (List Int)) (p : Nat) (w : Int) : (bndM P p w).length ≤ P.length + 1 := by
 have := puts_len p w P []
 unfold bndM putsM
 rw [List.length_append]
 simp at this ⊢; omega
theorem one_len (P : List (List Int)) (n p : Nat) (w : Int) : (oneM P n p w).length ≤ P.length + 1 := by unfold oneM; rw [List.length_map]; exact bnd_len P p w
theorem mul_sgn {w x : Int} (hw : w = 1 ∨ w = -1) (hx : -9 ≤ x ∧ x ≤ 9) : -9 ≤ w * x ∧ w * x ≤ 9 := by rcases hw with rfl | rfl <;> omega
theorem sample_pt {P : List (List Int)} {L : List Int} (h : sampleB P L = true) {x : List Int} (hx : x ∈ P) (p : Nat) : -9 ≤ x.getD p 0 ∧ x.getD p 0 ≤ 9 := by
 by_cases c : p < x.length
 · exact point_near ((sample_tell h).2.2.2 x hx).1 _ (getD_mem c 0)
 · rw [List.getD_eq_getElem?_getD, List.getElem?_eq_none (by omega)]; exact ⟨by decide, by decide⟩
theorem puts_near {P : List (List Int)} {L : List Int} (h : sampleB P L = true) {w : Int} (hw : w = 1 ∨ w = -1) (p : Nat) {z : Int} (hz : z ∈ putsM P p w) : -9 ≤ z ∧ z ≤ 9 := by
 rcases (puts_mem p w z P []).1 hz with h0 | ⟨x, hx, rfl⟩
 · cases h0
 · exact mul_sgn hw (sample_pt h hx p)
theorem spec_stumps_one {P : List (List Int)} {L : List Int} (h : sampleB P L = true) (hP : 0 < P.length) (s : List S39) (hs : s.length ≤ 100000) (p : Nat) (hp : p < (P.getD 0 []).length) (w : Int) (hw : w = 1 ∨ w = -1) :
 To (fun k => spec_l8Stumps.l1 k s ((P.getD 0 []).length : Int) p w P L) (fun k => spec_l8Stumps.l1 k (s ++ oneM P (P.getD 0 []).length p w) ((P.getD 0 []).length : Int) p (wrap64 (w - 2)) P L) := by
 have ht := sample_tell h
 have h16 := ht.1
 have hn4 := point_len (ht.2.2.2 _ (getD_mem hP [])).1
 have cw : w ≥ -1 := by omega
 have cp0 : 0 ≤ (p : Int) := by omega
 refine (To.step (f := fun k => spec_l8Stumps.l2 k s ((P.getD 0 []).length : Int) p w [] 0 P L) (fun k => by simp only [spec_l8Stumps.l1, if_pos cw])).trans ?_
 have hf := to_fold (L := fun i (b : List Int) k => spec_l8Stumps.l2 k s ((P.getD 0 []).length : Int) p w b i P L) (n := P.length) (f := fun i b => putM (w * (P.getD i []).getD p 0) b) (fun i b => b.length ≤ i) (fun i b hi hb => ⟨?_, by have := putM_len (w * (P.getD i []).getD p 0) b; omega⟩) [] (by simp)
 · refine hf.1.trans ?_
   rw [range_fold P (fun b x => putM (w * x.getD p 0) b) [] []]
   show To (fun k => spec_l8Stumps.l2 k s ((P.getD 0 []).length : Int) p w (putsM P p w) (P.length : Int) P L) _
   have hne := puts_ne hP p w
   have hle : (putsM P p w).length ≤ 16 := by have := puts_len p w P []; unfold putsM; simp only [List.length_nil, Nat.zero_add] at this; omega
   have e1 : wrap64 (((putsM P p w).length : Int) - 1) = (((putsM P p w).length - 1 : Nat) : Int) := by rw [wrap_id (by omega) (by omega)]; omega
   have hl9 := puts_near h hw p (last_mem hne)
   have e2 : wrap64 (lastM (putsM P p w) + 1) = lastM (putsM P p w) + 1 := wrap_id (by omega) (by omega)
   have c1 : 0 ≤ (((putsM P p w).length - 1 : Nat) : Int) := by omega
   have c2 : (((putsM P p w).length - 1 : Nat) : Int) < ((putsM P p w).length : Int) := by omega
   have c3 : (putsM P p w).length < 17592186044416 := by omega
   refine (To.step (f := fun k => spec_l8Stumps.l3 k s ((P.getD 0 []).length : Int) p w (bndM P p w) 0 P L) (fun k => by simp only [spec_l8Stumps.l2, if_neg (Int.lt_irrefl _), e1, if_pos c1, if_pos c2, if_pos c3, rd_nat]; rw [show (putsM P p w).getD ((putsM P p w).length - 1) 0 = lastM (putsM P p w) from rfl, e2]; rfl)).trans ?_
   have hbl := bnd_len P p w
   have hg := to_fold (L := fun i (t : List S39) k => spec_l8Stumps.l3 k t ((P.getD 0 []).length : Int) p w (bndM P p w) i P L) (n := (bndM P p w).length) (f := fun i t => t ++ [⟨unitM (P.getD 0 []).length p w, (bndM P p w).getD i 0⟩]) (fun i t => t.length = s.length + i) (fun i t hi ht => ⟨?_, by simp [ht]; omega⟩) s (by simp)
   · refine hg.1.trans (To.step fun k => ?_)
     rw [fold_append, range_map (bndM P p w) (fun b => (⟨unitM (P.getD 0 []).length p w, b⟩ : S39)) 0]
     simp only [spec_l8Stumps.l3, if_neg (Int.lt_irrefl _)]
     rfl
   · have c4 : (i : Int) < ((bndM P p w).length : Int) := by omega
     have c5 : 0 ≤ (i : Int) := by omega
     have c6 : t.length < 4398046511104 := by omega
     exact To.step fun k => by simp only [spec_l8Stumps.l3, if_pos c4, spec_l8Unit_eq _ p w hp (by omega), Option.bind_some, if_pos c5, if_pos c6, rd_nat, wrap_succ hi (by omega : (bndM P p w).length ≤ 9223372036854775807)]
 · have c1 : (i : Int) < (P.length : Int) := by omega
   have c0 : 0 ≤ (i : Int) := by omega
   have hx := getD_mem hi ([] : List Int)
   have c3 : (p : Int) < ((P.getD i []).length : Int) := by rw [(ht.2.2.2 _ hx).2]; omega
   have hv := mul_sgn hw (sample_pt h hx p)
   have e : wrap64 (w * (P.getD i []).getD p 0) = w * (P.getD i []).getD p 0 := wrap_id (by omega) (by omega)
   refine (To.step (f := fun k => (spec_l1Put.f k b (w * (P.getD i []).getD p 0)).bind fun t => spec_l8Stumps.l2 k s ((P.getD 0 []).length : Int) p w t ((i + 1 : Nat) : Int) P L) (fun k => by simp only [spec_l8Stumps.l2, if_pos c1, if_pos c0, if_pos cp0, rdL1_nat, if_pos c3, rd_nat, e, wrap_succ hi (by omega : P.length ≤ 9223372036854775807)])).trans ?_
   exact To.bind (spec_l1Put_ev b _ (by omega))
theorem both_len (P : List (List Int)) (n p : Nat) : (bothM P n p).length ≤ 2 * (P.length + 1) := by
 have := one_len P n p 1
 have := one_len P n p (-1)
 unfold bothM; rw [List.length_append]; omega
theorem spec_l8Stumps_ev {P : List (List Int)} {L : List Int} (h : sampleB P L = true) (hP : 0 < P.length) : Ev (fun k => spec_l8Stumps.f k P L) (stumpsL P) := by
 have ht := sample_tell h
 have h16 := ht.1
 have hn4 := point_len (ht.2.2.2 _ (getD_mem hP [])).1
 have c0 : 0 < (P.length : Int) := by omega
 have e0 : (0 : Int) = ((0 : Nat) : Int) := rfl
 refine Ev.congr (f := fun k => spec_l8Stumps.l0 k [] ((P.getD 0 []).length : Int) 0 P L) (fun k => by simp only [spec_l8Stumps.f, if_pos c0]; rw [e0]; simp only [rdL1_nat]) ?_
 have hf := to_fold (L := fun i (s : List S39) k => spec_l8Stumps.l0 k s ((P.getD 0 []).length : Int) i P L) (n := (P.getD 0 []).length) (f := fun i s => s ++ bothM P (P.getD 0 []).length i) (fun i s => s.length ≤ i * 34) (fun i s hi hs => ⟨?_, by have := both_len P (P.getD 0 []).length i; rw [List.length_append]; omega⟩) [] (by simp)
 · exact hf.1 _ (Ev.step' (f := fun _ => some (stumpsL P)) (fun k => by simp only [spec_l8Stumps.l0, if_neg (Int.lt_irrefl _)]; rfl) (Ev.now _))
 · have c1 : (i : Int) < ((P.getD 0 []).length : Int) := by omega
   have h1 := one_len P (P.getD 0 []).length i 1
   refine (To.step (f := fun k => spec_l8Stumps.l1 k s ((P.getD 0 []).length : Int) i 1 P L) (fun k => by simp only [spec_l8Stumps.l0, if_pos c1])).trans ?_
   refine (spec_stumps_one h hP s (by omega) i hi 1 (.inl rfl)).trans ?_
   rw [show wrap64 (1 - 2) = -1 from by unfold wrap64; omega]
   refine (spec_stumps_one h hP (s ++ oneM P (P.getD 0 []).length i 1) (by rw [List.length_append]; omega) i hi (-1) (.inr rfl)).trans (To.step fun k => ?_)
   have c2 : ¬ (wrap64 (-1 - 2) ≥ -1) := by unfold wrap64; omega
   simp only [spec_l8Stumps.l1, if_neg c2, wrap_succ hi (by omega : (P.getD 0 []).length ≤ 9223372036854775807)]
   rw [List.append_assoc]
   rfl
theorem fold_flat {α : Type} (g : Nat → List α) (n : Nat) : (List.range n).foldl (fun s p => s ++ g p) [] = (List.range n).flatMap g := by
 induction n with
 | zero => rfl
 | succ n ih => rw [List.range_succ, List.foldl_append, ih, List.flatMap_append]; simp
theorem flat_len {α : Type} (g : Nat → List α) (b : Nat) : ∀ n, (∀ i, i < n → (g i).length ≤ b) → ((List.range n).flatMap g).length ≤ n * b
 | 0, _ => by simp
 | n + 1, h => by
  have := flat_len g b n (fun i hi => h i (by omega))
  have h2 := h n (by omega)
  rw [List.range_succ, List.flatMap_append, List.length_append, Nat.succ_mul]
  simp only [List.flatMap_cons, List.flatMap_nil, List.append_nil]
  omega
theorem sumN_bd {α : Type} (g : α → Nat) (b : Nat) : ∀ (xs : List α), (∀ x ∈ xs, g x ≤ b) → sumN g xs ≤ xs.length * b
 | [], _ => by simp [sumN]
 | x :: xs, h => by
  have := sumN_bd g b xs (fun y hy => h y (List.mem_cons_of_mem _ hy))
  have h2 := h x List.mem_cons_self
  simp only [sumN, List.length_cons, Nat.succ_mul]
  omega
theorem stumps_mem {P : List (List Int)} {x : S39} : x ∈ stumpsL P ↔ ∃ p, p < (P.getD 0 []).length ∧ (x ∈ oneM P (P.getD 0 []).length p 1 ∨ x ∈ oneM P (P.getD 0 []).length p (-1)) := by
 unfold stumpsL
 rw [fold_flat, List.mem_flatMap]
 simp only [List.mem_range, bothM, List.mem_append]
theorem stumps_small {P : List (List Int)} {L : List Int} (h : sampleB P L = true) (hP : 0 < P.length) : (stumpsL P).length ≤ 136 ∧ ∀ x ∈ stumpsL P, x.f0.length ≤ 4 := by
 have ht := sample_tell h
 have hn4 := point_len (ht.2.2.2 _ (getD_mem hP [])).1
 refine ⟨?_, fun x hx => ?_⟩
 · unfold stumpsL
   rw [fold_flat]
   have := flat_len (bothM P (P.getD 0 []).length) 34 (P.getD 0 []).length (fun i _ => by have := both_len P (P.getD 0 []).length i; have := ht.1; omega)
   omega
 · obtain ⟨p, hp, hx⟩ := stumps_mem.1 hx
   rcases hx with hx | hx <;> (obtain ⟨b, _, rfl⟩ := List.mem_map.1 hx; show (unitM _ _ _).length ≤ 4; rw [unitM, List.length_set, List.length_replicate]; omega)
theorem spec_l2Dot_ev (a b : List Int) (h : a.length ≤ maxLen) (hb : a.length ≤ b.length) : Ev (fun k => spec_l2Dot.f k a b) (dotW a b) := by
 unfold maxLen at h
 have hf := to_fold (L := fun i (s : Int) k => spec_l2Dot.l0 k a b s i) (n := a.length) (f := fun i s => wrap64 (s + wrap64 (a.getD i 0 * b.getD i 0))) (fun _ _ => True) (fun i s hi _ => ⟨To.step fun k => ?_, trivial⟩) 0 trivial
 · refine hf.1 _ (Ev.step' (f := fun _ => some _) (fun k => ?_) (Ev.now _))
   simp only [spec_l2Dot.l0, if_neg (Int.lt_irrefl _)]; rfl
 · have c1 : (i : Int) < (a.length : Int) := by omega
   have c2 : (i : Int) < (b.length : Int) := by omega
   have c3 : 0 ≤ (i : Int) := by omega
   simp only [spec_l2Dot.l0, if_pos c1, if_pos c2, if_pos c3, rd_nat, wrap_succ hi h]
theorem spec_l2Side_ev (w : List Int) (b : Int) (x : List Int) (hw : w.length ≤ maxLen) (hx : w.length ≤ x.length) : Ev (fun k => spec_l2Side.f k w b x) (sideW w b x) := by
 refine Ev.bind (spec_l2Dot_ev w x hw hx) ?_
 unfold sideW
 by_cases c : dotW w x ≥ b
 · simp only [if_pos c]; exact Ev.now _
 · simp only [if_neg c]; exact Ev.now _
def votesM (w : List S39) (x : List Int) : Int := if w.foldl (fun s y => wrap64 (s + sideW y.f0 y.f1 x)) 0 ≥ 0 then 1 else -1
theorem spec_l8Side_ev (w : List S39) (x : List Int) (h : w.length ≤ maxLen) (hi : ∀ y ∈ w, y.f0.length ≤ maxLen ∧ y.f0.length ≤ x.length) : Ev (fun k => spec_l8Side.f k w x) (votesM w x) := by
 have h' : w.length ≤ 9223372036854775807 := h
 refine ev_list z39 w (fun i (s : Int) k => spec_l8Side.l0 k w x s i) (fun _ ys s => if ys.foldl (fun s y => wrap64 (s + sideW y.f0 y.f1 x)) s ≥ 0 then (1 : Int) else -1) (fun _ _ => True) (fun s _ => ?_) (fun i y ys s hi2 hx hm _ ih => ?_) 0 trivial
 · refine Ev.step' (f := fun _ => if s ≥ 0 then some (1 : Int) else some (-1)) (fun k => by simp only [spec_l8Side.l0, if_neg (Int.lt_irrefl _)]) ?_
   rw [List.foldl_nil]
   by_cases c : s ≥ 0
   · simp only [if_pos c]; exact Ev.now _
   · simp only [if_neg c]; exact Ev.now _
 · have c1 : (i : Int) < (w.length : Int) := by omega
   have c0 : 0 ≤ (i : Int) := by omega
   refine Ev.step' (f := fun k => (spec_l2Side.f k y.f0 y.f1 x).bind fun t => spec_l8Side.l0 k w x (wrap64 (s + t)) ((i + 1 : Nat) : Int)) (fun k => by simp only [spec_l8Side.l0, if_pos c1, if_pos c0, rdT39_nat, hx, wrap_succ hi2 h']) (Ev.bind (spec_l2Side_ev y.f0 y.f1 x (hi y hm).1 (hi y hm).2) ?_)
   rw [List.foldl_cons]
   exact ih _ trivial
def wrongL (P : List (List Int)) (L : List Int) (w : List S39) : List Int := (List.range P.length).foldl (fun s (i : Nat) => if votesM w (P.getD i []) = L.getD i 0 then s else s ++ [(i : Int)]) []
theorem spec_l8Wrong_ev {P : List (List Int)} {L : List Int} {w : List S39} (hP : P.length ≤ 1000) (hL : L.length = P.length) (hw : w.length ≤ 1000) (hi : ∀ y ∈ w, y.f0.length ≤ 1000 ∧ ∀ x ∈ P, y.f0.length ≤ x.length) : Ev (fun k => spec_l8Wrong.f k P L w) (wrongL P L w) := by
 have hf := to_fold (L := fun i (s : List Int) k => spec_l8Wrong.l0 k w s i P L) (n := P.length) (f := fun i s => if votesM w (P.getD i []) = L.getD i 0 then s else s ++ [(i : Int)]) (fun i s => s.length ≤ i) (fun i s hi2 hs => ⟨?_, ?_⟩) [] (by simp)
 · exact hf.1 _ (Ev.step' (f := fun _ => some (wrongL P L w)) (fun k => by simp only [spec_l8Wrong.l0, if_neg (Int.lt_irrefl _)]; rfl) (Ev.now _))
 · have c1 : (i : Int) < (P.length : Int) := by omega
   have c0 : 0 ≤ (i : Int) := by omega
   have c2 : (i : Int) < (L.length : Int) := by omega
   have c3 : s.length < 17592186044416 := by omega
   have ws := wrap_succ hi2 (by omega : P.length ≤ 9223372036854775807)
   refine (To.step (f := fun k => (spec_l8Side.f k w (P.getD i [])).bind fun t => if t = L.getD i 0 then spec_l8Wrong.l0 k w s ((i + 1 : Nat) : Int) P L else spec_l8Wrong.l0 k w (s ++ [(i : Int)]) ((i + 1 : Nat) : Int) P L) (fun k => by simp only [spec_l8Wrong.l0, if_pos c1, if_pos c0, rdL1_nat, if_pos c2, rd_nat, if_pos c3, ws])).trans ((To.bind (spec_l8Side_ev w _ (by unfold maxLen; omega) (fun y hy => ⟨by have := (hi y hy).1; unfold maxLen; omega, (hi y hy).2 _ (getD_mem hi2 [])⟩))).trans (To.congr fun k => ?_))
   by_cases c : votesM w (P.getD i []) = L.getD i 0
   · simp only [if_pos c]
   · simp only [if_neg c]
 · show (if votesM w (P.getD i []) = L.getD i 0 then s else s ++ [(i : Int)]).length ≤ i + 1
   split
   · omega
   · rw [List.length_append, List.length_singleton]; omega
theorem spec_l1Own_eq (l : List Int) (h : l.length ≤ 1000) : spec_l1Own.f l = some l := by
 have c : ([] : List Int).length + l.length < 17592186044416 := by rw [List.length_nil]; omega
 simp only [spec_l1Own.f, Option.bind_some, if_pos c, List.nil_append]
def plS (S : List S39) (s : List Int) : List S39 := s.map fun j => S.getD j.toNat z39
theorem plS_app (S : List S39) (s : List Int) (x : Nat) : plS S (s ++ [(x : Int)]) = plS S s ++ [S.getD x z39] := by simp [plS]
theorem plS_len (S : List S39) (s : List Int) : (plS S s).length = s.length := List.length_map _
def keepS (P : List (List Int)) (L : List Int) (S : List S39) (t : List Int) : Bool := decide (((wrongL P L (plS S t)).length : Int) = 0)
def outS (S : List S39) (o : Option (List Int)) : List S39 := match o with | some t => plS S t | none => []
theorem spec_l8Fitting_ev {P : List (List Int)} {L : List Int} {S : List S39} {kk : Nat} (hP : P.length ≤ 1000) (hL : L.length = P.length) (hS : S.length ≤ 1000) (hk1 : 1 ≤ kk) (hk : kk ≤ 100) (hw : ∀ y ∈ S, y.f0.length ≤ 1000 ∧ ∀ x ∈ P, y.f0.length ≤ x.length) :
 ∀ (d m x : Nat) (s : List Int), s.length + d = kk → x + m = S.length → (∀ j ∈ s, 0 ≤ j ∧ j < (S.length : Int)) →
  Ev (fun k => spec_l8Fitting.f k P L S (plS S s) (x : Int) (kk : Int)) (outS S ((impl_FittingJury.seqs d m (x : Int) s).find? (keepS P L S)))
 | 0, m, x, s, h, hx, hj => by
  have c : ((plS S s).length : Int) = (kk : Int) := by rw [plS_len]; omega
  refine Ev.step' (f := fun k => (spec_l8Wrong.f k P L (plS S s)).bind fun t => if (t.length : Int) = 0 then some (plS S s) else some []) (fun k => by simp only [spec_l8Fitting.f, if_pos c]) ?_
  refine Ev.bind (spec_l8Wrong_ev hP hL (by rw [plS_len]; omega) (fun y hy => by
   obtain ⟨j, hjs, rfl⟩ := List.mem_map.1 hy
   have := hj j hjs
   exact hw _ (getD_mem (by omega) _))) ?_
  have e : (impl_FittingJury.seqs 0 m (x : Int) s).find? (keepS P L S) = if keepS P L S s = true then some s else none := by
   show [s].find? _ = _
   rw [List.find?_cons]
   cases keepS P L S s <;> simp
  rw [e]
  unfold keepS
  by_cases z : ((wrongL P L (plS S s)).length : Int) = 0
  · simp only [if_pos z, decide_eq_true z, if_true, outS]; exact Ev.now _
  · simp only [if_neg z, decide_eq_false z, Bool.false_eq_true, if_false, outS]; exact Ev.now _
 | d + 1, M, X, s, h, hX, hj => by
  have c : ¬ ((plS S s).length : Int) = (kk : Int) := by rw [plS_len]; omega
  have key : ∀ (m x : Nat), x + m = S.length → Ev (fun k => spec_l8Fitting.l0 k S (plS S s) (kk : Int) (x : Int) P L) (outS S ((impl_FittingJury.seqs (d + 1) m (x : Int) s).find? (keepS P L S))) := by
   intro m
   induction m with
   | zero =>
    intro x hx
    have c1 : ¬ (x : Int) < (S.length : Int) := by omega
    exact Ev.step' (f := fun _ => some []) (fun k => by simp only [spec_l8Fitting.l0, if_neg c1]) (Ev.now _)
   | succ m ih =>
    intro x hx
    have c1 : (x : Int) < (S.length : Int) := by omega
    have c0 : 0 ≤ (x : Int) := by omega
    have hsx := hw _ (getD_mem (show x < S.length by omega) z39)
    have c2 : ([] : List S39).length + (plS S s).length < 4398046511104 := by rw [plS_len, List.length_nil]; omega
    have c3 : (plS S s).length < 4398046511104 := by rw [plS_len]; omega
    have hi := spec_l8Fitting_ev hP hL hS hk1 hk hw d (m + 1) x (s ++ [(x : Int)]) (by rw [List.length_append, List.length_singleton]; omega) (by omega) (fun j hjs => by
     rcases List.mem_append.1 hjs with h | h
     · exact hj j h
     · rw [List.mem_singleton.1 h]; omega)
    rw [plS_app] at hi
    rw [impl_FittingJury.seqs_succ, List.find?_append]
    refine Ev.step' (f := fun k => (spec_l8Fitting.f k P L S (plS S s ++ [S.getD x z39]) (x : Int) (kk : Int)).bind fun t => if (t.length : Int) > 0 then some t else spec_l8Fitting.l0 k S (plS S s) (kk : Int) ((x + 1 : Nat) : Int) P L) (fun k => by
     have eo : spec_l8Own.f (S.getD x z39).f0 (S.getD x z39).f1 = some ((S.getD x z39).f0, (S.getD x z39).f1) := by simp only [spec_l8Own.f, spec_l1Own_eq _ hsx.1, Option.bind_some]
     simp only [spec_l8Fitting.l0, if_pos c1, Option.bind_some, if_pos c2, if_pos c0, rdT39_nat, eo, List.nil_append, if_pos c3, wrap_succ (show x < S.length by omega) (by omega : S.length ≤ 9223372036854775807)]; try rfl) ?_
    refine Ev.bind hi ?_
    cases hf : (impl_FittingJury.seqs d (m + 1) (x : Int) (s ++ [(x : Int)])).find? (keepS P L S) with
    | some t =>
     have ht := impl_FittingJury.seqs_len _ _ _ _ _ (List.mem_of_find?_eq_some hf)
     have hp : ((plS S t).length : Int) > 0 := by rw [plS_len, ht, List.length_append, List.length_singleton]; omega
     simp only [outS, Option.some_or]
     exact Ev.congr (f := fun _ => some (plS S t)) (fun k => if_pos hp) (Ev.now _)
    | none =>
     have hz : ¬ ((([] : List S39).length : Int) > 0) := by decide
     have ei : ((x : Int) + 1) = ((x + 1 : Nat) : Int) := by omega
     simp only [outS, if_neg hz, Option.none_or, ei]
     exact ih (x + 1) (by omega)
  exact Ev.step' (f := fun k => spec_l8Fitting.l0 k S (plS S s) (kk : Int) (X : Int) P L) (fun k => by simp only [spec_l8Fitting.f, if_neg c]) (key M X hX)
theorem impl_copied_eq (l : List Int) (h : l.length ≤ 1000) : impl_copied.f l = some l := by
 have c : ([] : List Int).length + l.length < 17592186044416 := by rw [List.length_nil]; omega
 simp only [impl_copied.f, Option.bind_some, if_pos c, List.nil_append]
theorem impl_within_eq (x a b : Int) : impl_within.f x a b = some (inR a b x) := in_tells a b x
theorem impl_allWithin_ev (l : List Int) (a b : Int) (h : l.length ≤ maxLen) : Ev (fun k => impl_allWithin.f k l a b) (l.all (inR a b)) := by
 unfold maxLen at h
 rw [← range_all l (inR a b) 0]
 refine ev_all (L := fun i k => impl_allWithin.l0 k a b l (l.length : Int) i) (fun i hi hp => To.step fun k => ?_) (fun i hi hp => Ev.step' (f := fun _ => some false) (fun k => ?_) (Ev.now _)) (Ev.step' (f := fun _ => some true) (fun k => ?_) (Ev.now _))
 · have c1 : (i : Int) < (l.length : Int) := by omega
   have c0 : 0 ≤ (i : Int) := by omega
   simp only [impl_allWithin.l0, if_pos c1, if_pos c0, impl_within_eq, rd_nat, hp, Option.bind_some, if_true, wrap_succ hi h]
 · have c1 : (i : Int) < (l.length : Int) := by omega
   have c0 : 0 ≤ (i : Int) := by omega
   simp only [impl_allWithin.l0, if_pos c1, if_pos c0, impl_within_eq, rd_nat, hp, Option.bind_some, Bool.false_eq_true, if_false]
 · simp only [impl_allWithin.l0, if_neg (Int.lt_irrefl _)]
theorem impl_IsPoint_ev (l : List Int) (h : l.length ≤ maxLen) : Ev (fun k => impl_IsPoint.f k l) (pointB l) := by
 have e : ∀ k, impl_IsPoint.f k l = if inR 1 4 l.length = true then (impl_allWithin.f k l (-9) 9).bind (fun t => some t) else some false := fun k => by simp only [impl_IsPoint.f, impl_within_eq, Option.bind_some]
 refine Ev.congr e ?_
 unfold pointB
 cases inR 1 4 l.length with
 | false => exact Ev.now _
 | true =>
  simp only [if_true, Bool.true_and]
  exact Ev.bind (impl_allWithin_ev l (-9) 9 h) (Ev.now _)
theorem impl_isLabel_eq (x : Int) : impl_isLabel.f x = some (isLab x) := by
 unfold impl_isLabel.f isLab
 by_cases e : x = 1
 · rw [if_pos e]; simp [e]
 · rw [if_neg e, decide_eq_false e, Bool.false_or]; rfl
theorem impl_IsSample_ev (P : List (List Int)) (L : List Int) (h : P.length ≤ maxLen) (hi : ∀ x ∈ P, x.length ≤ maxLen) (hL : L.length ≤ maxLen) : Ev (fun k => impl_IsSample.f k P L) (sampleB P L) := by
 have h' : P.length ≤ 9223372036854775807 := h
 have no : Ev (fun k => impl_IsSample.j0 k true P L) false := Ev.step' (f := fun _ => some false) (fun k => by simp only [impl_IsSample.j0, if_true]) (Ev.now _)
 unfold sampleB impl_IsSample.f
 by_cases c : P.length ≤ 16
 · rw [decide_eq_true c, Bool.true_and]
   simp only [if_neg (show ¬ (P.length : Int) > 16 by omega)]
   by_cases c2 : L.length = P.length
   · rw [decide_eq_true c2, Bool.true_and, show ((L.length : Int) != (P.length : Int)) = false by rw [bne_eq_false_iff_eq]; omega, Bool.and_comm]
     refine Ev.step' (f := fun k => impl_IsSample.l0 k P (P.length : Int) 0 P L) (fun k => by simp only [impl_IsSample.j0, Bool.false_eq_true, if_false]) ?_
     refine ev_list [] P (fun i (_ : Unit) k => impl_IsSample.l0 k P (P.length : Int) i P L) (fun i ys _ => ys.all (ptB P) && (L.drop i).all isLab) (fun _ _ => True) (fun _ _ => ?_) (fun i x ys _ hi2 hx hm _ ih => ?_) () trivial
     · rw [← c2, List.drop_length]
       exact Ev.step' (f := fun _ => some true) (fun k => by simp only [impl_IsSample.l0, c2, if_neg (Int.lt_irrefl _)]) (Ev.now _)
     · have c1 : (i : Int) < (P.length : Int) := by omega
       have c3 : (i : Int) < (L.length : Int) := by omega
       have c0 : 0 ≤ (i : Int) := by omega
       have cp : 0 < (P.length : Int) := by omega
       have hil : i < L.length := by omega
       rw [List.all_cons, List.drop_eq_getElem_cons hil, List.all_cons]
       unfold ptB
       refine Ev.step' (f := fun k => (impl_IsPoint.f k x).bind fun t => if t = true then (if (x.length : Int) = ((P.getD 0 []).length : Int) then (if isLab L[i] = true then impl_IsSample.l0 k P (P.length : Int) ((i + 1 : Nat) : Int) P L else some false) else some false) else some false) (fun k => by simp only [impl_IsSample.l0, if_pos c1, if_pos c0, if_pos c3, if_pos cp, rdL1_nat, rd_nat, hx, impl_isLabel_eq, Option.bind_some, wrap_succ hi2 h', List.getD_eq_getElem?_getD, List.getElem?_eq_getElem hil, Option.getD_some] <;> rfl) ?_
       refine Ev.bind (impl_IsPoint_ev x (hi x hm)) ?_
       cases pointB x with
       | false => exact Ev.now _
       | true =>
        simp only [if_true, Bool.true_and]
        by_cases c5 : x.length = (P.getD 0 []).length
        · rw [decide_eq_true c5, Bool.true_and]
          simp only [if_pos (show (x.length : Int) = ((P.getD 0 []).length : Int) by omega)]
          cases isLab L[i] with
          | false => simp only [Bool.false_and, Bool.and_false]; exact Ev.now _
          | true => simp only [if_true, Bool.true_and]; exact ih () trivial
        · rw [decide_eq_false c5, Bool.false_and, Bool.false_and]
          simp only [if_neg (show ¬ (x.length : Int) = ((P.getD 0 []).length : Int) by omega)]
          exact Ev.now _
   · rw [decide_eq_false c2, Bool.false_and, show ((L.length : Int) != (P.length : Int)) = true by rw [bne_iff_ne]; omega]
     exact no
 · rw [decide_eq_false c, Bool.false_and]
   simp only [if_pos (show (P.length : Int) > 16 by omega)]
   exact no
theorem impl_hasPoints_ev (P : List (List Int)) (L : List Int) (h : P.length ≤ maxLen) (hi : ∀ x ∈ P, x.length ≤ maxLen) (hL : L.length ≤ maxLen) : Ev (fun k => impl_hasPoints.f k P L) (someB P L) := by
 refine Ev.bind (impl_IsSample_ev P L h hi hL) ?_
 unfold someB
 cases sampleB P L with
 | false => simp only [Bool.false_eq_true, if_false, Bool.false_and]; exact Ev.now _
 | true =>
  simp only [if_true, Bool.true_and]
  rw [show decide ((P.length : Int) > 0) = decide (0 < P.length) from decide_eq_decide.2 (by omega)]
  exact Ev.now _
def sortL (l : List Int) : List Int := l.mergeSort fun x y => decide (x ≤ y)
theorem slices_Sort_int_int_eq (l : List Int) (h : l.length ≤ 1048576) : slices_Sort_int_int.f l = some (sortL l) := by
 simp only [slices_Sort_int_int.f, if_pos (show l.length < 4611686018427387904 by omega), sortL]
theorem sortL_perm (l : List Int) : (sortL l).Perm l := List.mergeSort_perm _ _
theorem sortL_le (l : List Int) : (sortL l).Pairwise (· ≤ ·) := by
 have h := List.pairwise_mergeSort (le := fun x y : Int => decide (x ≤ y)) (fun a b c hab hbc => by simp only [decide_eq_true_eq] at *; omega) (fun a b => by simp only [Bool.or_eq_true, decide_eq_true_eq]; omega) l
 exact h.imp (fun hab => of_decide_eq_true hab)
theorem slices_Max_ev (l : List Int) (r : Int) (hr : r ∈ l) (hb : ∀ x ∈ l, x ≤ r) (h : l.length ≤ maxLen) : Ev (fun k => slices_Max_int_int.f k l) r := by
 have h' : l.length ≤ 9223372036854775807 := h
 have hp : 0 < l.length := List.length_pos_of_mem hr
 obtain ⟨q, hq, eq⟩ := List.mem_iff_getElem.1 hr
 have hget : ∀ j, (hj : j < l.length) → l.getD j 0 = l[j] := fun j hj => by rw [List.getD_eq_getElem?_getD, List.getElem?_eq_getElem hj, Option.getD_some]
 have key : ∀ (d j : Nat) (m : Int), j + d = l.length → m ≤ r → (∀ i, i < j → l.getD i 0 ≤ m) → Ev (fun k => slices_Max_int_int.l0 k l m j) r := by
  intro d
  induction d with
  | zero =>
   intro j m hd hm hi
   obtain rfl : j = l.length := by omega
   have e : m = r := by have := hi q hq; rw [hget q hq, eq] at this; omega
   rw [e]
   exact Ev.step' (f := fun _ => some r) (fun k => by simp only [slices_Max_int_int.l0, if_neg (Int.lt_irrefl _)]) (Ev.now _)
  | succ d ih =>
   intro j m hd hm hi
   have c1 : (j : Int) < (l.length : Int) := by omega
   have c2 : 0 ≤ (j : Int) := by omega
   have hw : wrap64 ((j : Int) + 1) = ((j + 1 : Nat) : Int) := wrap_succ (by omega : j < l.length) h'
   have hj : l.getD j 0 ≤ r := hb _ (getD_mem (by omega) 0)
   refine Ev.step' (fun k => by simp only [slices_Max_int_int.l0, if_pos c1, if_pos c2, rd_nat, hw]) (ih (j + 1) (mx m (l.getD j 0)) (by omega) ?_ (fun i hi2 => ?_))
   · unfold mx; split <;> omega
   · by_cases e : i = j
     · subst e; unfold mx; split <;> omega
     · have := hi i (by omega); unfold mx; split <;> omega
 have c0 : ¬ (l.length : Int) < 1 := by omega
 have c1 : 0 < (l.length : Int) := by omega
 have e0 : rd l 0 = l.getD 0 0 := rd_nat l 0
 refine Ev.congr (f := fun k => slices_Max_int_int.l0 k l (l.getD 0 0) 1) (fun k => by simp only [slices_Max_int_int.f, if_neg c0, if_pos c1, e0]) ?_
 refine key (l.length - 1) 1 (l.getD 0 0) (by omega) (hb _ (getD_mem hp 0)) (fun i hi => ?_)
 obtain rfl : i = 0 := by omega
 exact Int.le_refl _
theorem slices_Compact_int_int_eq (l : List Int) (h : l.length ≤ 1048576) : slices_Compact_int_int.f l = some (Go.Lib.compact l) := by
 simp only [slices_Compact_int_int.f, if_pos (show l.length ≤ 9223372036854775807 by omega)]
theorem compact_tell (l : List Int) (h : l.Pairwise (· ≤ ·)) : SI (Go.Lib.compact l) ∧ ∀ x, x ∈ Go.Lib.compact l ↔ x ∈ l := by
 have hg : ∀ j, (hj : j < l.length) → l.toArray[j]! = l[j] := fun j hj => by rw [List.getElem!_toArray, getElem!_pos l j hj]
 have key : ∀ m, m ≤ l.length → SI (Go.Lib.compactUpTo l.toArray m) ∧ ∀ x, x ∈ Go.Lib.compactUpTo l.toArray m ↔ x ∈ l.take m := by
  intro m
  induction m with
  | zero => intro _; simp [Go.Lib.compactUpTo, SI]
  | succ m ih =>
   intro hm
   obtain ⟨h1, h2⟩ := ih (by omega)
   rw [Go.Lib.compactUpTo_succ, hg m (by omega)]
   have ht : l.take (m + 1) = l.take m ++ [l[m]] := List.take_succ_eq_append_getElem (by omega)
   rw [ht]
   cases hk : Go.Lib.keeps l.toArray m with
   | false =>
    simp only [Bool.false_eq_true, if_false, List.append_nil]
    refine ⟨h1, fun x => ?_⟩
    rw [h2 x, List.mem_append, List.mem_singleton]
    refine ⟨.inl, fun hx => hx.elim id (fun e => ?_)⟩
    unfold Go.Lib.keeps at hk
    simp only [decide_eq_false_iff_not, not_or, Decidable.not_not, ne_eq] at hk
    rw [hg m (by omega), hg (m - 1) (by omega)] at hk
    rw [e, hk.2]
    exact List.mem_take_iff_getElem.2 ⟨m - 1, by omega, rfl⟩
   | true =>
    simp only [if_true]
    refine ⟨List.pairwise_append.2 ⟨h1, by simp, fun a ha b hb => ?_⟩, fun x => by rw [List.mem_append, List.mem_append, h2 x]⟩
    rw [List.mem_singleton.1 hb]
    obtain ⟨i, hi, rfl⟩ := List.mem_take_iff_getElem.1 ((h2 a).1 ha)
    have hm0 : m ≠ 0 := by omega
    unfold Go.Lib.keeps at hk
    simp only [decide_eq_true_eq, hm0, false_or] at hk
    rw [hg m (by omega), hg (m - 1) (by omega)] at hk
    have hp := List.pairwise_iff_getElem.1 h
    have b1 := hp (m - 1) m (by omega) (by omega) (by omega)
    have b2 : l[i] ≤ l[m - 1] := by
     by_cases e : i = m - 1
     · subst e; exact Int.le_refl _
     · exact hp i (m - 1) (by omega) (by omega) (by omega)
    omega
 have := key l.length (Nat.le_refl _)
 rw [List.take_length] at this
 exact this
def rawM (P : List (List Int)) (p : Nat) (w : Int) : List Int := P.map fun x => w * x.getD p 0
theorem raw_puts (P : List (List Int)) (p : Nat) (w z : Int) : z ∈ rawM P p w ↔ z ∈ putsM P p w := by
 unfold rawM putsM
 rw [puts_mem, List.mem_map]
 constructor
 · rintro ⟨x, hx, e⟩; exact .inr ⟨x, hx, e.symm⟩
 · rintro (h | ⟨x, hx, e⟩)
   · cases h
   · exact ⟨x, hx, e.symm⟩
theorem compact_bnd {P : List (List Int)} (hP : 0 < P.length) (p : Nat) (w : Int) : Go.Lib.compact (sortL (rawM P p w ++ [lastM (putsM P p w) + 1])) = bndM P p w := by
 have hc := compact_tell _ (sortL_le (rawM P p w ++ [lastM (putsM P p w) + 1]))
 refine si_ext _ _ hc.1 (bnd_si P p w) (fun x => ?_)
 rw [hc.2, (sortL_perm _).mem_iff, bndM, List.mem_append, List.mem_append, raw_puts]
theorem impl_stumps_one {P : List (List Int)} {L : List Int} (h : sampleB P L = true) (hP : 0 < P.length) (s : List S39) (hs : s.length ≤ 100000) (p : Nat) (hp : p < (P.getD 0 []).length) (t : Int) (ht01 : t = 0 ∨ t = 1) (w : Int) (hwt : arr2_ 1 (-1) t = w) :
 To (fun k => impl_Sample_stumps.l1 k s (p : Int) ((P.getD 0 []).length : Int) (p : Int) t P L) (fun k => impl_Sample_stumps.l1 k (s ++ oneM P (P.getD 0 []).length p w) (p : Int) ((P.getD 0 []).length : Int) (p : Int) (wrap64 (t + 1)) P L) := by
 have ht := sample_tell h
 have h16 := ht.1
 have hn4 := point_len (ht.2.2.2 _ (getD_mem hP [])).1
 have hw : w = 1 ∨ w = -1 := by rw [← hwt]; rcases ht01 with rfl | rfl <;> simp [arr2_]
 have ct2 : t < 2 := by omega
 have ct0 : 0 ≤ t := by omega
 have cp0 : 0 ≤ (p : Int) := by omega
 have cP : 0 < (P.length : Int) := by omega
 refine (To.step (f := fun k => impl_Sample_stumps.l2 k s (p : Int) w [] ((P.getD 0 []).length : Int) (p : Int) t P (P.length : Int) 0 P L) (fun k => by simp only [impl_Sample_stumps.l1, if_pos ct2, if_pos ct0, hwt])).trans ?_
 have hf := to_fold (L := fun i (b : List Int) k => impl_Sample_stumps.l2 k s (p : Int) w b ((P.getD 0 []).length : Int) (p : Int) t P (P.length : Int) i P L) (n := P.length) (f := fun i b => b ++ [w * (P.getD i []).getD p 0]) (fun i b => b.length = i) (fun i b hi hb => ⟨?_, by simp [hb]⟩) [] (by simp)
 · refine hf.1.trans ?_
   rw [fold_append, List.nil_append, range_map P (fun x => w * x.getD p 0) []]
   show To (fun k => impl_Sample_stumps.l2 k s (p : Int) w (rawM P p w) ((P.getD 0 []).length : Int) (p : Int) t P (P.length : Int) (P.length : Int) P L) _
   have hne := puts_ne hP p w
   have hrl : (rawM P p w).length = P.length := List.length_map _
   have hl9 := puts_near h hw p (last_mem hne)
   have e2 : wrap64 (lastM (putsM P p w) + 1) = lastM (putsM P p w) + 1 := wrap_id (by omega) (by omega)
   have c3 : (rawM P p w).length < 17592186044416 := by omega
   have hmax := slices_Max_ev (rawM P p w) (lastM (putsM P p w)) ((raw_puts P p w _).2 (last_mem hne)) (fun x hx => last_le (puts_si p w P [] (by simp [SI])) ((raw_puts P p w x).1 hx)) (by unfold maxLen; omega)
   have hsl : (sortL (rawM P p w ++ [lastM (putsM P p w) + 1])).length ≤ 1048576 := by rw [(sortL_perm _).length_eq, List.length_append, hrl]; simp; omega
   refine (To.step (f := fun k => (slices_Max_int_int.f k (rawM P p w)).bind fun m => if (rawM P p w).length < 17592186044416 then ((slices_Sort_int_int.f (rawM P p w ++ [wrap64 (m + 1)])).bind fun t221 => ((slices_Compact_int_int.f t221).bind fun t222 => (impl_Sample_stumps.l3 k s (p : Int) w ((P.getD 0 []).length : Int) (p : Int) t t222 (t222.length : Int) 0 P L))) else none) (fun k => by simp only [impl_Sample_stumps.l2, if_neg (Int.lt_irrefl _)])).trans ?_
   refine (To.bind hmax).trans ?_
   have hgo : ∀ k, (if (rawM P p w).length < 17592186044416 then ((slices_Sort_int_int.f (rawM P p w ++ [wrap64 (lastM (putsM P p w) + 1)])).bind fun t221 => ((slices_Compact_int_int.f t221).bind fun t222 => (impl_Sample_stumps.l3 k s (p : Int) w ((P.getD 0 []).length : Int) (p : Int) t t222 (t222.length : Int) 0 P L))) else none) = impl_Sample_stumps.l3 k s (p : Int) w ((P.getD 0 []).length : Int) (p : Int) t (bndM P p w) ((bndM P p w).length : Int) 0 P L := fun k => by
    rw [if_pos c3, e2, slices_Sort_int_int_eq _ (by rw [List.length_append, hrl]; simp; omega), Option.bind_some, slices_Compact_int_int_eq _ hsl, Option.bind_some, compact_bnd hP]
   refine (To.congr hgo).trans ?_
   have hbl := bnd_len P p w
   have hg := to_fold (L := fun i (q : List S39) k => impl_Sample_stumps.l3 k q (p : Int) w ((P.getD 0 []).length : Int) (p : Int) t (bndM P p w) ((bndM P p w).length : Int) i P L) (n := (bndM P p w).length) (f := fun i q => q ++ [⟨unitM (P.getD 0 []).length p w, (bndM P p w).getD i 0⟩]) (fun i q => q.length = s.length + i) (fun i q hi hq => ⟨?_, by simp [hq]; omega⟩) s (by simp)
   · refine hg.1.trans (To.step fun k => ?_)
     rw [fold_append, range_map (bndM P p w) (fun b => (⟨unitM (P.getD 0 []).length p w, b⟩ : S39)) 0]
     simp only [impl_Sample_stumps.l3, if_neg (Int.lt_irrefl _)]
     rfl
   · have c4 : (i : Int) < ((bndM P p w).length : Int) := by omega
     have c5 : 0 ≤ (i : Int) := by omega
     have c6 : q.length < 4398046511104 := by omega
     have c7 : 0 ≤ ((P.getD 0 []).length : Int) := by omega
     have c8 : (P.getD 0 []).length ≤ 35184372088832 := by omega
     have c9 : (p : Int) < ((List.replicate (P.getD 0 []).length (0 : Int)).length : Int) := by rw [List.length_replicate]; omega
     have e0 : (0 : Int) = ((0 : Nat) : Int) := rfl
     have er : ∀ rdx : List (List Int) → Int → List Int, (∀ i : Nat, rdx P (i : Int) = P.getD i []) → rdx P 0 = P.getD 0 [] := fun rdx hx => hx 0
     refine To.step fun k => ?_
     simp only [impl_Sample_stumps.l3, if_pos c4, if_pos c5, if_pos cP, er _ (rdL1_nat P), if_pos c7, Int.toNat_natCast, if_pos c8, Option.bind_some, if_pos cp0, if_pos c9, if_pos c6, rd_nat, wrap_succ hi (by omega : (bndM P p w).length ≤ 9223372036854775807)]
     rfl
 · have c1 : (i : Int) < (P.length : Int) := by omega
   have c0 : 0 ≤ (i : Int) := by omega
   have hx := getD_mem hi ([] : List Int)
   have c3 : (p : Int) < ((P.getD i []).length : Int) := by rw [(ht.2.2.2 _ hx).2]; omega
   have hv := mul_sgn hw (sample_pt h hx p)
   have e : wrap64 (w * (P.getD i []).getD p 0) = w * (P.getD i []).getD p 0 := wrap_id (by omega) (by omega)
   have c2 : b.length < 17592186044416 := by omega
   exact To.step fun k => by simp only [impl_Sample_stumps.l2, if_pos c1, if_pos c0, if_pos cp0, rdL1_nat, if_pos c3, rd_nat, e, if_pos c2, wrap_succ hi (by omega : P.length ≤ 9223372036854775807)]
theorem impl_Sample_stumps_ev {P : List (List Int)} {L : List Int} (h : sampleB P L = true) (hP : 0 < P.length) : Ev (fun k => impl_Sample_stumps.f k P L) (stumpsL P) := by
 have ht := sample_tell h
 have h16 := ht.1
 have hn4 := point_len (ht.2.2.2 _ (getD_mem hP [])).1
 have c0 : 0 < (P.length : Int) := by omega
 have er : ∀ rdx : List (List Int) → Int → List Int, (∀ i : Nat, rdx P (i : Int) = P.getD i []) → rdx P 0 = P.getD 0 [] := fun rdx hx => hx 0
 refine Ev.congr (f := fun k => impl_Sample_stumps.l0 k [] ((P.getD 0 []).length : Int) 0 P L) (fun k => by simp only [impl_Sample_stumps.f, if_pos c0, er _ (rdL1_nat P)]) ?_
 have hf := to_fold (L := fun i (s : List S39) k => impl_Sample_stumps.l0 k s ((P.getD 0 []).length : Int) i P L) (n := (P.getD 0 []).length) (f := fun i s => s ++ bothM P (P.getD 0 []).length i) (fun i s => s.length ≤ i * 34) (fun i s hi hs => ⟨?_, by have := both_len P (P.getD 0 []).length i; rw [List.length_append]; omega⟩) [] (by simp)
 · exact hf.1 _ (Ev.step' (f := fun _ => some (stumpsL P)) (fun k => by simp only [impl_Sample_stumps.l0, if_neg (Int.lt_irrefl _)]; rfl) (Ev.now _))
 · have c1 : (i : Int) < ((P.getD 0 []).length : Int) := by omega
   have h1 := one_len P (P.getD 0 []).length i 1
   refine (To.step (f := fun k => impl_Sample_stumps.l1 k s (i : Int) ((P.getD 0 []).length : Int) (i : Int) 0 P L) (fun k => by simp only [impl_Sample_stumps.l0, if_pos c1])).trans ?_
   refine (impl_stumps_one h hP s (by omega) i hi 0 (.inl rfl) 1 rfl).trans ?_
   rw [show wrap64 (0 + 1) = 1 from by unfold wrap64; omega]
   refine (impl_stumps_one h hP (s ++ oneM P (P.getD 0 []).length i 1) (by rw [List.length_append]; omega) i hi 1 (.inr rfl) (-1) rfl).trans (To.step fun k => ?_)
   have c2 : ¬ (wrap64 (1 + 1) < 2) := by unfold wrap64; omega
   simp only [impl_Sample_stumps.l1, if_neg c2, wrap_succ hi (by omega : (P.getD 0 []).length ≤ 9223372036854775807)]
   rw [List.append_assoc]
   rfl
theorem impl_product_ev (a b : List Int) (h : a.length ≤ maxLen) (hb : a.length ≤ b.length) : Ev (fun k => impl_product.f k a b) (dotW a b) := by
 unfold maxLen at h
 have hf := to_fold (L := fun i (s : Int) k => impl_product.l0 k b s a (a.length : Int) i) (n := a.length) (f := fun i s => wrap64 (s + wrap64 (a.getD i 0 * b.getD i 0))) (fun _ _ => True) (fun i s hi _ => ⟨To.step fun k => ?_, trivial⟩) 0 trivial
 · refine hf.1 _ (Ev.step' (f := fun _ => some _) (fun k => ?_) (Ev.now _))
   simp only [impl_product.l0, if_neg (Int.lt_irrefl _)]; rfl
 · have c1 : (i : Int) < (a.length : Int) := by omega
   have c2 : (i : Int) < (b.length : Int) := by omega
   have c3 : 0 ≤ (i : Int) := by omega
   simp only [impl_product.l0, if_pos c1, if_pos c2, if_pos c3, rd_nat, wrap_succ hi h]
theorem impl_Plane_side_ev (w : List Int) (b : Int) (x : List Int) (hw : w.length ≤ maxLen) (hx : w.length ≤ x.length) : Ev (fun k => impl_Plane_side.f k w b x) (sideW w b x) := by
 refine Ev.bind (impl_product_ev w x hw hx) ?_
 unfold sideW
 by_cases c : dotW w x ≥ b
 · simp only [if_pos c]; exact Ev.now _
 · simp only [if_neg c]; exact Ev.now _
def sumD (D : List (List Int)) (s : List Int) (i : Nat) : Int := s.foldl (fun a j => wrap64 (a + (D.getD j.toNat []).getD i 0)) 0
def badD (D : List (List Int)) (L s : List Int) (i : Nat) : Bool := decide (sumD D s i < 0) || (decide (sumD D s i = 0) && decide (L.getD i 0 = -1))
def fitB (L : List Int) (D : List (List Int)) (s : List Int) : Bool := (List.range L.length).all fun i => !badD D L s i
theorem impl_FittingJury_1_ev {L : List Int} {D : List (List Int)} {s : List Int} (hL : L.length ≤ 1000) (hs : s.length ≤ 1000) (hj : ∀ j ∈ s, 0 ≤ j ∧ j < (D.length : Int)) (hD : ∀ r ∈ D, r.length = L.length) : Ev (fun k => impl_FittingJury_1.f k s L D) (fitB L D s) := by
 have inner : ∀ i : Nat, i < L.length → To (fun k => impl_FittingJury_1.l0 k s D L (L.length : Int) (i : Int)) (fun k => impl_FittingJury_1.l1 k s D (i : Int) (L.getD i 0) (sumD D s i) L (L.length : Int) (i : Int) s (s.length : Int) (s.length : Int)) := by
  intro i hi
  have c1 : (i : Int) < (L.length : Int) := by omega
  have c0 : 0 ≤ (i : Int) := by omega
  have hf := to_fold (L := fun j (a : Int) k => impl_FittingJury_1.l1 k s D (i : Int) (L.getD i 0) a L (L.length : Int) (i : Int) s (s.length : Int) j) (n := s.length) (f := fun j a => wrap64 (a + (D.getD (s.getD j 0).toNat []).getD i 0)) (fun _ _ => True) (fun j a hj2 _ => ⟨To.step fun k => ?_, trivial⟩) 0 trivial
  · have e : (List.range s.length).foldl (fun a j => wrap64 (a + (D.getD (s.getD j 0).toNat []).getD i 0)) 0 = sumD D s i := range_fold s (fun a j => wrap64 (a + (D.getD j.toNat []).getD i 0)) 0 0
    rw [e] at hf
    exact (To.step (f := fun k => impl_FittingJury_1.l1 k s D (i : Int) (L.getD i 0) 0 L (L.length : Int) (i : Int) s (s.length : Int) 0) (fun k => by simp only [impl_FittingJury_1.l0, if_pos c1, if_pos c0, rd_nat])).trans hf.1
  · have d1 : (j : Int) < (s.length : Int) := by omega
    have d0 : 0 ≤ (j : Int) := by omega
    have hx := hj _ (getD_mem hj2 0)
    obtain ⟨q, hq⟩ : ∃ q : Nat, s.getD j 0 = (q : Int) := ⟨(s.getD j 0).toNat, by omega⟩
    have d2 : 0 ≤ (q : Int) := by omega
    have d3 : (q : Int) < (D.length : Int) := by omega
    have hr := hD _ (getD_mem (show q < D.length by omega) [])
    have d4 : (i : Int) < ((D.getD q []).length : Int) := by omega
    simp only [impl_FittingJury_1.l1, if_pos d1, if_pos d0, rd_nat, hq, if_pos d2, if_pos d3, if_pos c0, rdL1_nat, if_pos d4, Int.toNat_natCast, wrap_succ hj2 (by omega : s.length ≤ 9223372036854775807)]
 have hz : ¬ (s.length : Int) < (s.length : Int) := Int.lt_irrefl _
 refine ev_all (L := fun i k => impl_FittingJury_1.l0 k s D L (L.length : Int) i) (n := L.length) (p := fun i => !badD D L s i) (fun i hi hp => (inner i hi).trans (To.step fun k => ?_)) (fun i hi hp => inner i hi _ (Ev.step' (f := fun _ => some false) (fun k => ?_) (Ev.now _))) (Ev.step' (f := fun _ => some true) (fun k => by simp only [impl_FittingJury_1.l0, if_neg (Int.lt_irrefl _)]) (Ev.now _))
 · have hb : badD D L s i = false := by simpa using hp
   unfold badD at hb
   simp only [Bool.or_eq_false_iff, decide_eq_false_iff_not, Bool.and_eq_false_iff] at hb
   have ws := wrap_succ hi (by omega : L.length ≤ 9223372036854775807)
   by_cases z : sumD D s i = 0
   · have l1 : ¬ L.getD i 0 = -1 := by rcases hb.2 with h | h; exact absurd z h; exact h
     simp only [impl_FittingJury_1.l1, if_neg hz, if_neg hb.1, if_pos z, if_neg l1, ws]
   · simp only [impl_FittingJury_1.l1, if_neg hz, if_neg hb.1, if_neg z, ws]
 · have hb : badD D L s i = true := by simpa using hp
   unfold badD at hb
   simp only [Bool.or_eq_true, decide_eq_true_eq, Bool.and_eq_true] at hb
   by_cases z0 : sumD D s i < 0
   · simp only [impl_FittingJury_1.l1, if_neg hz, if_pos z0]
   · have h2 := hb.resolve_left z0
     simp only [impl_FittingJury_1.l1, if_neg hz, if_neg z0, if_pos h2.1, if_pos h2.2]
def rowM (P : List (List Int)) (L : List Int) (y : S39) : List Int := (List.range P.length).map fun i => wrap64 (sideW y.f0 y.f1 (P.getD i []) * L.getD i 0)
theorem seqs_valid (n : Int) : ∀ (d m : Nat) (x : Int) (s t : List Int), 0 ≤ x → x + m = n → (∀ j ∈ s, 0 ≤ j ∧ j < n) → t ∈ impl_FittingJury.seqs d m x s → ∀ j ∈ t, 0 ≤ j ∧ j < n
 | 0, m, x, s, t, _, _, hs, h => by rw [List.mem_singleton.1 h]; exact hs
 | d + 1, 0, x, s, t, _, _, hs, h => by cases h
 | d + 1, m + 1, x, s, t, h0, hx, hs, h => by
  rw [impl_FittingJury.seqs_succ] at h
  rcases List.mem_append.1 h with h | h
  · refine seqs_valid n d (m + 1) x (s ++ [x]) t h0 hx (fun j hj => ?_) h
    rcases List.mem_append.1 hj with hj | hj
    · exact hs j hj
    · rw [List.mem_singleton.1 hj]; omega
  · exact seqs_valid n (d + 1) m (x + 1) s t (by omega) (by omega) hs h
termination_by d m => d + m
theorem find_congr {α : Type} {p q : α → Bool} : ∀ (l : List α), (∀ x ∈ l, p x = q x) → l.find? p = l.find? q
 | [], _ => rfl
 | x :: l, h => by
  rw [List.find?_cons, List.find?_cons, h x (List.mem_cons_self ..), find_congr l (fun y hy => h y (List.mem_cons_of_mem _ hy))]
theorem fit_all {L : List Int} {D : List (List Int)} : ∀ (Z : List (List Int)), (∀ s ∈ Z, Ev (fun k => impl_FittingJury_1.f k s L D) (fitB L D s)) → ∃ K, ∀ k, K ≤ k → ∀ s ∈ Z, impl_FittingJury_1.f k s L D = some (fitB L D s)
 | [], _ => ⟨0, fun _ _ s hs => by cases hs⟩
 | z :: Z, h => by
  obtain ⟨K1, h1⟩ := h z (List.mem_cons_self ..)
  obtain ⟨K2, h2⟩ := fit_all Z (fun s hs => h s (List.mem_cons_of_mem _ hs))
  refine ⟨max K1 K2, fun k hk s hs => ?_⟩
  rcases List.mem_cons.1 hs with rfl | hs
  · exact h1 k (by omega)
  · exact h2 k (by omega) s hs
theorem found_ev {L : List Int} {D : List (List Int)} {na : Nat} {kk : Nat} (hL : L.length ≤ 1000) (hD : ∀ r ∈ D, r.length = L.length) (hn : D.length = na) (hna : na < 1000000) (h1 : 1 ≤ kk) (h3 : kk ≤ 3) : Ev (fun k => impl_FittingJury.found k L D na (kk : Int)) (((impl_FittingJury.seqs kk na 0 []).find? (fitB L D)).getD []) := by
 obtain ⟨K, hK⟩ := fit_all (impl_FittingJury.seqs kk na 0 []) (fun s hs => impl_FittingJury_1_ev hL (by have := impl_FittingJury.seqs_len _ _ _ _ _ hs; rw [this, List.length_nil]; omega) (by rw [hn]; exact seqs_valid na kk na 0 [] s (Int.le_refl _) (by omega) (fun j hj => by cases hj) hs) hD)
 refine ⟨K, fun k hk => ?_⟩
 have hg : ∀ s ∈ impl_FittingJury.seqs kk na 0 [], impl_FittingJury.good k L D s = true := fun s hs => by unfold impl_FittingJury.good; rw [hK k hk s hs]; rfl
 have hkp : ∀ s ∈ impl_FittingJury.seqs kk na 0 [], impl_FittingJury.keep k L D s = fitB L D s := fun s hs => by unfold impl_FittingJury.keep; rw [hK k hk s hs]; rfl
 have ok : impl_FittingJury.ok k L D na (kk : Int) = true := by
  unfold impl_FittingJury.ok
  rw [Bool.and_eq_true, Bool.and_eq_true, Bool.and_eq_true, decide_eq_true_eq, decide_eq_true_eq, decide_eq_true_eq, List.all_eq_true, Int.toNat_natCast]
  exact ⟨by omega, by omega, hna, hg⟩
 show impl_FittingJury.found k L D na (kk : Int) = _
 unfold impl_FittingJury.found
 rw [if_pos ok, Int.toNat_natCast, find_congr _ hkp]
theorem impl_FittingJury_out {S : List S39} (a1 : Int) (hS : S.length ≤ 1000) (hw : ∀ y ∈ S, y.f0.length ≤ 1000) (t : List Int) (ht : t.length ≤ 1000) (hj : ∀ j ∈ t, 0 ≤ j ∧ j < (S.length : Int)) : Ev (fun k => impl_FittingJury.l2 k [] t (t.length : Int) 0 S) (plS S t, true) := by
 have hf := to_fold (L := fun i (s : List S39) k => impl_FittingJury.l2 k s t (t.length : Int) i S) (n := t.length) (f := fun i s => s ++ [S.getD (t.getD i 0).toNat z39]) (fun i s => s.length = i) (fun i s hi hs => ⟨To.step fun k => ?_, by simp [hs]⟩) [] rfl
 · refine hf.1 _ ?_
   have e : (List.range t.length).foldl (fun s i => s ++ [S.getD (t.getD i 0).toNat z39]) [] = plS S t := by
    rw [fold_append, List.nil_append]
    exact range_map t (fun j => S.getD j.toNat z39) 0
   rw [e]
   exact Ev.step' (f := fun _ => some (plS S t, true)) (fun k => by simp only [impl_FittingJury.l2, if_neg (Int.lt_irrefl _)]) (Ev.now _)
 · have hx := hj _ (getD_mem hi 0)
   obtain ⟨q, hq⟩ : ∃ q : Nat, t.getD i 0 = (q : Int) := ⟨(t.getD i 0).toNat, by omega⟩
   have c1 : (i : Int) < (t.length : Int) := by omega
   have c0 : 0 ≤ (i : Int) := by omega
   have d0 : 0 ≤ (q : Int) := by omega
   have d1 : (q : Int) < (S.length : Int) := by omega
   have hl := hw _ (getD_mem (show q < S.length by omega) z39)
   have c3 : s.length < 4398046511104 := by omega
   simp only [impl_FittingJury.l2, if_pos c1, if_pos c0, rd_nat, hq, if_pos d0, if_pos d1, rdT39_nat, impl_copied_eq _ hl, Option.bind_some, if_pos c3, Int.toNat_natCast, wrap_succ hi (by omega : t.length ≤ 9223372036854775807)]
def fitM (P : List (List Int)) (L : List Int) (S : List S39) (kk : Nat) : List S39 × Bool := match (impl_FittingJury.seqs kk S.length 0 []).find? (fitB L (S.map (rowM P L))) with | some t => (plS S t, true) | none => ([], false)
theorem impl_FittingJury_ev0 {P : List (List Int)} {L : List Int} {S : List S39} {kk : Nat} (hP : P.length ≤ 1000) (hL : L.length = P.length) (hS : S.length ≤ 1000) (h1 : 1 ≤ kk) (h3 : kk ≤ 3) (hw : ∀ y ∈ S, y.f0.length ≤ 1000 ∧ ∀ x ∈ P, y.f0.length ≤ x.length) : Ev (fun k => impl_FittingJury.l0 (kk : Int) k S (S.length : Int) 0 P L S []) (fitM P L S kk) := by
 have hf := to_fold (L := fun i (D : List (List Int)) k => impl_FittingJury.l0 (kk : Int) k S (S.length : Int) i P L S D) (n := S.length) (f := fun i D => D ++ [rowM P L (S.getD i z39)]) (fun i D => D.length = i) (fun i D hi hD => ⟨?_, by simp [hD]⟩) [] rfl
 · refine hf.1 _ ?_
   have e : (List.range S.length).foldl (fun D i => D ++ [rowM P L (S.getD i z39)]) [] = S.map (rowM P L) := by
    rw [fold_append, List.nil_append]
    exact range_map S (rowM P L) z39
   rw [e]
   refine Ev.step' (f := fun k => (impl_FittingJury.found k L (S.map (rowM P L)) S.length (kk : Int)).bind fun t => if (t.length : Int) = 0 then some ([], false) else impl_FittingJury.l2 k [] t (t.length : Int) 0 S) (fun k => by simp only [impl_FittingJury.l0, if_neg (Int.lt_irrefl _)]) ?_
   refine Ev.bind (found_ev (by omega) (fun r hr => by obtain ⟨y, _, rfl⟩ := List.mem_map.1 hr; simp [rowM, hL]) (List.length_map _) (by omega) h1 h3) ?_
   unfold fitM
   cases hq : (impl_FittingJury.seqs kk S.length 0 []).find? (fitB L (S.map (rowM P L))) with
   | none => simp only [Option.getD_none, List.length_nil]; exact Ev.now _
   | some t =>
    have hm := List.mem_of_find?_eq_some hq
    have hl := impl_FittingJury.seqs_len _ _ _ _ _ hm
    rw [List.length_nil] at hl
    have c : ¬ (t.length : Int) = 0 := by omega
    simp only [Option.getD_some, if_neg c]
    exact impl_FittingJury_out (kk : Int) hS (fun y hy => (hw y hy).1) t (by omega) (seqs_valid S.length kk S.length 0 [] t (Int.le_refl _) (by omega) (fun j hj => by cases hj) hm)
 · have c1 : (i : Int) < (S.length : Int) := by omega
   have c0 : 0 ≤ (i : Int) := by omega
   have hy := hw _ (getD_mem hi z39)
   have hg := to_fold (L := fun q (r : List Int) k => impl_FittingJury.l1 (kk : Int) k r S (S.length : Int) (i : Int) P (P.length : Int) q P L S D (S.getD i z39).f0 (S.getD i z39).f1) (n := P.length) (f := fun q r => r ++ [wrap64 (sideW (S.getD i z39).f0 (S.getD i z39).f1 (P.getD q []) * L.getD q 0)]) (fun q r => r.length = q) (fun q r hq hr => ⟨?_, by simp [hr]⟩) [] rfl
   · refine (To.step (f := fun k => impl_FittingJury.l1 (kk : Int) k [] S (S.length : Int) (i : Int) P (P.length : Int) 0 P L S D (S.getD i z39).f0 (S.getD i z39).f1) (fun k => by simp only [impl_FittingJury.l0, if_pos c1, if_pos c0, rdT39_nat])).trans (hg.1.trans (To.step fun k => ?_))
     rw [fold_append, List.nil_append]
     have c5 : D.length < 5864062014805 := by omega
     simp only [impl_FittingJury.l1, if_neg (Int.lt_irrefl _), if_pos c5, wrap_succ hi (by omega : S.length ≤ 9223372036854775807)]
     rfl
   · have d1 : (q : Int) < (P.length : Int) := by omega
     have d0 : 0 ≤ (q : Int) := by omega
     have d2 : (q : Int) < (L.length : Int) := by omega
     have d3 : r.length < 17592186044416 := by omega
     refine (To.step (f := fun k => (impl_Plane_side.f k (S.getD i z39).f0 (S.getD i z39).f1 (P.getD q [])).bind fun t => impl_FittingJury.l1 (kk : Int) k (r ++ [wrap64 (t * L.getD q 0)]) S (S.length : Int) (i : Int) P (P.length : Int) ((q + 1 : Nat) : Int) P L S D (S.getD i z39).f0 (S.getD i z39).f1) (fun k => by simp only [impl_FittingJury.l1, if_pos d1, if_pos d0, rdL1_nat, if_pos d2, rd_nat, if_pos d3, wrap_succ hq (by omega : P.length ≤ 9223372036854775807)])).trans (To.bind (impl_Plane_side_ev _ _ _ (by have := hy.1; unfold maxLen; omega) (hy.2 _ (getD_mem hq []))))
theorem laws_markIntSS_ev (P : List (List Int)) (a : Int) (h0 : 0 ≤ a) (h1 : a + sumN List.length P ≤ 1000000000000) (hP : P.length ≤ 1000000000000) : Ev (fun k => laws_markIntSS.f k P a) (a + sumN List.length P, iota2 a P) :=
 ev_mark ([] : List Int) List.length iota P 1000000000000 (L := fun ys a i k => laws_markIntSS.l0 k ys a i) (fun ys a i x hi hl hx hm ha hb r hr => by
  refine Ev.step' (f := fun k => (laws_markIntS.f k x a).bind fun b => laws_markIntSS.l0 k (ys.set i b.2) b.1 ((i + 1 : Nat) : Int)) (fun k => ?_) (Ev.bind (laws_markIntS_ev x a ha hb) hr)
  have c1 : (i : Int) < (ys.length : Int) := by omega
  have c3 : 0 ≤ (i : Int) := by omega
  simp only [laws_markIntSS.l0, if_pos c1, if_pos c3, Int.toNat_natCast, rdR_nat, hx, wrap_succ (i := i) (n := ys.length) (by omega) (by omega)]) (fun ys a hl => Ev.step' (f := fun _ => some (a, ys)) (fun k => by
  simp only [laws_markIntSS.l0, hl, if_neg (Int.lt_irrefl _)]) (Ev.now _)) a h0 h1
theorem laws_markSample_ev (P : List (List Int)) (L : List Int) (a : Int) (h0 : 0 ≤ a) (h1 : a + sumN List.length P + L.length ≤ 1000000000000) (hP : P.length ≤ 1000000000000) : Ev (fun k => laws_markSample.f k P L a) (a + sumN List.length P + L.length, iota2 a P, iota (a + sumN List.length P) L) :=
 Ev.bind (laws_markIntSS_ev P a h0 (by omega) hP) (Ev.bind (laws_markIntS_ev L (a + sumN List.length P) (by omega) h1) (Ev.now _))
theorem laws_markPlaneS_ev (l : List S39) (a : Int) (h0 : 0 ≤ a) (h1 : a + sumN (fun x : S39 => x.f0.length + 1) l ≤ 1000000000000) (hl : l.length ≤ 1000000000000) : Ev (fun k => laws_markPlaneS.f k l a) (a + sumN (fun x : S39 => x.f0.length + 1) l, markL (fun x : S39 => x.f0.length + 1) markP a l) :=
  ev_mark z39 (fun x : S39 => x.f0.length + 1) markP l 1000000000000 (L := fun ys a i k => laws_markPlaneS.l0 k ys a i) (fun ys a i x hi hl hx hm ha hb r hr => by
    have hb2 : a + (x.f0.length : Int) ≤ 1000000000000 := by have : ((x.f0.length + 1 : Nat) : Int) = (x.f0.length : Int) + 1 := by omega
                                                             omega
    refine Ev.step' (f := fun k => (laws_markIntS.f k x.f0 a).bind fun b => laws_markPlaneS.l0 k (ys.set i ⟨b.2, b.1⟩) (wrap64 (b.1 + 1)) ((i + 1 : Nat) : Int)) (fun k => ?_) (Ev.bind (laws_markIntS_ev x.f0 a ha hb2) ?_)
    · have c1 : (i : Int) < (ys.length : Int) := by omega
      have c3 : 0 ≤ (i : Int) := by omega
      simp only [laws_markPlaneS.l0, if_pos c1, if_pos c3, Int.toNat_natCast, rdT39_nat, hx, wrap_succ (i := i) (n := ys.length) (by omega) (by omega)]
    · have e : wrap64 (a + (x.f0.length : Int) + 1) = a + ((x.f0.length + 1 : Nat) : Int) := by rw [wrap_id (by omega) (by omega)]; omega
      simp only [e]
      exact hr) (fun ys a hl => Ev.step' (f := fun _ => some (a, ys)) (fun k => by
    simp only [laws_markPlaneS.l0, hl, if_neg (Int.lt_irrefl _)]) (Ev.now _)) a h0 h1
theorem fold_sgn {c : Int} (hc : c = 1 ∨ c = -1) {σ : Int → Int} (hσ : ∀ j, σ j = 1 ∨ σ j = -1) (t : List Int) : ∀ (b : Int), -1000 + (t.length : Int) ≤ b → b ≤ 1000 - (t.length : Int) → t.foldl (fun a j => wrap64 (a + wrap64 (σ j * c))) (c * b) = c * t.foldl (fun a j => wrap64 (a + σ j)) b ∧ -1000 ≤ t.foldl (fun a j => wrap64 (a + σ j)) b ∧ t.foldl (fun a j => wrap64 (a + σ j)) b ≤ 1000 := by
 induction t with
 | nil =>
  intro b h1 h2
  rw [List.length_nil] at h1 h2
  rw [List.foldl_nil, List.foldl_nil]
  exact ⟨rfl, by omega, by omega⟩
 | cons j t ih =>
  intro b h1 h2
  rw [List.length_cons] at h1 h2
  have e2 : wrap64 (b + σ j) = b + σ j := by rcases hσ j with h | h <;> rw [h] <;> unfold wrap64 <;> omega
  have e1 : wrap64 (c * b + wrap64 (σ j * c)) = c * (b + σ j) := by
   rcases hσ j with h | h <;> rcases hc with rfl | rfl <;> rw [h] <;> unfold wrap64 <;> omega
  rw [List.foldl_cons, List.foldl_cons, e1, e2]
  have g1 : -1000 + (t.length : Int) ≤ b + σ j := by rcases hσ j with h | h <;> omega
  have g2 : b + σ j ≤ 1000 - (t.length : Int) := by rcases hσ j with h | h <;> omega
  exact ih _ g1 g2
theorem fold_mem {f g : Int → Int} : ∀ (t : List Int) (b : Int), (∀ j ∈ t, f j = g j) → t.foldl (fun a j => wrap64 (a + f j)) b = t.foldl (fun a j => wrap64 (a + g j)) b
 | [], _, _ => rfl
 | j :: t, b, h => by
  rw [List.foldl_cons, List.foldl_cons, h j (List.mem_cons_self ..)]
  exact fold_mem t _ (fun q hq => h q (List.mem_cons_of_mem _ hq))
theorem wrong_iff (p : Nat → Prop) [DecidablePred p] : ∀ n : Nat, ((List.range n).foldl (fun (s : List Int) (i : Nat) => if p i then s else s ++ [(i : Int)]) []).length = 0 ↔ ∀ i < n, p i
 | 0 => by simp
 | n + 1 => by
  have ih := wrong_iff p n
  rw [List.range_succ, List.foldl_append]
  show (if p n then _ else _ ++ [(n : Int)]).length = 0 ↔ _
  by_cases h : p n
  · rw [if_pos h, ih]
    exact ⟨fun q i hi => by by_cases e : i = n; exact e ▸ h; exact q i (by omega), fun q i hi => q i (by omega)⟩
  · rw [if_neg h]
    exact ⟨fun q => by rw [List.length_append, List.length_singleton] at q; omega, fun q => absurd (q n (by omega)) h⟩
theorem side_pm (w : List Int) (b : Int) (x : List Int) : sideW w b x = 1 ∨ sideW w b x = -1 := by unfold sideW; split <;> simp
theorem fit_eq {P : List (List Int)} {L : List Int} {S : List S39} (hL : L.length = P.length) (hl : ∀ l ∈ L, l = 1 ∨ l = -1) (t : List Int) (ht : t.length ≤ 100) (hj : ∀ j ∈ t, 0 ≤ j ∧ j < (S.length : Int)) : fitB L (S.map (rowM P L)) t = keepS P L S t := by
 have key : ∀ i, i < P.length → (badD (S.map (rowM P L)) L t i = false ↔ votesM (plS S t) (P.getD i []) = L.getD i 0) := by
  intro i hi
  have hc := hl _ (getD_mem (show i < L.length by omega) 0)
  have hV := fold_sgn hc (σ := fun j => sideW (S.getD j.toNat z39).f0 (S.getD j.toNat z39).f1 (P.getD i [])) (fun j => side_pm _ _ _) t 0 (by omega) (by omega)
  have e1 : sumD (S.map (rowM P L)) t i = t.foldl (fun a j => wrap64 (a + wrap64 (sideW (S.getD j.toNat z39).f0 (S.getD j.toNat z39).f1 (P.getD i []) * L.getD i 0))) 0 := by
   unfold sumD
   refine fold_mem t 0 (fun j h => ?_)
   have hv := hj j h
   have hq : j.toNat < S.length := by omega
   rw [show (S.map (rowM P L)).getD j.toNat [] = rowM P L S[j.toNat] from by rw [List.getD_eq_getElem?_getD, List.getElem?_map, List.getElem?_eq_getElem hq]; rfl]
   rw [show S.getD j.toNat z39 = S[j.toNat] from by rw [List.getD_eq_getElem?_getD, List.getElem?_eq_getElem hq]; rfl]
   show (rowM P L S[j.toNat]).getD i 0 = _
   unfold rowM
   rw [List.getD_eq_getElem?_getD, List.getElem?_map, List.getElem?_range hi]
   rfl
  rw [Int.mul_zero] at hV
  have e2 : votesM (plS S t) (P.getD i []) = if t.foldl (fun a j => wrap64 (a + sideW (S.getD j.toNat z39).f0 (S.getD j.toNat z39).f1 (P.getD i []))) 0 ≥ 0 then 1 else -1 := by
   unfold votesM plS
   rw [List.foldl_map]
  unfold badD
  rw [e1, e2, hV.1]
  generalize t.foldl (fun a j => wrap64 (a + sideW (S.getD j.toNat z39).f0 (S.getD j.toNat z39).f1 (P.getD i []))) 0 = V at hV ⊢
  generalize L.getD i 0 = c at hc ⊢
  simp only [Bool.or_eq_false_iff, decide_eq_false_iff_not, Bool.and_eq_false_iff]
  rcases hc with rfl | rfl
  · by_cases h : V ≥ 0
    · rw [if_pos h]; simp; omega
    · rw [if_neg h]; simp; omega
  · by_cases h : V ≥ 0
    · rw [if_pos h]; simp; omega
    · rw [if_neg h]; simp; omega
 have h1 : fitB L (S.map (rowM P L)) t = true ↔ ∀ i < P.length, votesM (plS S t) (P.getD i []) = L.getD i 0 := by
  unfold fitB
  rw [List.all_eq_true, hL]
  exact ⟨fun h i hi => (key i hi).1 (by have := h i (List.mem_range.2 hi); simpa using this), fun h i hi => by have := (key i (List.mem_range.1 hi)).2 (h i (List.mem_range.1 hi)); rw [this]; rfl⟩
 have h2 : keepS P L S t = true ↔ ∀ i < P.length, votesM (plS S t) (P.getD i []) = L.getD i 0 := by
  unfold keepS wrongL
  rw [decide_eq_true_eq, ← wrong_iff (fun i => votesM (plS S t) (P.getD i []) = L.getD i 0) P.length]
  omega
 exact Bool.eq_iff_iff.2 (h1.trans h2.symm)
def juryM (P : List (List Int)) (L : List Int) (a1 : Int) : List S39 × Bool := if (someB P L && (decide (P.length ≤ 8) && inR 1 3 a1)) = true then fitM P L (stumpsL P) a1.toNat else ([], false)
theorem stumps_rows {P : List (List Int)} {L : List Int} (h : sampleB P L = true) : ∀ y ∈ stumpsL P, ∀ x ∈ P, y.f0.length ≤ x.length := by
 intro y hy x hx
 have hxl := ((sample_tell h).2.2.2 x hx).2
 obtain ⟨p, _, h1⟩ := stumps_mem.1 hy
 have : y.f0.length = (P.getD 0 []).length := by
  rcases h1 with h1 | h1 <;> (obtain ⟨b, _, rfl⟩ := List.mem_map.1 h1; simp [unitM])
 omega
theorem jury_bits {P : List (List Int)} {L : List Int} (h : someB P L = true) : P.length ≤ 1000 ∧ L.length = P.length ∧ (stumpsL P).length ≤ 1000 ∧ ∀ y ∈ stumpsL P, y.f0.length ≤ 1000 ∧ ∀ x ∈ P, y.f0.length ≤ x.length := by
 obtain ⟨h1, h2⟩ := some_tell h
 obtain ⟨s1, s2, s3, s4⟩ := sample_tell h1
 have hs := stumps_small h1 h2
 exact ⟨by omega, s2, by omega, fun y hy => ⟨by have := hs.2 y hy; omega, stumps_rows h1 y hy⟩⟩
theorem spec_FittingJury_ev (P : List (List Int)) (L : List Int) (a1 : Int) (h : P.length ≤ maxLen) (hi : ∀ x ∈ P, x.length ≤ maxLen) (hL : L.length ≤ maxLen) : Ev (fun k => spec_FittingJury.f k P L a1) (juryM P L a1) := by
 have no : Ev (fun k => spec_FittingJury.j0 k a1 true P L) ([], false) := Ev.step' (f := fun _ => some ([], false)) (fun k => by simp only [spec_FittingJury.j0, if_true]) (Ev.now _)
 refine Ev.bind (spec_l8Some_ev P L h hi hL) ?_
 unfold juryM
 cases hs : someB P L with
 | false => simp only [Bool.false_eq_true, if_false, Bool.false_and]; exact no
 | true =>
  simp only [if_true, Bool.true_and]
  by_cases c8 : (P.length : Int) > 8
  · rw [decide_eq_false (by omega : ¬ P.length ≤ 8)]
    simp only [if_pos c8, Bool.false_and, Bool.false_eq_true, if_false]; exact no
  · rw [decide_eq_true (by omega : P.length ≤ 8)]
    simp only [if_neg c8, Bool.true_and, spec_l1In_eq, Option.bind_some]
    cases hr : inR 1 3 a1 with
    | false => simp only [Bool.false_eq_true, if_false, Bool.not_false]; exact no
    | true =>
     have hr2 := (inR_iff _ _ _).1 hr
     obtain ⟨b1, b2, b3, b4⟩ := jury_bits hs
     obtain ⟨h1, h2⟩ := some_tell hs
     obtain ⟨kk, rfl⟩ : ∃ kk : Nat, a1 = (kk : Int) := ⟨a1.toNat, by omega⟩
     simp only [Bool.not_true, if_true, Int.toNat_natCast]
     refine Ev.step' (f := fun k => (spec_l8Stumps.f k P L).bind fun S => (spec_l8Fitting.f k P L S [] 0 (kk : Int)).bind fun t => some (t, decide ((t.length : Int) > 0))) (fun k => by simp only [spec_FittingJury.j0, Bool.false_eq_true, if_false]) ?_
     refine Ev.bind (spec_l8Stumps_ev h1 h2) ?_
     have hf := spec_l8Fitting_ev b1 b2 b3 (by omega : 1 ≤ kk) (by omega) b4 kk (stumpsL P).length 0 [] (by simp) (by omega) (fun j hj => by cases hj)
     refine Ev.bind hf ?_
     unfold fitM
     have hc : (impl_FittingJury.seqs kk (stumpsL P).length 0 []).find? (fitB L ((stumpsL P).map (rowM P L))) = (impl_FittingJury.seqs kk (stumpsL P).length 0 []).find? (keepS P L (stumpsL P)) := find_congr _ (fun t ht => fit_eq b2 (sample_tell h1).2.2.1 t (by have := impl_FittingJury.seqs_len _ _ _ _ _ ht; rw [this, List.length_nil]; omega) (seqs_valid (stumpsL P).length kk (stumpsL P).length 0 [] t (Int.le_refl _) (by omega) (fun j hj => by cases hj) ht))
     rw [hc, Int.ofNat_zero]
     cases hq : (impl_FittingJury.seqs kk (stumpsL P).length 0 []).find? (keepS P L (stumpsL P)) with
     | none => exact Ev.now _
     | some t =>
      have hl := impl_FittingJury.seqs_len _ _ _ _ _ (List.mem_of_find?_eq_some hq)
      rw [List.length_nil] at hl
      have hp : decide (((outS (stumpsL P) (some t)).length : Int) > 0) = true := decide_eq_true (by show ((plS (stumpsL P) t).length : Int) > 0; rw [plS_len]; omega)
      rw [hp]
      exact Ev.now _
theorem impl_FittingJury_ev (P : List (List Int)) (L : List Int) (a1 : Int) (h : P.length ≤ maxLen) (hi : ∀ x ∈ P, x.length ≤ maxLen) (hL : L.length ≤ maxLen) : Ev (fun k => impl_FittingJury.f k P L a1) (juryM P L a1) := by
 have no : Ev (fun k => impl_FittingJury.j0 a1 k true P L) ([], false) := Ev.step' (f := fun _ => some ([], false)) (fun k => by simp only [impl_FittingJury.j0, if_true]) (Ev.now _)
 refine Ev.bind (impl_hasPoints_ev P L h hi hL) ?_
 unfold juryM
 cases hs : someB P L with
 | false => simp only [Bool.false_eq_true, if_false, Bool.false_and]; exact no
 | true =>
  simp only [if_true, Bool.true_and]
  by_cases c8 : (P.length : Int) > 8
  · rw [decide_eq_false (by omega : ¬ P.length ≤ 8)]
    simp only [if_pos c8, Bool.false_and, Bool.false_eq_true, if_false]; exact no
  · rw [decide_eq_true (by omega : P.length ≤ 8)]
    simp only [if_neg c8, Bool.true_and, impl_within_eq, Option.bind_some]
    cases hr : inR 1 3 a1 with
    | false => simp only [Bool.false_eq_true, if_false, Bool.not_false]; exact no
    | true =>
     have hr2 := (inR_iff _ _ _).1 hr
     obtain ⟨b1, b2, b3, b4⟩ := jury_bits hs
     obtain ⟨h1, h2⟩ := some_tell hs
     obtain ⟨kk, rfl⟩ : ∃ kk : Nat, a1 = (kk : Int) := ⟨a1.toNat, by omega⟩
     simp only [Bool.not_true, if_true, Int.toNat_natCast]
     refine Ev.step' (f := fun k => (impl_Sample_stumps.f k P L).bind fun S => impl_FittingJury.l0 (kk : Int) k S (S.length : Int) 0 P L S []) (fun k => by simp only [impl_FittingJury.j0, Bool.false_eq_true, if_false]) ?_
     exact Ev.bind (impl_Sample_stumps_ev h1 h2) (impl_FittingJury_ev0 b1 b2 b3 (by omega) (by omega) b4)
theorem jury_small (P : List (List Int)) (L : List Int) (a1 : Int) : (juryM P L a1).1.length ≤ 3 ∧ ∀ x ∈ (juryM P L a1).1, x.f0.length ≤ 4 := by
 unfold juryM
 split
 · next h =>
   simp only [Bool.and_eq_true, decide_eq_true_eq] at h
   obtain ⟨h1, h2⟩ := some_tell h.1
   have hr := (inR_iff _ _ _).1 h.2.2
   have hs := stumps_small h1 h2
   unfold fitM
   cases hq : (impl_FittingJury.seqs a1.toNat (stumpsL P).length 0 []).find? (fitB L ((stumpsL P).map (rowM P L))) with
   | none => simp
   | some t =>
    have hm := List.mem_of_find?_eq_some hq
    have hl := impl_FittingJury.seqs_len _ _ _ _ _ hm
    rw [List.length_nil] at hl
    refine ⟨by show (plS (stumpsL P) t).length ≤ 3; rw [plS_len]; omega, fun x hx => ?_⟩
    obtain ⟨j, hj, rfl⟩ := List.mem_map.1 hx
    have hv := seqs_valid (stumpsL P).length _ _ 0 [] t (Int.le_refl _) (by omega) (fun j hj => by cases hj) hm j hj
    exact hs.2 _ (getD_mem (by omega) _)
 · simp

theorem pure : SFnExactFittingJury.Pure := by
 intro P L a1 ⟨h, hi0⟩ ⟨hL, _⟩ _
 have hi : ∀ x ∈ P, x.length ≤ maxLen := fun x hx => (hi0 x hx).1
 obtain ⟨K1, k1⟩ := laws_szSample_ev P L 1048576 h hi hL (by omega) (by omega)
 by_cases cn : lft 1048576 (sz2 P + L.length) < 0
 · exact .inl ⟨K1, _, k1 K1 (by omega), cn⟩
 · have d := lft_nonneg (Int.not_lt.1 cn)
   have hs := sz2_small (l := P) (n := 1048576) (by omega)
   have hsum : sumN List.length P ≤ 1048576 := by unfold sz2 at d; omega
   have hsm := jury_small P L a1
   have hss := sumN_bd (fun x : S39 => x.f0.length + 1) 5 (juryM P L a1).1 (fun x hx => by have := hsm.2 x hx; omega)
   obtain ⟨K2, k2⟩ := laws_toSample_ev P L hs.1 hs.2 (by omega)
   obtain ⟨K3, k3⟩ := spec_FittingJury_ev P L a1 h hi hL
   obtain ⟨K4, k4⟩ := impl_FittingJury_ev P L a1 h hi hL
   obtain ⟨K5, k5⟩ := laws_eqPlaneS_ev (juryM P L a1).1 (by unfold maxLen; omega) (fun x hx => by have := hsm.2 x hx; unfold maxLen; omega)
   obtain ⟨K6, k6⟩ := laws_eqSample_ev P L h hi hL
   obtain ⟨K7, k7⟩ := laws_markSample_ev P L 1 (by omega) (by omega) (by omega)
   obtain ⟨K8, k8⟩ := laws_markPlaneS_ev (juryM P L a1).1 1 (by omega) (by omega) (by omega)
   obtain ⟨K9, k9⟩ := laws_heldPlaneS_ev (juryM P L a1).1 1 (by omega) (by omega) (by omega)
   let K := K1 + K2 + K3 + K4 + K5 + K6 + K7 + K8 + K9
   exact .inr ⟨K, _, _, _, (juryM P L a1).1, (juryM P L a1).2, _, _, _, _, _, k1 K (by omega), k2 K (by omega), k3 K (by omega), k4 K (by omega), k5 K (by omega), k6 K (by omega), k7 K (by omega), k8 K (by omega), k9 K (by omega), Int.not_lt.1 cn, by omega, by omega⟩
end Go.Proofs.Ytfkfahdikmfpeaa.QFnExactFittingJury
