/- Short names for steps that the printed walks take again and again: a fact carried to the world at hand. -/
import Derived.Test.YtihnijfgdffhjaaWMore
import Derived.Test.YtihnijfgdffhjaaWNEv
import Derived.Test.YtihnijfgdffhjaaWKept
import Derived.Test.YtihnijfgdffhjaaWTab
namespace Go.Proofs.Ytihnijfgdffhjaa.Sh
open Go.RowKit Go.Proofs.YtihnijfgdffhjaaW.PrintWords Go.Proofs.YtihnijfgdffhjaaW.PrintLast Go.Proofs.YtihnijfgdffhjaaW.PrintMore
set_option linter.unusedVariables false
theorem pB {P Q : Prop} (h : Aside0 P) (f : P → Q := by intro h_; (with_reducible repeat (first | refine blk_drewN ?_ _ | refine blk_drew ?_ | refine blk_alloc ?_ _)); exact h_) : Q := f h.out
theorem pR {P Q : Prop} (h : Aside0 P) (f : P → Q := by intro h_; (with_reducible repeat (first | apply Kd.R_alloc | apply Kd.R_drewN | apply Kd.R_drew)); exact h_) : Q := f h.out
theorem pS {P Q : Prop} (h : Aside0 P) (f : P → Q := by intro h_; (with_reducible repeat (first | apply Kd.S_alloc | apply Kd.S_drewN | apply Kd.S_drew)); exact h_) : Q := f h.out
theorem bB {P Q : Prop} (h : Aside0 P) (f : P → Q := by intro h_; repeat (first | (with_reducible first | exact h_ | apply below_alloc | apply pw_below_drewN | apply below_drew1) | exact h_)) : Q := f h.out
theorem bC {P Q R : Prop} (h : Aside0 P) (g : Aside0 R) (f : P → R → Q := by intro h_ g_; repeat (first | (with_reducible first | exact h_ | apply below_alloc | apply pw_below_drewN | apply below_drew1 | refine below_set ?_ g_) | exact h_)) : Q := f h.out g.out
theorem bD {P Q R S : Prop} (h : Aside0 P) (g : Aside0 R) (i : Aside0 S) (f : P → R → S → Q := by intro h_ g_ i_; repeat (first | (with_reducible first | exact h_ | apply below_alloc | apply pw_below_drewN | apply below_drew1 | refine below_set ?_ g_ | refine below_set ?_ i_) | exact h_)) : Q := f h.out g.out i.out
theorem bE {P Q R S T : Prop} (h : Aside0 P) (g : Aside0 R) (i : Aside0 S) (j : Aside0 T) (f : P → R → S → T → Q := by intro h_ g_ i_ j_; repeat (first | (with_reducible first | exact h_ | apply below_alloc | apply pw_below_drewN | apply below_drew1 | refine below_set ?_ g_ | refine below_set ?_ i_ | refine below_set ?_ j_) | exact h_)) : Q := f h.out g.out i.out j.out
theorem cB {P Q R : Prop} (h : Aside0 P) (b : Aside0 R) (f : P → R → Q := by intro h_ b_; repeat (first | exact (Kd.C_below h_ b_) | (with_reducible refine Kd.C_alloc ?_ _) | (with_reducible refine Kd.C_drewN ?_ _) | (with_reducible refine Kd.C_drew ?_))) : Q := f h.out b.out
theorem cR {P Q : Prop} (h : Aside0 P) (f : P → Q := by intro h_; repeat (first | exact (Kd.R_reads' h_).2.2 | (with_reducible refine Kd.C_alloc ?_ _) | (with_reducible refine Kd.C_drewN ?_ _) | (with_reducible refine Kd.C_drew ?_))) : Q := f h.out
theorem cS {P Q : Prop} (h : Aside0 P) (f : P → Q := by intro h_; repeat (first | exact (Kd.S_reads' h_).2.2 | (with_reducible refine Kd.C_alloc ?_ _) | (with_reducible refine Kd.C_drewN ?_ _) | (with_reducible refine Kd.C_drew ?_))) : Q := f h.out
theorem aT {P : Prop} (f : P := by (try simp only [List.map_toArray, List.map_cons, List.map_nil]); first | done | rfl | (simp only [List.length_drop, List.length_take]; rfl)) : P := f
theorem aP {P : Prop} (f : P := by simp only [Act.put, List.setIfInBounds_toArray, List.set_cons_zero, List.set_cons_succ, i64_w, i32_w]; rfl) : P := f
theorem eW {P : Prop} (f : P := by first | rfl | (simp [errW_none, errW_some] <;> rfl) | (simp [*, errW_none, errW_some] <;> rfl)) : P := f
theorem rD {P : Prop} (f : P := by first | rfl | (simp; done) | (simp [*]; done)) : P := f
theorem aS {P : Prop} (f : P := by first | (with_reducible assumption) | assumption) : P := f
theorem nL {P : Prop} (f : P := by first | exact Nat.le_refl _ | (simp; done)) : P := f
end Go.Proofs.Ytihnijfgdffhjaa.Sh
