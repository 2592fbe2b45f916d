/- Short words for steps that the printed texts repeat: each is a theorem whose last argument proves itself by the steps named. -/
import Derived.WalkKit
namespace Go.Proofs.Ytonpekldcnankaa.X
theorem vR {P Q : Prop} (h : Q) (q : Q → P := by intro hh; (with_reducible repeat (first | apply Kd.R_alloc | apply Kd.R_drewN | apply Kd.R_drew)); exact hh) : P := q h
theorem vV {P Q : Prop} (h : Q) (q : Q → P := by intro hh; (with_reducible repeat (first | apply Kd.V_alloc | apply Kd.V_drewN | apply Kd.V_drew)); exact hh) : P := q h
theorem vK {P Q : Prop} (h : Q) (q : Q → P := by intro hh; (with_reducible repeat (first | refine blk_drewN ?_ _ | refine blk_drew ?_ | refine blk_alloc ?_ _)); exact hh) : P := q h
theorem vB {P Q : Prop} (h : Q) (q : Q → P := by intro hh; repeat (first | (with_reducible first | exact hh | apply below_alloc | apply pw_below_drewN | apply below_drew1) | exact hh)) : P := q h
theorem vBg {P Q R : Prop} (h : Q) (g : R) (q : Q → R → P := by intro hh gg; repeat (first | (with_reducible first | exact hh | apply below_alloc | apply pw_below_drewN | apply below_drew1 | refine below_set ?_ gg) | exact hh)) : P := q h g
theorem vA {P : Prop} (q : P := by (try simp only [List.map_toArray, List.map_cons, List.map_nil]); first | done | rfl | (simp only [List.length_drop, List.length_take]; rfl)) : P := q
theorem vP {P : Prop} (q : P := by simp only [Act.put, List.setIfInBounds_toArray, List.set_cons_zero, List.set_cons_succ, i64_w, i32_w]; rfl) : P := q
theorem vQ {P : Prop} (q : P := by intro w'; go_simp; with_reducible rfl) : P := q
theorem vD {P : Prop} (q : P := by first | (with_reducible assumption) | assumption) : P := q
end Go.Proofs.Ytonpekldcnankaa.X
