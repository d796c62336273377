import PyProof.Rows.All
import Wide.All
import OpenK.AllK
import Wide.FinOn
import Open.SpecLaws
import KE.OsGo
import HandS.ForSpec
import HandS.TryMany
import HandS.Comp
import HandS.Dict
import HandS.Iter
import HandS.Text
import HandS.Wide
import HandS.WordsDict
import HandS.NoneIn
import HandS.RevRange
import HandS.Style
import HandS.TupAny
import HandS.SetFor
import HandS.Codes
import HandS.CallLocal
import HandS.CallRecv
import HandS.ExcInit
import HandS.ExcField
import HandS.Defaults
import HandS.Head4
import HandS.HeadHook1
import HandS.HeadHook2
import HandS.HeadHook3
import HandS.HeadHook4
import HandS.Evl
import HandS.Flow
import HandS.Conv
import PySem.Challenge.RW_stopearly_s01_answers
import HandS.Walk
import KE.KDictDisplayH
import Kxd7Spec
import PyKxd7
set_option Elab.async false
set_option linter.all false
set_option maxRecDepth 100000
set_option maxHeartbeats 4000000
/-! ## the text: each def by its place -/
namespace SE
open PySem PySem.Spec PyProof.Rows L2
def topS (i : Nat) : Stmt := PySem.Challenge.pw_stopearly_s01_answers.main.body.getD i (.Pass ⟨0, 0, 0, 0⟩)
def dG (p : Str × Nat) : He.DefD := ⟨(p.1, none), p.1, p.1, defArgs (topS p.2), defBody (topS p.2), defScope (topS p.2), [], []⟩
def dM (p : Str × Str × Str × Nat × Nat) : He.DefD := ⟨(p.1, some p.2.1), p.2.1, p.2.2.1, defArgs (inClass (topS p.2.2.2.1) p.2.2.2.2), defBody (inClass (topS p.2.2.2.1) p.2.2.2.2), defScope (inClass (topS p.2.2.2.1) p.2.2.2.2), [], []⟩
def gl0 : List (Str × Nat) := [("horizon_of", 4), ("has_point", 5), ("new_plan", 6), ("single_plan", 7), ("last_row", 8), ("two_stage_plan", 9), ("with_decision", 10), ("ways_behind", 11), ("ways_from", 12), ("all_ways", 13), ("lucky_ways", 14), ("stops_of", 15), ("is_stop", 16), ("outcomes_of", 17), ("outcome_rows", 18), ("decided", 19), ("curtailed", 20), ("ratio", 22), ("plus", 23), ("times", 24)]
def gl1 : List (Str × Nat) := [("is_below", 25), ("power", 26), ("chance", 27), ("weighted", 29), ("acceptance", 30), ("rejection", 31), ("expected_size", 32), ("stop_probability", 33), ("is_at_least", 34), ("is_at_most", 35), ("likely", 36), ("likelihood_plan", 37), ("choices", 41), ("exactly", 42), ("at_most", 43), ("accepted", 44), ("expected", 45), ("all_stages", 46), ("keeps", 47), ("best_stages", 48)]
def gl2 : List (Str × Nat) := [("with_more", 52), ("value_by", 53), ("best_value", 54), ("layers_of", 55), ("values_behind", 56), ("values_of", 57), ("successes", 58), ("demand", 71), ("demand_between", 72), ("demand_share", 73), ("demand_pair", 74), ("told", 75), ("create", 76), ("set_decision", 77), ("single", 78), ("likelihood", 79), ("two_stage", 80), ("curtail", 81), ("problem_of", 82), ("optimal", 83)]
def gl3 : List (Str × Nat) := [("decision_at", 84), ("paths", 85), ("stop_count", 86), ("told_acceptance", 87), ("told_size", 88), ("told_stop", 89), ("errors", 90), ("plan_cost", 91), ("least_cost", 92), ("unbiased", 93), ("best_two_stage", 94), ("told_successes", 95), ("told_row", 96), ("summary", 97), ("answer_of", 99), ("answers", 100)]
def glD : List (Str × Nat) := gl0 ++ gl1 ++ gl2 ++ gl3
def msD : List (Str × Str × Str × Nat × Nat) := [("Problem", "__init__", "Problem.__init__", 39, 0), ("Problem", "whole", "Problem.whole", 39, 1), ("Problem", "weights", "Problem.weights", 39, 2), ("Problem", "stop_cost", "Problem.stop_cost", 39, 3), ("Problem", "step_cost", "Problem.step_cost", 39, 4), ("Problem", "best_stop", "Problem.best_stop", 39, 5), ("Problem", "best_row", "Problem.best_row", 39, 6), ("Problem", "best_rows", "Problem.best_rows", 39, 7), ("Problem", "optimal_plan", "Problem.optimal_plan", 39, 8), ("Problem", "least_cost", "Problem.least_cost", 39, 9), ("Problem", "cost_of", "Problem.cost_of", 39, 10), ("Refusal", "__init__", "Refusal.__init__", 69, 0), ("Desk", "__init__", "Desk.__init__", 70, 0), ("Desk", "plan", "Desk.plan", 70, 1), ("Desk", "horizon", "Desk.horizon", 70, 2), ("Desk", "give", "Desk.give", 70, 3)]
def fnD : List He.DefD := glD.map dG ++ msD.map dM
def fa0 : List He.Fa := [.glo "horizon_of", .glo "has_point", .glo "new_plan", .glo "single_plan", .glo "last_row", .glo "two_stage_plan", .glo "with_decision", .glo "ways_behind", .glo "ways_from", .glo "all_ways", .glo "lucky_ways", .glo "stops_of", .glo "is_stop", .glo "outcomes_of", .glo "outcome_rows", .glo "decided", .glo "curtailed", .glo "ratio", .glo "plus", .glo "times", .glo "is_below", .glo "power", .glo "chance", .glo "weighted", .glo "acceptance", .glo "rejection", .glo "expected_size", .glo "stop_probability", .glo "is_at_least", .glo "is_at_most"]
def fa1 : List He.Fa := [.glo "likely", .glo "likelihood_plan", .glo "Problem", .glo "choices", .glo "exactly", .glo "at_most", .glo "accepted", .glo "expected", .glo "all_stages", .glo "keeps", .glo "best_stages", .glo "NOUGHT", .glo "ONE", .glo "with_more", .glo "value_by", .glo "best_value", .glo "layers_of", .glo "values_behind", .glo "values_of", .glo "successes", .glo "MANY", .glo "Refusal", .glo "Desk", .glo "demand", .glo "demand_between", .glo "demand_share", .glo "demand_pair", .glo "told", .glo "create", .glo "set_decision"]
def fa2 : List He.Fa := [.glo "single", .glo "likelihood", .glo "two_stage", .glo "curtail", .glo "problem_of", .glo "optimal", .glo "decision_at", .glo "paths", .glo "stop_count", .glo "told_acceptance", .glo "told_size", .glo "told_stop", .glo "errors", .glo "plan_cost", .glo "least_cost", .glo "unbiased", .glo "best_two_stage", .glo "told_successes", .glo "told_row", .glo "summary", .glo "DEEDS", .glo "answer_of", .glo "answers", .free "len", .free "range", .free "enumerate", .free "reversed", .free "int", .free "sum", .free "min"]
def fa3 : List He.Fa := [.free "max", .free "list", .free "tuple", .free "ValueError", .int "GO_ON" 0, .int "ACCEPT" 1, .int "REJECT" 2, .int "CREATE" 0, .int "MOST_HORIZON" 20, .int "MOST_DIVISOR" 1000, .int "MOST_BOUND" 1000000, .int "MOST_COST" 1000, .int "MOST_LOSS" 100000, .int "MOST_TRIALS" 7, .int "MOST_WEIGHT" 100, .cls "Problem", .mkr "Problem", .cls "Desk", .mkr "Desk", .noat "Problem" "most", .noat "Problem" "p0", .noat "Problem" "p1", .noat "Problem" "divisor", .noat "Problem" "prior", .noat "Problem" "prior_divisor", .noat "Problem" "cost", .noat "Problem" "loss0", .noat "Problem" "loss1", .noat "Desk" "plans", .meth "Problem" "whole"]
def fa4 : List He.Fa := [.meth "Problem" "weights", .meth "Problem" "stop_cost", .meth "Problem" "step_cost", .meth "Problem" "best_stop", .meth "Problem" "best_row", .meth "Problem" "best_rows", .meth "Problem" "optimal_plan", .meth "Problem" "least_cost", .meth "Problem" "cost_of", .meth "Desk" "plan", .meth "Desk" "horizon", .meth "Desk" "give"]
def faD : List He.Fa := fa0 ++ fa1 ++ fa2 ++ fa3 ++ fa4
def manyD : List Int := [1, 3, 1, 7, 3, 0, 8, 2, 2, 0, 2, 2, 3, 3, 8, 8, 2, 8, 5, 1, 0]
def deedsD : List Str := ["create", "set_decision", "single", "likelihood", "two_stage", "curtail", "optimal", "decision_at", "paths", "stop_count", "told_acceptance", "told_size", "told_stop", "errors", "plan_cost", "least_cost", "unbiased", "best_two_stage", "told_successes", "told_row", "summary"]
/-- what the class of errors must be -/
def oexB (K : PySem.W.Frag) (C : Addr) : Bool := match K.lookup C with
  | some ⟨.type t, _, .cls cd, sl⟩ => (match sl.toList with
    | [_, _, _, _, some (.builtin nid), _] => (match cd.mro with
      | .ref c :: bm => decide (t = "type") && (decide (nid = "ValueError.__new__") && (decide (c = C) && (PySem.HandSPX.refsVE bm && (cd.hasDict && !cd.hasDel))))
      | _ => false)
    | _ => false)
  | _ => false
def exD (K : PySem.W.Frag) : Bool :=
  He.tupB K "MANY" (manyD.map fun n => .int (n : Int)) && (He.tupB K "DEEDS" (deedsD.map .glo) && (He.tupB K "NOUGHT" [.int 0, .int 1] && (He.tupB K "ONE" [.int 1, .int 1] && (oexB K (He.ga K "Refusal") && (xfB K (He.ga K "Refusal") &&
  (He.eqO (PySem.W.findIn K (.ref (He.ga K "Refusal")) "__setattr__") (some (some (.builtin "object.__setattr__"))) && (He.eqO (PySem.W.findIn K (.ref (He.ga K "Refusal")) "code") (some none) &&
  (He.eqO (PySem.W.findIn K (.ref (He.ga K "Refusal")) "__init__") (some (some (.ref (He.ma K (He.ga K "Refusal") "__init__")))) && (decide (PySem.W.typeIn K (.ref (He.ma K (He.ga K "Refusal") "__init__")) = some (.type "function")) &&
  (decide (PySem.W.typeIn K (.ref (He.ga K "Refusal")) = some (.type "type")) && (PySem.W.keepIn K (.ref (He.ga K "Refusal")) && (decide (PySem.W.exmOne K (.ref (He.ga K "Refusal")) (.ref (He.ga K "Refusal")) = some true)))))))))))))
/-- the places of the heap behind the head -/
def asN : List Addr := List.range 676
abbrev hkX : PySem.W.Hook := He.hookX 5 faD fnD [] [] exD
def obN (g : Addr → Option Obj) : He.AlX := (He.obsT faD fnD [] (He.frT g asN), exD (He.frT g asN))
abbrev hkD : PySem.W.Hook where
  α := He.AlX
  obs := fun s => obN s.heap.get?
  val := fun w => He.valX fnD [] w
  says := hkX.says
  of := fun w s e => ⟨He.frT s.heap.get? asN, He.frT_in, ⟨congrArg (fun z : He.AlX => z.1) e, congrArg (fun z : He.AlX => z.2) e, (fun _ h => nomatch h), (fun _ h => nomatch h), (fun _ h => nomatch h)⟩⟩
  keeps := hkX.keeps
def obD (s : PySem.W.SharedT) : He.AlX := obN (HandSHeadRun.getT s)
theorem obD_eq (s : PySem.W.SharedT) : obD s = hkD.obs s.abs := congrArg obN (funext (HandSHeadRun.getT_eq s))
abbrev rwD : PySem.W.OpenSpec := PySem.Challenge.rw_stopearly_s01_answers
abbrev qvD : Program := PySem.W.view rwD.prog [100]
def lo0 : List Str := ["GO_ON", "ACCEPT", "REJECT", "horizon_of", "has_point", "new_plan", "single_plan", "last_row", "two_stage_plan", "with_decision", "ways_behind", "ways_from", "all_ways", "lucky_ways", "stops_of", "is_stop", "outcomes_of", "outcome_rows", "decided", "curtailed", "ratio", "plus", "times", "is_below", "power", "chance", "weighted", "acceptance", "rejection", "expected_size"]
def lo1 : List Str := ["stop_probability", "is_at_least", "is_at_most", "likely", "likelihood_plan", "Problem", "choices", "exactly", "at_most", "accepted", "expected", "all_stages", "keeps", "best_stages", "NOUGHT", "ONE", "with_more", "value_by", "best_value", "layers_of", "values_behind", "values_of", "successes", "MANY", "CREATE", "MOST_HORIZON", "MOST_DIVISOR", "MOST_BOUND", "MOST_COST", "MOST_LOSS"]
def lo2 : List Str := ["MOST_TRIALS", "MOST_WEIGHT", "Refusal", "Desk", "demand", "demand_between", "demand_share", "demand_pair", "told", "create", "set_decision", "single", "likelihood", "two_stage", "curtail", "problem_of", "optimal", "decision_at", "paths", "stop_count", "told_acceptance", "told_size", "told_stop", "errors", "plan_cost", "least_cost", "unbiased", "best_two_stage", "told_successes", "told_row"]
def lo3 : List Str := ["summary", "DEEDS", "answer_of"]
def loD : List Str := lo0 ++ lo1 ++ lo2 ++ lo3
end SE
/-! ## the head's run, in parts -/
namespace SE
open PySem PySem.Spec PyProof.Rows L2
theorem map_pair {σ α β : Type} {o : Option σ} {f : σ → α} {g : σ → β} {a : α} {b : β} (h : o.map f = some a) (k : o.map g = some b) : o.map (fun s => (f s, g s)) = some (a, b) := by
  cases o with
  | none => cases h
  | some s =>
    have h1 : f s = a := Option.some.inj h
    have k1 : g s = b := Option.some.inj k
    rw [← h1, ← k1]
    rfl
open PySem.W HandSHeadRun in
theorem runA (w : World) (os : OsState) : (endF (stepQ (denQ tabQ) rwD.prog w) 6000 rwD.prog w os).map (fun s => looksF rwD.prog (boot_heap w.params) s.abs) = some true := by
  kernel_rfl
open PySem.W HandSHeadRun in
theorem runB (w : World) (os : OsState) : (endF (stepQ (denQ tabQ) rwD.prog w) 6000 rwD.prog w os).map (fun s => seenQ qvD loD (importedModules rwD.prog.main.body) (fun s => xlAt qvD [] s && recOk [] s) s.abs) = some (openGood qvD loD) := by
  kernel_rfl
open PySem.W HandSHeadRun in
theorem runC (w : World) (os : OsState) : (endF (stepQ (denQ tabQ) rwD.prog w) 6000 rwD.prog w os).map obD = some (hkD.val w) := by
  kernel_rfl
theorem runD (w : World) : HandSHeadRun.RunEqS rwD qvD hkD obD 6000 loD w := fun os => map_pair (runA w os) (map_pair (runB w os) (runC w os))
end SE
namespace SE
open Kxd7
/-! ## fractions: what a spec fraction is worth -/
/-- a fraction in lowest terms, denominator positive -/
structure Ok (x : Fraction) : Prop where
  pos : 0 < x.denominator
  low : Int.gcd x.numerator x.denominator = 1
/-- x is worth n / d -/
structure Is (x : Fraction) (n d : Int) : Prop where
  ok : Ok x
  pos : 0 < d
  eq : x.numerator * d = n * (x.denominator : Int)

theorem fraction_pos {n d : Int} (h : 0 < d) : fraction n d = ⟨n / (Int.gcd n d : Int), (d / (Int.gcd n d : Int)).toNat⟩ := by
  unfold fraction
  dsimp only
  rw [if_neg (by omega), if_neg (by omega)]
theorem gcd_pos {n d : Int} (h : 0 < d) : 0 < Int.gcd n d := Nat.pos_of_ne_zero fun e => by
  have := (Int.gcd_eq_zero_iff.mp e).2
  omega
theorem div_gcd_pos {n d : Int} (h : 0 < d) : 0 < d / (Int.gcd n d : Int) := by
  have h1 := Int.gcd_dvd_right n d
  obtain ⟨k, hk⟩ := h1
  have hg : (0 : Int) < (Int.gcd n d : Int) := by exact_mod_cast gcd_pos h
  have e : d / (Int.gcd n d : Int) = k := by
    conv => lhs; lhs; rw [hk]
    exact Int.mul_ediv_cancel_left _ (by omega)
  rw [e]
  have : 0 < (Int.gcd n d : Int) * k := by rw [← hk]; exact h
  exact Int.pos_of_mul_pos_right this hg
theorem fraction_is {n d : Int} (h : 0 < d) : Is (fraction n d) n d := by
  have hg : (0 : Int) < (Int.gcd n d : Int) := by exact_mod_cast gcd_pos h
  have hd := div_gcd_pos (n := n) h
  rw [fraction_pos h]
  refine ⟨⟨?_, ?_⟩, h, ?_⟩
  · show 0 < (d / (Int.gcd n d : Int)).toNat
    omega
  · show Int.gcd (n / (Int.gcd n d : Int)) ((d / (Int.gcd n d : Int)).toNat : Int) = 1
    rw [Int.toNat_of_nonneg (by omega), Int.gcd_ediv (Int.gcd_dvd_left n d) (Int.gcd_dvd_right n d), Int.natAbs_natCast]
    exact Nat.div_self (gcd_pos h)
  · show n / (Int.gcd n d : Int) * d = n * ((d / (Int.gcd n d : Int)).toNat : Int)
    rw [Int.toNat_of_nonneg (by omega)]
    have e1 := Int.mul_ediv_cancel' (Int.gcd_dvd_left n d)
    have e2 := Int.mul_ediv_cancel' (Int.gcd_dvd_right n d)
    generalize (Int.gcd n d : Int) = g at *
    generalize n / g = a at *
    generalize d / g = b at *
    subst e1 e2
    grind
theorem Is.dpos {x : Fraction} {n d : Int} (h : Is x n d) : (0 : Int) < (x.denominator : Int) := by have := h.ok.pos; omega
/-- worth the same: the same -/
theorem Is.uniq {x y : Fraction} {n d : Int} (h : Is x n d) (k : Is y n d) : x = y := by
  obtain ⟨xn, xd⟩ := x
  obtain ⟨yn, yd⟩ := y
  have h1 := h.eq
  have h2 := k.eq
  have hx := h.ok.pos
  have hy := k.ok.pos
  have hd := h.pos
  have lx := h.ok.low
  have ly := k.ok.low
  dsimp only at *
  have cr : xn * (yd : Int) = yn * (xd : Int) := by
    have : xn * (yd : Int) * d = yn * (xd : Int) * d := by grind
    exact Int.eq_of_mul_eq_mul_right (by omega) this
  have n1 : xn.natAbs * yd = yn.natAbs * xd := by
    have := congrArg Int.natAbs cr
    simpa [Int.natAbs_mul] using this
  have c1 : Nat.Coprime xd xn.natAbs := by
    have : Nat.gcd xn.natAbs xd = 1 := by simpa [Int.gcd] using lx
    exact (Nat.gcd_comm _ _).trans this
  have c2 : Nat.Coprime yd yn.natAbs := by
    have : Nat.gcd yn.natAbs yd = 1 := by simpa [Int.gcd] using ly
    exact (Nat.gcd_comm _ _).trans this
  have d1 : xd ∣ yd := c1.dvd_of_dvd_mul_left ⟨yn.natAbs, by rw [n1, Nat.mul_comm]⟩
  have d2 : yd ∣ xd := c2.dvd_of_dvd_mul_left ⟨xn.natAbs, by rw [← n1, Nat.mul_comm]⟩
  have e : xd = yd := Nat.dvd_antisymm d1 d2
  subst e
  have : xn = yn := Int.eq_of_mul_eq_mul_right (by omega) cr
  rw [this]
theorem Is.to {x : Fraction} {n d n' d' : Int} (h : Is x n d) (hd : 0 < d') (e : n * d' = n' * d) : Is x n' d' := by
  refine ⟨h.ok, hd, ?_⟩
  have h1 := h.eq
  have h2 := h.pos
  have : x.numerator * d' * d = n' * (x.denominator : Int) * d := by grind
  exact Int.eq_of_mul_eq_mul_right (by omega) this
theorem Is.frac {x : Fraction} {n d : Int} (h : Is x n d) : x = fraction n d := h.uniq (fraction_is h.pos)
theorem frac_eq {n d n' d' : Int} (hd : 0 < d) (hd' : 0 < d') (e : n * d' = n' * d) : fraction n d = fraction n' d' := ((fraction_is hd).to hd' e).frac
theorem Ok.is {x : Fraction} (h : Ok x) : Is x x.numerator x.denominator := ⟨h, by have := h.pos; omega, rfl⟩
theorem is_of_ok {x : Fraction} (h : Ok x) : x = fraction x.numerator x.denominator := h.is.frac
theorem ok_frac {n d : Int} (h : 0 < d) : Ok (fraction n d) := (fraction_is h).ok

section
variable {x y : Fraction} {a b c d : Int}
theorem is_int (n : Int) : Is (ofInt n) n 1 := ⟨⟨Nat.one_pos, by simp [ofInt]⟩, by decide, rfl⟩
theorem is_nat (n : Nat) : Is (ofNat n) n 1 := ⟨⟨Nat.one_pos, by simp [ofNat]⟩, by decide, rfl⟩
theorem is_zero : Is (⟨0, 1⟩ : Fraction) 0 1 := ⟨⟨by decide, by decide⟩, by decide, rfl⟩
theorem is_zeroD (h : 0 < d) : Is (⟨0, 1⟩ : Fraction) 0 d := is_zero.to h (by grind)
theorem is_one : Is (⟨1, 1⟩ : Fraction) 1 1 := ⟨⟨by decide, by decide⟩, by decide, rfl⟩
theorem Is.plus (h : Is x a b) (k : Is y c d) : Is (Kxd7.plus x y) (a * d + c * b) (b * d) := by
  have h1 := h.eq; have h2 := k.eq
  have p1 := h.dpos; have p2 := k.dpos
  refine (fraction_is (Int.mul_pos p1 p2)).to (Int.mul_pos h.pos k.pos) ?_
  grind
theorem Is.times (h : Is x a b) (k : Is y c d) : Is (Kxd7.times x y) (a * c) (b * d) := by
  have h1 := h.eq; have h2 := k.eq
  have p1 := h.dpos; have p2 := k.dpos
  refine (fraction_is (Int.mul_pos p1 p2)).to (Int.mul_pos h.pos k.pos) ?_
  grind
theorem Is.negative (h : Is x a b) : Is (Kxd7.negative x) (-a) b := by
  have h1 := h.eq
  refine ⟨⟨h.ok.pos, ?_⟩, h.pos, ?_⟩
  · have := h.ok.low
    show Int.gcd (-x.numerator) x.denominator = 1
    rw [Int.neg_gcd]; exact this
  · show -x.numerator * b = -a * (x.denominator : Int)
    grind
theorem Is.minus (h : Is x a b) (k : Is y c d) : Is (Kxd7.minus x y) (a * d - c * b) (b * d) :=
  (h.plus k.negative).to (Int.mul_pos h.pos k.pos) (by grind)
theorem Is.over (h : Is x a b) (k : Is y c d) (hc : 0 < c) : Is (Kxd7.over x y) (a * d) (b * c) := by
  have h1 := h.eq; have h2 := k.eq
  have p1 := h.dpos; have p2 := k.dpos
  have q : 0 < y.numerator := by
    have : 0 < y.numerator * d := by rw [h2]; exact Int.mul_pos hc p2
    exact Int.pos_of_mul_pos_left this k.pos
  refine (fraction_is (Int.mul_pos p1 q)).to (Int.mul_pos h.pos hc) ?_
  grind
theorem Is.lt (h : Is x a b) (k : Is y c d) : Kxd7.isLess x y = decide (a * d < c * b) := by
  have h1 := h.eq; have h2 := k.eq
  have p1 := h.dpos; have p2 := k.dpos
  have p3 := h.pos; have p4 := k.pos
  unfold isLess
  have e1 : (x.numerator * (y.denominator : Int)) * (b * d) = (a * d) * ((x.denominator : Int) * (y.denominator : Int)) := by grind
  have e2 : (y.numerator * (x.denominator : Int)) * (b * d) = (c * b) * ((x.denominator : Int) * (y.denominator : Int)) := by grind
  have q1 : 0 < b * d := Int.mul_pos p3 p4
  have q2 : 0 < (x.denominator : Int) * (y.denominator : Int) := Int.mul_pos p1 p2
  refine decide_eq_decide.mpr ⟨fun z => ?_, fun z => ?_⟩
  · have := Int.mul_lt_mul_of_pos_right z q1
    rw [e1, e2] at this
    exact Int.lt_of_mul_lt_mul_right this (Int.le_of_lt q2)
  · have := Int.mul_lt_mul_of_pos_right z q2
    rw [← e1, ← e2] at this
    exact Int.lt_of_mul_lt_mul_right this (Int.le_of_lt q1)
theorem Is.le (h : Is x a b) (k : Is y c d) : Kxd7.isAtMost x y = decide (a * d ≤ c * b) := by
  unfold isAtMost
  rw [k.lt h, ← decide_not]
  exact decide_eq_decide.mpr ⟨fun z => by omega, fun z => by omega⟩
theorem Is.power (h : Is x a b) : ∀ n : Nat, Is (Kxd7.power x n) (a ^ n) (b ^ n)
  | 0 => by
    rw [Int.pow_zero, Int.pow_zero]
    exact is_one
  | n + 1 => by
    have := h.times (h.power n)
    rw [Int.pow_succ, Int.pow_succ]
    exact this.to (Int.mul_pos (Int.pow_pos h.pos) h.pos) (by grind)
end
theorem is_share {n d : Nat} (h : 0 < d) : Is (share n d) n d := fraction_is (by omega)
/-- a sum over one denominator -/
theorem total_go {α : Type} (f : α → Fraction) (g : α → Int) {D : Int} (hD : 0 < D) : ∀ (l : List α) (acc : Fraction) (A : Int), Is acc A D → (∀ z ∈ l, Is (f z) (g z) D) → Is ((l.map f).foldl Kxd7.plus acc) (A + (l.map g).sum) D
  | [], acc, A, h, _ => by simpa using h
  | z :: l, acc, A, h, k => by
    have h1 := h.plus (k z (by simp))
    have h2 : Is (Kxd7.plus acc (f z)) (A + g z) D := h1.to hD (by grind)
    have := total_go f g hD l _ _ h2 (fun y hy => k y (by simp [hy]))
    simpa [Int.add_assoc] using this
theorem total_is {α : Type} (f : α → Fraction) (g : α → Int) {D : Int} (hD : 0 < D) (l : List α) (k : ∀ z ∈ l, Is (f z) (g z) D) : Is (total (l.map f)) (l.map g).sum D := by
  have := total_go f g hD l ⟨0, 1⟩ 0 (is_zeroD hD) k
  simpa [total] using this
end SE
namespace SE
open Kxd7
/-! ## sums -/
def sumR (f : Nat → Int) : Nat → Int
  | 0 => 0
  | n + 1 => sumR f n + f n
theorem sumR_succ (f : Nat → Int) (n : Nat) : sumR f (n + 1) = sumR f n + f n := rfl
theorem sumR_zero (f : Nat → Int) : sumR f 0 = 0 := rfl
theorem sum_range (f : Nat → Int) : ∀ n, ((List.range n).map f).sum = sumR f n
  | 0 => rfl
  | n + 1 => by
    rw [List.range_succ, List.map_append, List.sum_append, sum_range f n]
    simp [sumR]
theorem sumR_congr {f g : Nat → Int} : ∀ {n : Nat}, (∀ i, i < n → f i = g i) → sumR f n = sumR g n
  | 0, _ => rfl
  | n + 1, h => by rw [sumR, sumR, sumR_congr (fun i hi => h i (by omega)), h n (by omega)]
theorem sumR_add (f g : Nat → Int) : ∀ n, sumR (fun i => f i + g i) n = sumR f n + sumR g n
  | 0 => rfl
  | n + 1 => by rw [sumR, sumR, sumR, sumR_add f g n]; omega
theorem sumR_mul (c : Int) (f : Nat → Int) : ∀ n, sumR (fun i => c * f i) n = c * sumR f n
  | 0 => by simp [sumR]
  | n + 1 => by rw [sumR, sumR, sumR_mul c f n, Int.mul_add]
theorem sumR_zero' : ∀ n, sumR (fun _ => 0) n = 0
  | 0 => rfl
  | n + 1 => by rw [sumR, sumR_zero' n]; rfl
/-- the first one apart -/
theorem sumR_head (f : Nat → Int) : ∀ n, sumR f (n + 1) = f 0 + sumR (fun i => f (i + 1)) n
  | 0 => by simp [sumR]
  | n + 1 => by rw [sumR, sumR_head f n, sumR]; omega
theorem sumR_nonneg {f : Nat → Int} : ∀ {n}, (∀ i, i < n → 0 ≤ f i) → 0 ≤ sumR f n
  | 0, _ => Int.le_refl 0
  | n + 1, h => by
    have := sumR_nonneg (n := n) fun i hi => h i (by omega)
    have := h n (by omega)
    rw [sumR]; omega
theorem sumR_le {f g : Nat → Int} : ∀ {n}, (∀ i, i < n → f i ≤ g i) → sumR f n ≤ sumR g n
  | 0, _ => Int.le_refl 0
  | n + 1, h => by
    have := sumR_le (n := n) fun i hi => h i (by omega)
    have := h n (by omega)
    rw [sumR, sumR]; omega
theorem sum_filter {α : Type} (c : α → Bool) (f : α → Int) : ∀ l : List α, ((l.filter c).map f).sum = (l.map fun z => if c z = true then f z else 0).sum
  | [] => rfl
  | z :: l => by
    rw [List.filter_cons]
    by_cases h : c z = true
    · rw [if_pos h, List.map_cons, List.sum_cons, List.map_cons, List.sum_cons, sum_filter c f l, if_pos h]
    · rw [if_neg h, List.map_cons, List.sum_cons, sum_filter c f l, if_neg h]; omega
theorem sum_flatMap {α β : Type} (k : α → List β) (f : β → Int) : ∀ l : List α, ((l.flatMap k).map f).sum = (l.map fun z => ((k z).map f).sum).sum
  | [] => rfl
  | z :: l => by rw [List.flatMap_cons, List.map_append, List.sum_append, sum_flatMap k f l, List.map_cons, List.sum_cons]
theorem sum_congr {α : Type} {f g : α → Int} : ∀ {l : List α}, (∀ z ∈ l, f z = g z) → (l.map f).sum = (l.map g).sum
  | [], _ => rfl
  | z :: l, h => by rw [List.map_cons, List.map_cons, List.sum_cons, List.sum_cons, h z (by simp), sum_congr fun y hy => h y (by simp [hy])]

/-! ## plans -/
structure Wf (p : Plan) : Prop where
  h1 : 1 ≤ p.horizon
  h2 : p.horizon ≤ 20
  len : p.table.length = p.horizon + 1
  row : ∀ n, n ≤ p.horizon → (p.table.getD n []).length = n + 1
  dec : ∀ n s, n ≤ p.horizon → s ≤ n → decision p n s ≤ 2
  last : ∀ s, s ≤ p.horizon → decision p p.horizon s ≠ 0

theorem mask_len (p : Plan) (n : Nat) (l : List Nat) : (l.zipIdx.map fun z => if decision p n z.2 = 0 then z.1 else 0).length = l.length := by simp
theorem pathRow_len (p : Plan) : ∀ n, (pathRow p n).length = n + 1
  | 0 => rfl
  | n + 1 => by
    show (List.zipWith _ _ _).length = _
    simp [pathRow_len p n]
theorem getD_zipIdx_mask (p : Plan) (n : Nat) (l : List Nat) (s : Nat) : (l.zipIdx.map fun z => if decision p n z.2 = 0 then z.1 else 0).getD s 0 = if decision p n s = 0 then l.getD s 0 else 0 := by
  rw [List.getD_eq_getElem?_getD, List.getElem?_map, List.getElem?_zipIdx, List.getD_eq_getElem?_getD]
  cases h : l[s]? with
  | none => simp
  | some v => simp
/-- what is not stopped goes on: the recursion of the numbers of paths -/
def openP (p : Plan) (n s : Nat) : Nat := if decision p n s = 0 then paths p n s else 0
theorem paths_zero (p : Plan) (s : Nat) : paths p 0 s = if s = 0 then 1 else 0 := by
  show [1].getD s 0 = _
  cases s <;> rfl
theorem paths_out (p : Plan) (n s : Nat) (h : n < s) : paths p n s = 0 := by
  unfold paths
  rw [List.getD_eq_getElem?_getD, List.getElem?_eq_none (by rw [pathRow_len]; omega)]
  rfl
theorem openP_out (p : Plan) (n s : Nat) (h : n < s) : openP p n s = 0 := by
  unfold openP
  rw [paths_out p n s h]; split <;> rfl
theorem zw_getD : ∀ (a b : List Nat) (s : Nat), a.length = b.length → (List.zipWith (· + ·) a b).getD s 0 = a.getD s 0 + b.getD s 0
  | [], [], s, _ => by simp
  | x :: a, y :: b, 0, _ => by simp
  | x :: a, y :: b, s + 1, h => by simpa using zw_getD a b s (by simpa using h)
theorem getD_snoc (l : List Nat) (s : Nat) : (l ++ [0]).getD s 0 = l.getD s 0 := by
  rw [List.getD_eq_getElem?_getD, List.getD_eq_getElem?_getD]
  by_cases h : s < l.length
  · rw [List.getElem?_append_left h]
  · rw [List.getElem?_append_right (by omega), List.getElem?_eq_none (l := l) (by omega)]
    cases e : s - l.length <;> simp
theorem paths_succ (p : Plan) (n s : Nat) : paths p (n + 1) s = openP p n s + (match s with | 0 => 0 | t + 1 => openP p n t) := by
  show (List.zipWith (· + ·) ((((pathRow p n).zipIdx.map fun z => if decision p n z.2 = 0 then z.1 else 0)) ++ [0]) (0 :: ((pathRow p n).zipIdx.map fun z => if decision p n z.2 = 0 then z.1 else 0))).getD s 0 = _
  rw [zw_getD _ _ _ (by simp), getD_snoc, getD_zipIdx_mask]
  show openP p n s + _ = _
  congr 1
  cases s with
  | zero => rfl
  | succ t =>
    show (List.map _ _).getD t 0 = _
    rw [getD_zipIdx_mask]
    rfl
theorem paths_le (p : Plan) : ∀ n s, paths p n s ≤ 2 ^ n
  | 0, s => by rw [paths_zero]; split <;> simp
  | n + 1, s => by
    have ho : ∀ t, openP p n t ≤ 2 ^ n := fun t => by
      unfold openP; split
      · exact paths_le p n t
      · exact Nat.zero_le _
    rw [paths_succ, Nat.pow_succ]
    have := ho s
    cases s with
    | zero => dsimp only; omega
    | succ t => have := ho t; dsimp only; omega

theorem mem_stops {p : Plan} {z : Nat × Nat} (h : z ∈ stops p) : z.1 ≤ p.horizon ∧ z.2 ≤ z.1 ∧ decision p z.1 z.2 ≠ 0 ∧ paths p z.1 z.2 ≠ 0 := by
  unfold stops at h
  rw [List.mem_flatMap] at h
  obtain ⟨n, hn, hm⟩ := h
  rw [List.mem_map] at hm
  obtain ⟨s, hs, rfl⟩ := hm
  rw [List.mem_filter, List.mem_range] at hs
  rw [List.mem_range] at hn
  obtain ⟨h1, h2⟩ := hs
  simp only [Bool.and_eq_true, bne_iff_ne] at h2
  exact ⟨by show n ≤ _; omega, by show s ≤ n; omega, h2.1, h2.2⟩
/-- a sum over the stops as a double sum over the points -/
theorem sum_stops (p : Plan) (f : Nat → Nat → Int) : ((stops p).map fun z => (paths p z.1 z.2 : Int) * f z.1 z.2).sum = sumR (fun n => sumR (fun s => if decision p n s ≠ 0 then (paths p n s : Int) * f n s else 0) (n + 1)) (p.horizon + 1) := by
  unfold stops
  rw [sum_flatMap, sum_range]
  refine sumR_congr fun n _ => ?_
  dsimp only
  rw [List.map_map, sum_filter, sum_range]
  refine sumR_congr fun s _ => ?_
  show (if _ then (paths p n s : Int) * f n s else 0) = _
  by_cases h1 : decision p n s = 0
  · rw [if_neg (by simp [h1]), if_neg (by simp [h1])]
  · by_cases h2 : paths p n s = 0
    · have h3 : (pathRow p n).getD s 0 = 0 := h2
      rw [if_neg (by rw [h3]; simp), if_pos h1, h2]
      simp
    · have h3 : (pathRow p n).getD s 0 ≠ 0 := h2
      rw [if_pos (by simp only [Bool.and_eq_true, bne_iff_ne]; exact ⟨h1, h3⟩), if_pos h1]

/-! ## probabilities -/
/-- the probability of one sequence, times d ^ n -/
def chn (P d : Int) (n s : Nat) : Int := P ^ s * (d - P) ^ (n - s)
theorem is_one_minus {x : Fraction} {P d : Int} (h : Is x P d) : Is (minus (ofInt 1) x) (d - P) d := ((is_int 1).minus h).to h.pos (by grind)
theorem chance_is {x : Fraction} {P d : Int} (h : Is x P d) (n s : Nat) (hs : s ≤ n) : Is (times (power x s) (power (minus (ofInt 1) x) (n - s))) (chn P d n s) (d ^ n) := by
  refine ((h.power s).times ((is_one_minus h).power (n - s))).to (Int.pow_pos h.pos) ?_
  rw [← Int.pow_add, show s + (n - s) = n by omega]
  rfl
theorem point_is {x : Fraction} {P d : Int} (h : Is x P d) (p : Plan) (z : Nat × Nat) (h1 : z.1 ≤ p.horizon) (h2 : z.2 ≤ z.1) : Is (pointProbability p x z) ((paths p z.1 z.2 : Int) * (chn P d z.1 z.2 * d ^ (p.horizon - z.1))) (d ^ p.horizon) := by
  refine ((is_nat _).times (chance_is h z.1 z.2 h2)).to (Int.pow_pos h.pos) ?_
  have e : d ^ p.horizon = d ^ z.1 * d ^ (p.horizon - z.1) := by rw [← Int.pow_add, show z.1 + (p.horizon - z.1) = p.horizon by omega]
  rw [e]
  grind
/-- the weighted sum over the stops -/
def wsum (p : Plan) (P d : Int) (w : Nat → Nat → Int) : Int := ((stops p).map fun z => (paths p z.1 z.2 : Int) * (w z.1 z.2 * (chn P d z.1 z.2 * d ^ (p.horizon - z.1)))).sum
theorem wsum_dbl (p : Plan) (P d : Int) (w : Nat → Nat → Int) : wsum p P d w = sumR (fun n => sumR (fun s => if decision p n s ≠ 0 then (paths p n s : Int) * (w n s * (chn P d n s * d ^ (p.horizon - n))) else 0) (n + 1)) (p.horizon + 1) :=
  sum_stops p fun n s => w n s * (chn P d n s * d ^ (p.horizon - n))
section
variable {x : Fraction} {P d : Int} (h : Is x P d) (p : Plan)
include h
theorem acceptance_is : Is (acceptance p x) (wsum p P d fun n s => if decision p n s = 1 then 1 else 0) (d ^ p.horizon) := by
  have k := total_is (pointProbability p x) (fun z => (paths p z.1 z.2 : Int) * (chn P d z.1 z.2 * d ^ (p.horizon - z.1))) (show 0 < d ^ p.horizon from Int.pow_pos h.pos) ((stops p).filter fun z => decision p z.1 z.2 == 1)
    (fun z hz => by
      have m := mem_stops (List.mem_filter.mp hz).1
      exact point_is h p z m.1 m.2.1)
  refine k.to k.pos ?_
  congr 1
  rw [sum_filter]
  unfold wsum
  refine sum_congr fun z _ => ?_
  dsimp only
  by_cases c : decision p z.1 z.2 = 1
  · rw [if_pos (by simp [c]), if_pos c, Int.one_mul]
  · rw [if_neg (by simp [c]), if_neg c, Int.zero_mul, Int.mul_zero]
theorem expectedSize_is : Is (expectedSize p x) (wsum p P d fun n _ => n) (d ^ p.horizon) := by
  have k := total_is (fun z : Nat × Nat => times (ofNat z.1) (pointProbability p x z)) (fun z => (paths p z.1 z.2 : Int) * ((z.1 : Int) * (chn P d z.1 z.2 * d ^ (p.horizon - z.1)))) (show 0 < d ^ p.horizon from Int.pow_pos h.pos) (stops p)
    (fun z hz => by
      have m := mem_stops hz
      exact ((is_nat _).times (point_is h p z m.1 m.2.1)).to (Int.pow_pos h.pos) (by grind))
  exact k
theorem stopProbability_is (m : Nat) : Is (stopProbability p x m) (wsum p P d fun n _ => if n = m then 1 else 0) (d ^ p.horizon) := by
  have k := total_is (pointProbability p x) (fun z => (paths p z.1 z.2 : Int) * (chn P d z.1 z.2 * d ^ (p.horizon - z.1))) (show 0 < d ^ p.horizon from Int.pow_pos h.pos) ((stops p).filter fun z => z.1 == m)
    (fun z hz => by
      have m := mem_stops (List.mem_filter.mp hz).1
      exact point_is h p z m.1 m.2.1)
  refine k.to k.pos ?_
  congr 1
  rw [sum_filter]
  unfold wsum
  refine sum_congr fun z _ => ?_
  dsimp only
  by_cases c : z.1 = m
  · rw [if_pos (by simp [c]), if_pos c, Int.one_mul]
  · rw [if_neg (by simp [c]), if_neg c, Int.zero_mul, Int.mul_zero]
end

/-! ## no mass is lost -/
/-- all mass at n, what goes on, what stops; times d ^ n -/
def massAll (p : Plan) (P d : Int) (n : Nat) : Int := sumR (fun s => (paths p n s : Int) * chn P d n s) (n + 1)
def massOpen (p : Plan) (P d : Int) (n : Nat) : Int := sumR (fun s => (openP p n s : Int) * chn P d n s) (n + 1)
def massStop (p : Plan) (P d : Int) (n : Nat) : Int := sumR (fun s => if decision p n s ≠ 0 then (paths p n s : Int) * chn P d n s else 0) (n + 1)
theorem mass_split (p : Plan) (P d : Int) (n : Nat) : massAll p P d n = massOpen p P d n + massStop p P d n := by
  unfold massAll massOpen massStop
  rw [← sumR_add]
  refine sumR_congr fun s _ => ?_
  unfold openP
  by_cases h : decision p n s = 0
  · rw [if_pos h, if_neg (by simp [h]), Int.add_zero]
  · rw [if_neg h, if_pos h]; simp
/-- a row of numbers, each times its chance: one more observation -/
theorem step_mass (o : Nat → Nat) (P d : Int) (n : Nat) (h : ∀ s, n < s → o s = 0) :
    sumR (fun s => ((o s + (match s with | 0 => 0 | t + 1 => o t) : Nat) : Int) * chn P d (n + 1) s) (n + 2) = d * sumR (fun s => (o s : Int) * chn P d n s) (n + 1) := by
  have e1 : sumR (fun s => (o s : Int) * chn P d (n + 1) s) (n + 2) = (d - P) * sumR (fun s => (o s : Int) * chn P d n s) (n + 1) := by
    rw [sumR, h (n + 1) (by omega), ← sumR_mul]
    simp only [Int.natCast_zero, Int.zero_mul, Int.add_zero]
    refine sumR_congr fun s hs => ?_
    unfold chn
    rw [show n + 1 - s = (n - s) + 1 by omega, Int.pow_succ]
    grind
  have e2 : sumR (fun s => ((match s with | 0 => 0 | t + 1 => o t : Nat) : Int) * chn P d (n + 1) s) (n + 2) = P * sumR (fun s => (o s : Int) * chn P d n s) (n + 1) := by
    rw [sumR_head, ← sumR_mul]
    simp only [Int.natCast_zero, Int.zero_mul, Int.zero_add]
    refine sumR_congr fun s hs => ?_
    unfold chn
    rw [show n + 1 - (s + 1) = n - s by omega, Int.pow_succ]
    grind
  have e3 : sumR (fun s => ((o s + (match s with | 0 => 0 | t + 1 => o t) : Nat) : Int) * chn P d (n + 1) s) (n + 2) = sumR (fun s => (o s : Int) * chn P d (n + 1) s) (n + 2) + sumR (fun s => ((match s with | 0 => 0 | t + 1 => o t : Nat) : Int) * chn P d (n + 1) s) (n + 2) := by
    rw [← sumR_add]
    refine sumR_congr fun s _ => ?_
    rw [Int.natCast_add, Int.add_mul]
  rw [e3, e1, e2]
  grind
theorem mass_succ (p : Plan) (P d : Int) (n : Nat) : massAll p P d (n + 1) = d * massOpen p P d n := by
  unfold massAll massOpen
  rw [← step_mass (openP p n) P d n (openP_out p n)]
  refine sumR_congr fun s _ => ?_
  rw [paths_succ]
theorem mass_zero (p : Plan) (P d : Int) : massAll p P d 0 = 1 := by
  unfold massAll
  rw [sumR, sumR, paths_zero]
  simp [chn]
theorem mass_sum (p : Plan) (P d : Int) : ∀ k, k ≤ p.horizon → sumR (fun n => massStop p P d n * d ^ (p.horizon - n)) k + massAll p P d k * d ^ (p.horizon - k) = d ^ p.horizon
  | 0, _ => by rw [sumR, mass_zero]; simp
  | k + 1, h => by
    have ih := mass_sum p P d k (by omega)
    rw [sumR, mass_succ]
    rw [mass_split] at ih
    rw [show p.horizon - k = (p.horizon - (k + 1)) + 1 by omega, Int.pow_succ] at *
    grind
theorem mass_whole {p : Plan} (w : Wf p) (P d : Int) : sumR (fun n => massStop p P d n * d ^ (p.horizon - n)) (p.horizon + 1) = d ^ p.horizon := by
  have h := mass_sum p P d p.horizon (Nat.le_refl _)
  have ho : massOpen p P d p.horizon = 0 := by
    unfold massOpen
    rw [← sumR_zero' (p.horizon + 1)]
    refine sumR_congr fun s hs => ?_
    unfold openP
    rw [if_neg (w.last s (by omega))]
    simp
  rw [mass_split, ho, Int.zero_add] at h
  rw [sumR]
  exact h
/-- the probabilities of all stops add up to 1 -/
theorem wsum_one {p : Plan} (w : Wf p) (P d : Int) : wsum p P d (fun _ _ => 1) = d ^ p.horizon := by
  rw [wsum_dbl, ← mass_whole w P d]
  refine sumR_congr fun n _ => ?_
  unfold massStop
  rw [Int.mul_comm, ← sumR_mul]
  refine sumR_congr fun s _ => ?_
  by_cases h : decision p n s = 0
  · rw [if_neg (by simp [h]), if_neg (by simp [h])]; simp
  · rw [if_pos h, if_pos h]; grind
theorem wsum_add (p : Plan) (P d : Int) (u v : Nat → Nat → Int) : wsum p P d (fun n s => u n s + v n s) = wsum p P d u + wsum p P d v := by
  unfold wsum
  generalize stops p = l
  induction l with
  | nil => rfl
  | cons z l ih => rw [List.map_cons, List.map_cons, List.map_cons, List.sum_cons, List.sum_cons, List.sum_cons, ih]; grind
theorem wsum_mul (p : Plan) (P d c : Int) (u : Nat → Nat → Int) : wsum p P d (fun n s => c * u n s) = c * wsum p P d u := by
  unfold wsum
  generalize stops p = l
  induction l with
  | nil => simp
  | cons z l ih => rw [List.map_cons, List.map_cons, List.sum_cons, List.sum_cons, ih]; grind
theorem wsum_congr {p : Plan} {P d : Int} {u v : Nat → Nat → Int} (h : ∀ z ∈ stops p, u z.1 z.2 = v z.1 z.2) : wsum p P d u = wsum p P d v := by
  unfold wsum
  exact sum_congr fun z hz => by rw [h z hz]
end SE
namespace SE
open Kxd7
/-! ## rows of numbers of paths, as the loop fills them -/
def nextRow (p : Plan) (n : Nat) (l : List Nat) : List Nat := List.zipWith (· + ·) ((l.zipIdx.map fun z => if decision p n z.2 = 0 then z.1 else 0) ++ [0]) (0 :: (l.zipIdx.map fun z => if decision p n z.2 = 0 then z.1 else 0))
theorem pathRow_next (p : Plan) (n : Nat) : pathRow p (n + 1) = nextRow p n (pathRow p n) := rfl
theorem nextRow_len (p : Plan) (n : Nat) (l : List Nat) : (nextRow p n l).length = l.length + 1 := by simp [nextRow]
/-- what the place before gives -/
def bk (o : Nat → Nat) (i : Nat) : Nat → Nat
  | 0 => 0
  | u + 1 => if u < i then o u else 0
/-- behind i turns -/
def fnd (o : Nat → Nat) (m i : Nat) : List Nat := (List.range m).map fun t => (if t < i then o t else 0) + bk o i t
theorem fnd_len (o : Nat → Nat) (m i : Nat) : (fnd o m i).length = m := by simp [fnd]
theorem fnd_at (o : Nat → Nat) (m i t : Nat) (h : t < m) : (fnd o m i)[t]? = some ((if t < i then o t else 0) + bk o i t) := by
  unfold fnd
  rw [List.getElem?_map, List.getElem?_range h]
  rfl
theorem fnd_getD (o : Nat → Nat) (m i t : Nat) (h : t < m) : (fnd o m i).getD t 0 = ((if t < i then o t else 0) + bk o i t) := by
  rw [List.getD_eq_getElem?_getD, fnd_at o m i t h]
  rfl
theorem fnd_zero (o : Nat → Nat) (m : Nat) : fnd o m 0 = List.replicate m 0 := by
  refine List.ext_getElem? fun t => ?_
  by_cases h : t < m
  · rw [fnd_at o m 0 t h, List.getElem?_replicate, if_pos h]
    cases t <;> simp [bk]
  · rw [List.getElem?_eq_none (by rw [fnd_len]; omega), List.getElem?_eq_none (by simp; omega)]
theorem fnd_stay {o : Nat → Nat} {i : Nat} (m : Nat) (h : o i = 0) : fnd o m (i + 1) = fnd o m i := by
  unfold fnd
  refine List.map_congr_left fun t _ => ?_
  have e : ∀ u : Nat, (if u < i + 1 then o u else 0) = if u < i then o u else 0 := fun u => by
    by_cases h1 : u < i
    · rw [if_pos h1, if_pos (by omega)]
    · by_cases h2 : u = i
      · subst h2; rw [if_pos (by omega), if_neg h1, h]
      · rw [if_neg h1, if_neg (by omega)]
  rw [e t]
  cases t with
  | zero => rfl
  | succ u => show _ + (if u < i + 1 then o u else 0) = _ + (if u < i then o u else 0); rw [e u]
theorem fnd_step {o : Nat → Nat} {i m : Nat} (h : i + 1 < m) :
    ((fnd o m i).set i ((fnd o m i).getD i 0 + o i)).set (i + 1) (((fnd o m i).set i ((fnd o m i).getD i 0 + o i)).getD (i + 1) 0 + o i) = fnd o m (i + 1) := by
  have e0 : ((fnd o m i).set i ((fnd o m i).getD i 0 + o i)).getD (i + 1) 0 = (fnd o m i).getD (i + 1) 0 := by
    rw [List.getD_eq_getElem?_getD, List.getElem?_set_ne (by omega), List.getD_eq_getElem?_getD]
  rw [e0]
  refine List.ext_getElem? fun t => ?_
  by_cases ht : t < m
  · rw [fnd_at o m (i + 1) t ht]
    by_cases h1 : t = i + 1
    · subst h1
      rw [List.getElem?_set_self (by rw [List.length_set, fnd_len]; exact h), fnd_getD o m i (i + 1) h]
      show some ((if i + 1 < i then o (i + 1) else 0) + (if i < i then o i else 0) + o i) = some ((if i + 1 < i + 1 then o (i + 1) else 0) + (if i < i + 1 then o i else 0))
      rw [if_neg (by omega), if_neg (by omega), if_neg (by omega), if_pos (by omega)]
    · rw [List.getElem?_set_ne (by omega)]
      by_cases h2 : t = i
      · subst h2
        rw [List.getElem?_set_self (by rw [fnd_len]; exact ht), fnd_getD o m t t ht]
        rw [if_neg (by omega), if_pos (by omega)]
        cases t with
        | zero => simp [bk]
        | succ u =>
          show some (0 + (if u < u + 1 then o u else 0) + o (u + 1)) = some (o (u + 1) + (if u < u + 1 + 1 then o u else 0))
          rw [if_pos (by omega), if_pos (by omega)]
          congr 1
          omega
      · rw [List.getElem?_set_ne (by omega), fnd_at o m i t ht]
        have e : ∀ u : Nat, u ≠ i → (if u < i + 1 then o u else 0) = if u < i then o u else 0 := fun u hu => by
          by_cases h1 : u < i
          · rw [if_pos h1, if_pos (by omega)]
          · rw [if_neg h1, if_neg (by omega)]
        rw [e t h2]
        cases t with
        | zero => rfl
        | succ u =>
          show _ = some (_ + (if u < i + 1 then o u else 0))
          rw [e u (by omega)]
          rfl
  · rw [List.getElem?_eq_none (by rw [List.length_set, List.length_set, fnd_len]; omega), List.getElem?_eq_none (by rw [fnd_len]; omega)]
theorem fnd_last (p : Plan) (n : Nat) (l : List Nat) : fnd (fun s => if decision p n s = 0 then l.getD s 0 else 0) (l.length + 1) l.length = nextRow p n l := by
  refine List.ext_getElem? fun t => ?_
  by_cases ht : t < l.length + 1
  · have hl : t < (nextRow p n l).length := by rw [nextRow_len]; exact ht
    have e : (nextRow p n l)[t]? = some ((nextRow p n l).getD t 0) := by
      rw [List.getD_eq_getElem?_getD, List.getElem?_eq_getElem hl]
      rfl
    rw [e, fnd_at _ _ _ _ ht]
    unfold nextRow
    rw [zw_getD _ _ _ (by simp), getD_snoc, getD_zipIdx_mask]
    have out : ∀ s, ¬ s < l.length → l.getD s 0 = 0 := fun s hs => by
      rw [List.getD_eq_getElem?_getD, List.getElem?_eq_none (by omega)]
      rfl
    congr 2
    · by_cases h : t < l.length
      · rw [if_pos h]
      · rw [if_neg h, out t h]; split <;> rfl
    · cases t with
      | zero => rfl
      | succ u =>
        show (if u < l.length then _ else 0) = (List.map _ _).getD u 0
        rw [if_pos (by omega)]
        rw [getD_zipIdx_mask]
  · rw [List.getElem?_eq_none (by rw [fnd_len]; omega), List.getElem?_eq_none (by rw [nextRow_len]; omega)]
/-! ## the rows from one on -/
def rowAt (p : Plan) (n : Nat) (l : List Nat) : Nat → List Nat
  | 0 => l
  | k + 1 => nextRow p (n + k) (rowAt p n l k)
theorem rowAt_len (p : Plan) (n : Nat) (l : List Nat) : ∀ k, (rowAt p n l k).length = l.length + k
  | 0 => rfl
  | k + 1 => by
    show (nextRow _ _ _).length = _
    rw [nextRow_len, rowAt_len p n l k]
    omega
theorem rowAt_path (p : Plan) : ∀ k, rowAt p 0 [1] k = pathRow p k
  | 0 => rfl
  | k + 1 => by
    show nextRow p (0 + k) _ = _
    rw [rowAt_path p k, Nat.zero_add]
    rfl
theorem rowAt_lucky (p : Plan) : ∀ k, rowAt p 1 (if decision p 0 0 = 0 then [0, 1] else [0, 0]) k = pathsFromSuccessRow p (k + 1)
  | 0 => rfl
  | k + 1 => by
    show nextRow p (1 + k) _ = _
    rw [rowAt_lucky p k, Nat.add_comm 1 k]
    rfl
/-! ## the kinds of plans -/
structure Lay (p : Plan) : Prop where
  h2 : p.horizon ≤ 20
  len : p.table.length = p.horizon + 1
  row : ∀ n, n ≤ p.horizon → (p.table.getD n []).length = n + 1
theorem Wf.lay {p : Plan} (w : Wf p) : Lay p := ⟨w.h2, w.len, w.row⟩
theorem dec_getD {p : Plan} (w : Lay p) {n s : Nat} (hn : n ≤ p.horizon) (hs : s ≤ n) (d : Nat) : (p.table.getD n []).getD s d = decision p n s := by
  unfold decision
  have h : s < (p.table.getD n []).length := by rw [w.row n hn]; omega
  generalize p.table.getD n [] = l at h
  rw [List.getD_eq_getElem?_getD, List.getD_eq_getElem?_getD, List.getElem?_eq_getElem h]
  rfl
theorem fromRule_row (h : Nat) (f : Nat → Nat → Nat) {n : Nat} (hn : n ≤ h) : (fromRule h f).table.getD n [] = (List.range (n + 1)).map fun s => if n = h ∧ f n s = 0 then 1 else f n s := by
  unfold fromRule
  rw [List.getD_eq_getElem?_getD, List.getElem?_map, List.getElem?_range (by omega)]
  rfl
theorem fromRule_lay {h : Nat} (f : Nat → Nat → Nat) (h2 : h ≤ 20) : Lay (fromRule h f) := by
  refine ⟨h2, by simp [fromRule], fun n hn => ?_⟩
  rw [fromRule_row h f hn]
  simp
theorem fromRule_dec {h n s : Nat} {f : Nat → Nat → Nat} (h2 : h ≤ 20) (hn : n ≤ h) (hs : s ≤ n) : decision (fromRule h f) n s = if n = h ∧ f n s = 0 then 1 else f n s := by
  unfold decision
  rw [fromRule_row h f hn, List.getD_eq_getElem?_getD, List.getElem?_map, List.getElem?_range (by omega)]
  rfl
theorem fromRule_wf {h : Nat} {f : Nat → Nat → Nat} (h1 : 1 ≤ h) (h2 : h ≤ 20) (hf : ∀ n s, n ≤ h → s ≤ n → f n s ≤ 2) : Wf (fromRule h f) := by
  have l := fromRule_lay f h2
  refine ⟨h1, h2, l.len, l.row, fun n s hn hs => ?_, fun s hs => ?_⟩
  · rw [fromRule_dec h2 hn hs]
    have := hf n s hn hs
    split <;> omega
  · show decision (fromRule h f) h s ≠ 0
    rw [fromRule_dec h2 (Nat.le_refl _) hs]
    split
    · omega
    · rename_i q
      exact fun z => q ⟨rfl, z⟩
theorem fromRule_congr {h : Nat} {f g : Nat → Nat → Nat} (e : ∀ n s, n ≤ h → s ≤ n → (if n = h ∧ f n s = 0 then 1 else f n s) = if n = h ∧ g n s = 0 then 1 else g n s) : fromRule h f = fromRule h g := by
  unfold fromRule
  congr 1
  refine List.map_congr_left fun n hn => List.map_congr_left fun s hs => ?_
  rw [List.mem_range] at hn hs
  exact e n s (by omega) (by omega)
def lastRow (h c : Nat) : List Nat := (List.range (h + 1)).map fun s => if c < s then 2 else 1
/-- what single_plan makes -/
theorem single_table (h c : Nat) : (fromRule h (singleRule h c)).table = ((List.range h).map fun n => List.replicate (n + 1) 0) ++ [lastRow h c] := by
  unfold fromRule
  show (List.range (h + 1)).map _ = _
  rw [List.range_succ, List.map_append]
  congr 1
  · refine List.map_congr_left fun n hn => ?_
    rw [List.mem_range] at hn
    refine List.ext_getElem? fun t => ?_
    by_cases ht : t < n + 1
    · rw [List.getElem?_map, List.getElem?_range ht, List.getElem?_replicate, if_pos ht]
      show some (if n = h ∧ singleRule h c n t = 0 then 1 else singleRule h c n t) = some 0
      have e : singleRule h c n t = 0 := if_pos hn
      rw [if_neg (by omega), e]
    · rw [List.getElem?_eq_none (by simp; omega), List.getElem?_eq_none (by simp; omega)]
  · show [List.map _ _] = [lastRow h c]
    unfold lastRow
    congr 1
    refine List.map_congr_left fun s _ => ?_
    have e : singleRule h c h s = if c < s then 2 else 1 := if_neg (by omega)
    rw [e, if_neg (by split <;> omega)]
theorem create_single (h : Nat) : fromRule h (fun _ _ => 0) = fromRule h (singleRule h h) := by
  refine fromRule_congr fun n s hn hs => ?_
  by_cases q : n < h
  · have e : singleRule h h n s = 0 := if_pos q
    rw [e]
  · have e : singleRule h h n s = 1 := (if_neg q).trans (if_neg (by omega))
    rw [e, if_pos ⟨by omega, rfl⟩, if_neg (by omega)]
theorem two_stage_table {h n1 r1 r : Nat} (hn : n1 < h) : (fromRule h (twoStageRule n1 r1 h r)).table = (fromRule h (singleRule h r)).table.set n1 ((List.range (n1 + 1)).map fun s => if s ≤ r1 then 1 else 0) := by
  refine List.ext_getElem? fun n => ?_
  unfold fromRule
  by_cases hh : n < h + 1
  · by_cases q : n = n1
    · subst q
      rw [List.getElem?_set_self (by simp; omega), List.getElem?_map, List.getElem?_range hh]
      show some _ = some _
      congr 1
      refine List.map_congr_left fun s _ => ?_
      unfold twoStageRule
      rw [if_neg (by omega)]
      by_cases q : s ≤ r1
      · rw [if_pos ⟨rfl, q⟩, if_pos q]
      · rw [if_neg (fun z => q z.2), if_neg q, if_pos hn]
    · rw [List.getElem?_set_ne (by omega), List.getElem?_map, List.getElem?_map, List.getElem?_range hh]
      show some _ = some _
      congr 1
      refine List.map_congr_left fun s _ => ?_
      unfold twoStageRule singleRule
      rw [if_neg (c := n = n1 ∧ s ≤ r1) (fun z => q z.1)]
  · rw [List.getElem?_eq_none (by simp; omega), List.getElem?_eq_none (by simp; omega)]
/-! ## the stops, as the loops find them -/
def rowStops (p : Plan) (n i : Nat) : List (Nat × Nat) := ((List.range i).filter fun s => decision p n s != 0 && (pathRow p n).getD s 0 != 0).map fun s => (n, s)
def stopsTo (p : Plan) (k : Nat) : List (Nat × Nat) := (List.range k).flatMap fun n => rowStops p n (n + 1)
theorem stops_to (p : Plan) : stops p = stopsTo p (p.horizon + 1) := rfl
theorem stopsTo_succ (p : Plan) (k : Nat) : stopsTo p (k + 1) = stopsTo p k ++ rowStops p k (k + 1) := by
  unfold stopsTo
  rw [List.range_succ, List.flatMap_append]
  simp
theorem rowStops_succ (p : Plan) (n i : Nat) : rowStops p n (i + 1) = rowStops p n i ++ if (decision p n i != 0 && paths p n i != 0) = true then [(n, i)] else [] := by
  unfold rowStops
  rw [List.range_succ, List.filter_append, List.map_append]
  congr 1
  show List.map _ (List.filter (fun s => decision p n s != 0 && paths p n s != 0) [i]) = _
  rw [List.filter_cons]
  by_cases h : (decision p n i != 0 && paths p n i != 0) = true
  · rw [if_pos h, if_pos h]; rfl
  · rw [if_neg h, if_neg h]; rfl
theorem rowStops_len (p : Plan) (n i : Nat) : (rowStops p n i).length ≤ i := by
  unfold rowStops
  rw [List.length_map]
  exact Nat.le_trans (List.length_filter_le _ _) (by simp)
theorem stopsTo_len (p : Plan) : ∀ k, k ≤ 21 → (stopsTo p k).length ≤ 21 * k
  | 0, _ => by simp [stopsTo]
  | k + 1, h => by
    rw [stopsTo_succ, List.length_append]
    have := stopsTo_len p k (by omega)
    have := rowStops_len p k (k + 1)
    omega
theorem stops_len {p : Plan} (h : p.horizon ≤ 20) : (stops p).length ≤ 441 := by
  rw [stops_to]
  have := stopsTo_len p (p.horizon + 1) (by omega)
  omega
theorem pathRow_getD (p : Plan) (n s : Nat) : (pathRow p n).getD s 0 = paths p n s := rfl
end SE
namespace SE
open Kxd7
/-! ## what can be reached: two truth values against lists of decisions -/
def outc (d : Nat) (later : List (Bool × Bool)) (s : Nat) : Bool × Bool :=
  if d = 0 then ((later.getD s (false, false)).1 || (later.getD (s + 1) (false, false)).1, (later.getD s (false, false)).2 || (later.getD (s + 1) (false, false)).2) else (decide (d = 1), decide (d = 2))
def outRow (p : Plan) : Nat → List (Bool × Bool)
  | 0 => (List.range (p.horizon + 1)).map fun s => (decide (decision p p.horizon s = 1), decide (decision p p.horizon s = 2))
  | k + 1 => (List.range (p.horizon - (k + 1) + 1)).map fun s => outc (decision p (p.horizon - (k + 1)) s) (outRow p k) s
def decd (x : Bool × Bool) : Nat := if (x.1 && x.2) = true then 0 else if x.1 = true then 1 else 2
theorem outRow_len (p : Plan) : ∀ k, (outRow p k).length = p.horizon - k + 1
  | 0 => by simp [outRow]
  | k + 1 => by simp [outRow]
/-- the lists of decisions that come up -/
def Agree (l : List Nat) (x : Bool × Bool) : Prop := (l = [1] ∧ x = (true, false)) ∨ (l = [2] ∧ x = (false, true)) ∨ (l = [1, 2] ∧ x = (true, true)) ∨ (l = [2, 1] ∧ x = (true, true))
theorem agree_join {a b : List Nat} {x y : Bool × Bool} (h : Agree a x) (k : Agree b y) : Agree (a ++ b).eraseDups (x.1 || y.1, x.2 || y.2) := by
  rcases h with ⟨rfl, rfl⟩ | ⟨rfl, rfl⟩ | ⟨rfl, rfl⟩ | ⟨rfl, rfl⟩ <;> rcases k with ⟨rfl, rfl⟩ | ⟨rfl, rfl⟩ | ⟨rfl, rfl⟩ | ⟨rfl, rfl⟩ <;> (unfold Agree; decide)
theorem agree_one {d : Nat} (h0 : d ≠ 0) (h2 : d ≤ 2) : Agree [d] (decide (d = 1), decide (d = 2)) := by
  have e : d = 1 ∨ d = 2 := by omega
  rcases e with rfl | rfl
  · exact .inl ⟨rfl, rfl⟩
  · exact .inr (.inl ⟨rfl, rfl⟩)
theorem getD_map_range {α : Type} (f : Nat → α) (d : α) {m s : Nat} (h : s < m) : ((List.range m).map f).getD s d = f s := by
  rw [List.getD_eq_getElem?_getD, List.getElem?_map, List.getElem?_range h]
  rfl
theorem agree_rows {p : Plan} (w : Wf p) : ∀ k, k ≤ p.horizon → ∀ s, s ≤ p.horizon - k → Agree ((possibleRow p k).getD s []) ((outRow p k).getD s (false, false))
  | 0, _, s, hs => by
    unfold possibleRow outRow
    rw [getD_map_range _ _ (by omega), getD_map_range _ _ (by omega)]
    exact agree_one (w.last s (by omega)) (w.dec _ _ (Nat.le_refl _) (by omega))
  | k + 1, hk, s, hs => by
    have ih := agree_rows w k (by omega)
    unfold possibleRow outRow
    dsimp only
    rw [getD_map_range _ _ (by omega), getD_map_range _ _ (by omega)]
    unfold outc
    by_cases c : decision p (p.horizon - (k + 1)) s = 0
    · rw [if_neg (by simp [c]), if_pos c]
      exact agree_join (ih s (by omega)) (ih (s + 1) (by omega))
    · rw [if_pos c, if_neg c]
      exact agree_one c (w.dec _ _ (by omega) hs)
theorem agree_decd : ∀ {l : List Nat} {x : Bool × Bool}, Agree l x → (match l with | [d] => d | _ => 0) = decd x := by
  intro l x h
  rcases h with ⟨rfl, rfl⟩ | ⟨rfl, rfl⟩ | ⟨rfl, rfl⟩ | ⟨rfl, rfl⟩ <;> rfl
/-- what the program's curtailed makes -/
theorem curtailed_table {p : Plan} (w : Wf p) : (curtailed p).table = (List.range (p.horizon + 1)).map fun n => (outRow p (p.horizon - n)).map decd := by
  unfold curtailed
  refine List.map_congr_left fun n hn => ?_
  rw [List.mem_range] at hn
  dsimp only
  refine List.ext_getElem? fun s => ?_
  have hl : (outRow p (p.horizon - n)).length = n + 1 := by rw [outRow_len]; omega
  by_cases hs : s < n + 1
  · rw [List.getElem?_map, List.getElem?_range hs, List.getElem?_map, List.getElem?_eq_getElem (by omega)]
    have a := agree_rows w (p.horizon - n) (by omega) s (by omega)
    rw [List.getD_eq_getElem?_getD (l := outRow p (p.horizon - n)), List.getElem?_eq_getElem (by omega)] at a
    exact congrArg some (agree_decd a)
  · rw [List.getElem?_eq_none (by simp; omega), List.getElem?_eq_none (by simp; omega)]
theorem curtailed_lay {p : Plan} (w : Wf p) : Lay (curtailed p) := by
  refine ⟨w.h2, by simp [curtailed], fun n hn => ?_⟩
  rw [curtailed_table w, getD_map_range _ _ (by show n < p.horizon + 1; exact Nat.lt_succ_of_le hn), List.length_map, outRow_len]
  have : n ≤ p.horizon := hn
  omega
theorem decd_le (x : Bool × Bool) : decd x ≤ 2 := by
  unfold decd
  split
  · omega
  · split <;> omega
theorem curtailed_dec {p : Plan} (w : Wf p) {n s : Nat} (hn : n ≤ p.horizon) (hs : s ≤ n) : decision (curtailed p) n s = decd ((outRow p (p.horizon - n)).getD s (false, false)) := by
  unfold decision
  rw [curtailed_table w, getD_map_range _ _ (by omega)]
  have hl : s < (outRow p (p.horizon - n)).length := by rw [outRow_len]; omega
  rw [List.getD_eq_getElem?_getD, List.getElem?_map, List.getD_eq_getElem?_getD, List.getElem?_eq_getElem hl]
  rfl
theorem curtailed_wf {p : Plan} (w : Wf p) : Wf (curtailed p) := by
  have l := curtailed_lay w
  refine ⟨w.h1, w.h2, l.len, l.row, fun n s hn hs => ?_, fun s hs => ?_⟩
  · rw [curtailed_dec w hn hs]
    exact decd_le _
  · show decision (curtailed p) p.horizon s ≠ 0
    rw [curtailed_dec w (Nat.le_refl _) hs]
    have a := agree_rows w 0 (Nat.zero_le _) s (by have : s ≤ p.horizon := hs; omega)
    have hd := w.last s hs
    have h2 := w.dec p.horizon s (Nat.le_refl _) hs
    rw [Nat.sub_self]
    unfold outRow
    rw [getD_map_range _ _ (by have : s ≤ p.horizon := hs; omega)]
    have e : decision p p.horizon s = 1 ∨ decision p p.horizon s = 2 := by omega
    rcases e with e | e <;> (rw [e]; decide)
end SE
namespace SE
open Kxd7
/-! ## an acceptance is at most 1 -/
theorem wsum_le {p : Plan} (w : Wf p) {P d : Int} (h0 : 0 ≤ P) (h1 : P ≤ d) {u : Nat → Nat → Int} (hu : ∀ n s, 0 ≤ u n s ∧ u n s ≤ 1) : wsum p P d u ≤ d ^ p.horizon := by
  rw [← wsum_one w P d]
  unfold wsum
  generalize stops p = l
  induction l with
  | nil => exact Int.le_refl _
  | cons z l ih =>
    rw [List.map_cons, List.sum_cons, List.map_cons, List.sum_cons]
    dsimp only
    dsimp only at ih
    have hc : 0 ≤ chn P d z.1 z.2 * d ^ (p.horizon - z.1) := Int.mul_nonneg (Int.mul_nonneg (Int.pow_nonneg h0) (Int.pow_nonneg (by omega))) (Int.pow_nonneg (by omega))
    have : (paths p z.1 z.2 : Int) * (u z.1 z.2 * (chn P d z.1 z.2 * d ^ (p.horizon - z.1))) ≤ (paths p z.1 z.2 : Int) * (1 * (chn P d z.1 z.2 * d ^ (p.horizon - z.1))) :=
      Int.mul_le_mul_of_nonneg_left (Int.mul_le_mul_of_nonneg_right (hu _ _).2 hc) (by omega)
    omega
theorem acc_le {p : Plan} (w : Wf p) {x : Fraction} {P d : Int} (h : Is x P d) (h0 : 0 ≤ P) (h1 : P ≤ d) : (acceptance p x).numerator ≤ ((acceptance p x).denominator : Int) := by
  have a := acceptance_is h p
  have b := wsum_le w h0 h1 (u := fun n s => if decision p n s = 1 then 1 else 0) fun n s => by split <;> omega
  have e := a.eq
  have d1 := a.dpos
  have d2 := a.pos
  refine Int.le_of_mul_le_mul_right (a := d ^ p.horizon) ?_ d2
  rw [e, Int.mul_comm (((acceptance p x).denominator : Int))]
  exact Int.mul_le_mul_of_nonneg_right b (by omega)
theorem minus_one (x : Fraction) : minus (ofInt 1) x = fraction ((x.denominator : Int) - x.numerator) (x.denominator : Int) := by
  show fraction (1 * (x.denominator : Int) + -x.numerator * ((1 : Nat) : Int)) (((1 : Nat) : Int) * (x.denominator : Int)) = _
  congr 1 <;> grind
/-! ## plans by likelihood ratios -/
def likelyN (A B lo ld hi hd : Int) (last : Bool) : Nat := if hi * B ≤ A * hd then 2 else if A * ld ≤ lo * B ∨ last = true then 1 else 0
theorem ratio_is {p0 p1 d : Int} {x0 x1 : Fraction} (h0 : Is x0 p0 d) (h1 : Is x1 p1 d) (a : 0 < p0) (c : p0 < d) (n s : Nat) : Is (ratio x0 x1 n s) (chn p1 d n s) (chn p0 d n s) := by
  have hd := h0.pos
  have k1 : Is (over x1 x0) p1 p0 := (h1.over h0 a).to a (by grind)
  have k2 : Is (over (minus (ofInt 1) x1) (minus (ofInt 1) x0)) (d - p1) (d - p0) := ((is_one_minus h1).over (is_one_minus h0) (by omega)).to (by omega) (by grind)
  exact (k1.power s).times (k2.power (n - s))
theorem likelihood_dec {p0 p1 d lo ld hi hd : Nat} (h : 1 ≤ p0) (k : p1 < d) (l : p0 < p1) (h1 : 1 ≤ ld) (h2 : 1 ≤ hd) {n : Nat} (hn : n ≠ 0) (s hz : Nat) (last : Bool) (hl : (last = true) ↔ n = hz) :
    (if n = hz ∧ likelihoodRule (share p0 d) (share p1 d) (share lo ld) (share hi hd) n s = 0 then 1 else likelihoodRule (share p0 d) (share p1 d) (share lo ld) (share hi hd) n s) =
      likelyN (chn p1 d n s) (chn p0 d n s) lo ld hi hd last := by
  have r := ratio_is (is_share (n := p0) (d := d) (by omega)) (is_share (n := p1) (d := d) (by omega)) (by omega) (by omega) n s
  have e1 := (is_share (n := hi) (d := hd) (by omega)).le r
  have e2 := r.le (is_share (n := lo) (d := ld) (by omega))
  generalize hA : chn (p1 : Int) (d : Int) n s = A at *
  generalize hB : chn (p0 : Int) (d : Int) n s = B at *
  unfold likelyN
  by_cases c1 : (hi : Int) * B ≤ A * hd
  · have eL : likelihoodRule (share p0 d) (share p1 d) (share lo ld) (share hi hd) n s = 2 := by
      unfold likelihoodRule
      rw [if_neg hn, e1, if_pos (decide_eq_true c1)]
    rw [eL, if_pos c1, if_neg (by omega)]
  · by_cases c2 : A * ld ≤ (lo : Int) * B
    · have eL : likelihoodRule (share p0 d) (share p1 d) (share lo ld) (share hi hd) n s = 1 := by
        unfold likelihoodRule
        rw [if_neg hn, e1, if_neg (by rw [decide_eq_false c1]; decide), e2, if_pos (decide_eq_true c2)]
      rw [eL, if_neg c1, if_neg (by omega), if_pos (.inl c2)]
    · have eL : likelihoodRule (share p0 d) (share p1 d) (share lo ld) (share hi hd) n s = 0 := by
        unfold likelihoodRule
        rw [if_neg hn, e1, if_neg (by rw [decide_eq_false c1]; decide), e2, if_neg (by rw [decide_eq_false c2]; decide)]
      rw [eL, if_neg c1]
      by_cases c3 : n = hz
      · rw [if_pos ⟨c3, rfl⟩, if_pos (.inr (hl.mpr c3))]
      · rw [if_neg (fun z => c3 z.1), if_neg (fun z => z.elim c2 fun y => c3 (hl.mp y))]
end SE
namespace SE
open Kxd7
/-! ## costs, all times ad * d ^ h -/
structure PB where
  h : Nat
  p0 : Nat
  p1 : Nat
  d : Nat
  a : Nat
  ad : Nat
  c : Nat
  l0 : Nat
  l1 : Nat
structure PB.Ok (b : PB) : Prop where
  h2 : b.h ≤ 20
  p0a : 1 ≤ b.p0
  p0b : b.p0 < b.p1
  p1b : b.p1 < b.d
  dm : b.d ≤ 1000
  al : b.a ≤ b.ad
  ad1 : 1 ≤ b.ad
  adm : b.ad ≤ 1000
  cm : b.c ≤ 1000
  m0 : b.l0 ≤ 100000
  m1 : b.l1 ≤ 100000
def PB.K (b : PB) : Problem := problem b.p0 b.p1 b.d b.a b.ad b.c b.l0 b.l1
def PB.D (b : PB) : Int := (b.ad : Int) * (b.d : Int) ^ b.h
def wgt0 (b : PB) (n s : Nat) : Int := ((b.ad : Int) - (b.a : Int)) * chn b.p0 b.d n s * (b.d : Int) ^ (b.h - n)
def wgt1 (b : PB) (n s : Nat) : Int := (b.a : Int) * chn b.p1 b.d n s * (b.d : Int) ^ (b.h - n)
def stopI (b : PB) (n s dec : Nat) : Int := if dec = 1 then (b.l1 : Int) * wgt1 b n s else (b.l0 : Int) * wgt0 b n s
def stepI (b : PB) (n s : Nat) : Int := (b.c : Int) * (wgt0 b n s + wgt1 b n s)
def bestI (b : PB) (n s : Nat) : Int × Nat := if stopI b n s 1 ≤ stopI b n s 2 then (stopI b n s 1, 1) else (stopI b n s 2, 2)
def onI (b : PB) (n s : Nat) (later : List (Int × Nat)) : Int := stepI b n s + (later.getD s (0, 0)).1 + (later.getD (s + 1) (0, 0)).1
def betterI (b : PB) (n s : Nat) (later : List (Int × Nat)) : Int × Nat := if (bestI b n s).1 ≤ onI b n s later then bestI b n s else (onI b n s later, 0)
def rowI (b : PB) (n : Nat) (later : List (Int × Nat)) : List (Int × Nat) := (List.range (n + 1)).map fun s => betterI b n s later
def leastI (b : PB) : Nat → List (Int × Nat)
  | 0 => (List.range (b.h + 1)).map (bestI b b.h)
  | k + 1 => rowI b (b.h - (k + 1)) (leastI b k)
theorem PB.Ok.D {b : PB} (o : b.Ok) : 0 < b.D := by
  have h1 := o.ad1
  have h2 := o.p1b
  exact Int.mul_pos (by omega) (Int.pow_pos (by omega))
theorem joint_is {b : PB} (o : b.Ok) {n s : Nat} (hn : n ≤ b.h) (hs : s ≤ n) : Is (joint b.K n s).1 (wgt0 b n s) b.D ∧ Is (joint b.K n s).2 (wgt1 b n s) b.D := by
  have hd : 1 ≤ b.d := by have := o.p1b; omega
  have e : (b.d : Int) ^ b.h = (b.d : Int) ^ n * (b.d : Int) ^ (b.h - n) := by rw [← Int.pow_add, show n + (b.h - n) = b.h by omega]
  have q := is_share (n := b.a) (d := b.ad) o.ad1
  refine ⟨((is_one_minus q).times (chance_is (is_share (n := b.p0) hd) n s hs)).to o.D ?_, (q.times (chance_is (is_share (n := b.p1) hd) n s hs)).to o.D ?_⟩
  · unfold wgt0 PB.D
    rw [e]
    grind
  · unfold wgt1 PB.D
    rw [e]
    grind
section
variable {x y : Fraction} {m n D : Int}
theorem Is.addD (h : Is x m D) (k : Is y n D) : Is (Kxd7.plus x y) (m + n) D := (h.plus k).to h.pos (by grind)
theorem Is.mulN (c : Nat) (h : Is x m D) : Is (Kxd7.times (Kxd7.ofNat c) x) ((c : Int) * m) D := ((is_nat c).times h).to h.pos (by grind)
theorem Is.leD (h : Is x m D) (k : Is y n D) : Kxd7.isAtMost x y = decide (m ≤ n) := by
  rw [h.le k]
  exact decide_eq_decide.mpr ⟨fun z => Int.le_of_mul_le_mul_right z h.pos, fun z => Int.mul_le_mul_of_nonneg_right z (Int.le_of_lt h.pos)⟩
end
/-- a spec row and a row of numbers -/
structure RowIs (b : PB) (k : Nat) : Prop where
  len : (leastRow b.K b.h k).length = b.h - k + 1
  lenI : (leastI b k).length = b.h - k + 1
  at_ : ∀ s, Is ((leastRow b.K b.h k).getD s (⟨0, 1⟩, 0)).1 ((leastI b k).getD s (0, 0)).1 b.D ∧ ((leastRow b.K b.h k).getD s (⟨0, 1⟩, 0)).2 = ((leastI b k).getD s (0, 0)).2
theorem map_range_getD {α : Type} (f : Nat → α) (d : α) (m s : Nat) : ((List.range m).map f).getD s d = if s < m then f s else d := by
  rw [List.getD_eq_getElem?_getD, List.getElem?_map]
  by_cases h : s < m
  · rw [List.getElem?_range h, if_pos h]
    rfl
  · rw [List.getElem?_eq_none (by simp; omega), if_neg h]
    rfl
def haltK (b : PB) (n s : Nat) : Fraction × Nat := if isAtMost (times b.K.loss1 (joint b.K n s).2) (times b.K.loss0 (joint b.K n s).1) then (times b.K.loss1 (joint b.K n s).2, 1) else (times b.K.loss0 (joint b.K n s).1, 2)
theorem halt_is {b : PB} (o : b.Ok) {n s : Nat} (hn : n ≤ b.h) (hs : s ≤ n) : Is (haltK b n s).1 (bestI b n s).1 b.D ∧ (haltK b n s).2 = (bestI b n s).2 := by
  obtain ⟨j0, j1⟩ := joint_is o hn hs
  have a1 : Is (times b.K.loss1 (joint b.K n s).2) (stopI b n s 1) b.D := j1.mulN b.l1
  have a0 : Is (times b.K.loss0 (joint b.K n s).1) (stopI b n s 2) b.D := j0.mulN b.l0
  unfold haltK bestI
  rw [a1.leD a0]
  by_cases c : stopI b n s 1 ≤ stopI b n s 2
  · rw [if_pos (decide_eq_true c), if_pos c]
    exact ⟨a1, rfl⟩
  · rw [if_neg (by simp [c]), if_neg c]
    exact ⟨a0, rfl⟩
theorem least_is {b : PB} (o : b.Ok) : ∀ k, k ≤ b.h → RowIs b k
  | 0, _ => by
    have e : leastRow b.K b.h 0 = (List.range (b.h + 1)).map (haltK b b.h) := rfl
    refine ⟨by rw [e]; simp, by unfold leastI; simp, fun s => ?_⟩
    rw [e]
    unfold leastI
    rw [map_range_getD, map_range_getD]
    by_cases c : s < b.h + 1
    · rw [if_pos c, if_pos c]
      exact halt_is o (Nat.le_refl _) (by omega)
    · rw [if_neg c, if_neg c]
      exact ⟨is_zeroD o.D, rfl⟩
  | k + 1, hk => by
    have ih := least_is o k (by omega)
    have e : leastRow b.K b.h (k + 1) = (List.range (b.h - (k + 1) + 1)).map fun s =>
      if isAtMost (haltK b (b.h - (k + 1)) s).1 (plus (times b.K.cost (plus (joint b.K (b.h - (k + 1)) s).1 (joint b.K (b.h - (k + 1)) s).2)) (plus ((leastRow b.K b.h k).getD s (⟨0, 1⟩, 0)).1 ((leastRow b.K b.h k).getD (s + 1) (⟨0, 1⟩, 0)).1)) then haltK b (b.h - (k + 1)) s
      else (plus (times b.K.cost (plus (joint b.K (b.h - (k + 1)) s).1 (joint b.K (b.h - (k + 1)) s).2)) (plus ((leastRow b.K b.h k).getD s (⟨0, 1⟩, 0)).1 ((leastRow b.K b.h k).getD (s + 1) (⟨0, 1⟩, 0)).1), 0) := rfl
    refine ⟨by rw [e]; simp, by unfold leastI rowI; simp, fun s => ?_⟩
    rw [e]
    show Is _ (((List.range (b.h - (k + 1) + 1)).map fun s => betterI b (b.h - (k + 1)) s (leastI b k)).getD s (0, 0)).1 _ ∧ _ = (((List.range (b.h - (k + 1) + 1)).map fun s => betterI b (b.h - (k + 1)) s (leastI b k)).getD s (0, 0)).2
    rw [map_range_getD, map_range_getD]
    have hn : b.h - (k + 1) ≤ b.h := by omega
    generalize b.h - (k + 1) = n at *
    by_cases c : s < n + 1
    · rw [if_pos c, if_pos c]
      obtain ⟨h1, h2⟩ := halt_is o hn (show s ≤ n by omega)
      obtain ⟨j0, j1⟩ := joint_is o hn (show s ≤ n by omega)
      have g : Is (plus (times b.K.cost (plus (joint b.K n s).1 (joint b.K n s).2)) (plus ((leastRow b.K b.h k).getD s (⟨0, 1⟩, 0)).1 ((leastRow b.K b.h k).getD (s + 1) (⟨0, 1⟩, 0)).1)) (onI b n s (leastI b k)) b.D := by
        have := ((j0.addD j1).mulN b.c).addD ((ih.at_ s).1.addD (ih.at_ (s + 1)).1)
        rw [← Int.add_assoc] at this
        exact this
      rw [h1.leD g]
      unfold betterI
      by_cases c2 : (bestI b n s).1 ≤ onI b n s (leastI b k)
      · rw [if_pos (decide_eq_true c2), if_pos c2]
        exact ⟨h1, h2⟩
      · rw [if_neg (by simp [c2]), if_neg c2]
        exact ⟨g, rfl⟩
    · rw [if_neg c, if_neg c]
      exact ⟨is_zeroD o.D, rfl⟩
  termination_by k => k
theorem row_two {b : PB} {k : Nat} (r : RowIs b k) : (leastRow b.K b.h k).map (·.2) = (leastI b k).map (·.2) := by
  refine List.ext_getElem? fun i => ?_
  by_cases h : i < b.h - k + 1
  · have := (r.at_ i).2
    rw [List.getD_eq_getElem?_getD, List.getD_eq_getElem?_getD, List.getElem?_eq_getElem (by rw [r.len]; exact h), List.getElem?_eq_getElem (by rw [r.lenI]; exact h)] at this
    rw [List.getElem?_map, List.getElem?_map, List.getElem?_eq_getElem (by rw [r.len]; exact h), List.getElem?_eq_getElem (by rw [r.lenI]; exact h)]
    exact congrArg some this
  · rw [List.getElem?_eq_none (by rw [List.length_map, r.len]; omega), List.getElem?_eq_none (by rw [List.length_map, r.lenI]; omega)]
/-- all rows, the first one for n = h - k -/
def rowsI (b : PB) : Nat → List (List (Int × Nat))
  | 0 => [leastI b 0]
  | k + 1 => leastI b (k + 1) :: rowsI b k
theorem rowsI_len (b : PB) : ∀ k, (rowsI b k).length = k + 1
  | 0 => rfl
  | k + 1 => by rw [rowsI, List.length_cons, rowsI_len b k]
theorem rowsI_get (b : PB) : ∀ k i, i ≤ k → (rowsI b k)[i]? = some (leastI b (k - i))
  | 0, 0, _ => rfl
  | k + 1, 0, _ => rfl
  | k + 1, i + 1, h => by
    rw [rowsI, List.getElem?_cons_succ, rowsI_get b k i (by omega), Nat.add_sub_add_right]
  | 0, i + 1, h => absurd h (by omega)
theorem rowsI_eq (b : PB) (k : Nat) : rowsI b k = (List.range (k + 1)).map fun n => leastI b (k - n) := by
  refine List.ext_getElem? fun i => ?_
  by_cases h : i < k + 1
  · rw [rowsI_get b k i (by omega), List.getElem?_map, List.getElem?_range h]
    rfl
  · rw [List.getElem?_eq_none (by rw [rowsI_len]; omega), List.getElem?_eq_none (by simp; omega)]
theorem optimal_table {b : PB} (o : b.Ok) : (optimalPlan b.K b.h).table = (rowsI b b.h).map fun r => r.map (·.2) := by
  rw [rowsI_eq, List.map_map]
  show (List.range (b.h + 1)).map _ = _
  refine List.map_congr_left fun n hn => ?_
  exact row_two (least_is o (b.h - n) (by omega))
theorem leastI_len {b : PB} (o : b.Ok) {k : Nat} (h : k ≤ b.h) : (leastI b k).length = b.h - k + 1 := (least_is o k h).lenI
theorem leastCost_is {b : PB} (o : b.Ok) : Is (leastCost b.K b.h) ((leastI b b.h).getD 0 (0, 0)).1 b.D := by
  have r := (least_is o b.h (Nat.le_refl _)).at_ 0
  have e : leastCost b.K b.h = ((leastRow b.K b.h b.h).getD 0 (⟨0, 1⟩, 0)).1 := by
    unfold leastCost
    cases leastRow b.K b.h b.h <;> rfl
  rw [e]
  exact r.1
/-! ### the optimal plan is a plan -/
theorem optimal_dec {b : PB} (o : b.Ok) {n s : Nat} (hn : n ≤ b.h) (hs : s ≤ n) : decision (optimalPlan b.K b.h) n s = ((leastI b (b.h - n)).getD s (0, 0)).2 := by
  unfold decision
  rw [optimal_table o]
  have e : ((rowsI b b.h).map fun r => r.map (·.2)).getD n [] = (leastI b (b.h - n)).map (·.2) := by
    rw [List.getD_eq_getElem?_getD, List.getElem?_map, rowsI_get b b.h n hn]
    rfl
  rw [e, List.getD_eq_getElem?_getD, List.getD_eq_getElem?_getD, List.getElem?_map, List.getElem?_eq_getElem (by rw [leastI_len o (by omega)]; omega)]
  rfl
theorem bestI_two (b : PB) (n s : Nat) : (bestI b n s).2 ≤ 2 ∧ (bestI b n s).2 ≠ 0 := by
  unfold bestI
  split
  · exact ⟨(by decide : 1 ≤ 2), (by decide : 1 ≠ 0)⟩
  · exact ⟨(by decide : 2 ≤ 2), (by decide : 2 ≠ 0)⟩
theorem leastI_two {b : PB} (k s : Nat) : ((leastI b k).getD s (0, 0)).2 ≤ 2 := by
  cases k with
  | zero =>
    unfold leastI
    rw [map_range_getD]
    split
    · exact (bestI_two b _ _).1
    · decide
  | succ k =>
    unfold leastI rowI
    rw [map_range_getD]
    split
    · unfold betterI
      split
      · exact (bestI_two b _ _).1
      · exact (by decide : 0 ≤ 2)
    · decide
theorem optimal_wf {b : PB} (o : b.Ok) (h1 : 1 ≤ b.h) : Wf (optimalPlan b.K b.h) where
  h1 := h1
  h2 := o.h2
  len := by
    rw [optimal_table o, List.length_map, rowsI_len]
    rfl
  row := fun n hn => by
    have hn : n ≤ b.h := hn
    rw [optimal_table o, List.getD_eq_getElem?_getD, List.getElem?_map, rowsI_get b b.h n hn]
    show ((leastI b (b.h - n)).map (·.2)).length = _
    rw [List.length_map, leastI_len o (by omega)]
    omega
  dec := fun n s hn hs => by
    rw [optimal_dec o hn hs]
    exact leastI_two _ _
  last := fun s hs => by
    have hs : s ≤ b.h := hs
    show decision (optimalPlan b.K b.h) b.h s ≠ 0
    rw [optimal_dec o (Nat.le_refl _) hs, Nat.sub_self]
    unfold leastI
    rw [map_range_getD, if_pos (by omega)]
    exact (bestI_two b _ _).2
/-! ### costs are not below 0 -/
theorem chn_pos {P d : Int} (h0 : 0 ≤ P) (h1 : P ≤ d) (n s : Nat) : 0 ≤ chn P d n s := Int.mul_nonneg (Int.pow_nonneg h0) (Int.pow_nonneg (by omega))
theorem wgt_pos {b : PB} (o : b.Ok) (n s : Nat) : 0 ≤ wgt0 b n s ∧ 0 ≤ wgt1 b n s := by
  have h1 := o.al
  have h2 := o.p0b
  have h3 := o.p1b
  exact ⟨Int.mul_nonneg (Int.mul_nonneg (by omega) (chn_pos (by omega) (by omega) _ _)) (Int.pow_nonneg (by omega)), Int.mul_nonneg (Int.mul_nonneg (by omega) (chn_pos (by omega) (by omega) _ _)) (Int.pow_nonneg (by omega))⟩
theorem stop_pos {b : PB} (o : b.Ok) (n s dec : Nat) : 0 ≤ stopI b n s dec := by
  obtain ⟨h0, h1⟩ := wgt_pos o n s
  unfold stopI
  split
  · exact Int.mul_nonneg (by omega) h1
  · exact Int.mul_nonneg (by omega) h0
theorem step_pos {b : PB} (o : b.Ok) (n s : Nat) : 0 ≤ stepI b n s := by
  obtain ⟨h0, h1⟩ := wgt_pos o n s
  exact Int.mul_nonneg (by omega) (by omega)
theorem bestI_pos {b : PB} (o : b.Ok) (n s : Nat) : 0 ≤ (bestI b n s).1 := by
  unfold bestI
  split
  · exact (stop_pos o n s 1 : 0 ≤ stopI b n s 1)
  · exact (stop_pos o n s 2 : 0 ≤ stopI b n s 2)
theorem leastI_pos {b : PB} (o : b.Ok) : ∀ k s, 0 ≤ ((leastI b k).getD s (0, 0)).1
  | 0, s => by
    unfold leastI
    rw [map_range_getD]
    split
    · exact bestI_pos o _ _
    · decide
  | k + 1, s => by
    unfold leastI rowI
    rw [map_range_getD]
    split
    · unfold betterI
      split
      · exact bestI_pos o _ _
      · have h1 := step_pos o (b.h - (k + 1)) s
        have h2 := leastI_pos o k s
        have h3 := leastI_pos o k (s + 1)
        show 0 ≤ onI _ _ _ _
        unfold onI
        omega
    · decide
/-! ### the cost of any plan -/
def planI (b : PB) (p : Plan) : Int := ((stops p).map fun z => (paths p z.1 z.2 : Int) * ((z.1 : Int) * stepI b z.1 z.2 + stopI b z.1 z.2 (decision p z.1 z.2))).sum
theorem planI_split (b : PB) {p : Plan} (hp : p.horizon = b.h) : planI b p = ((b.ad : Int) - b.a) * wsum p b.p0 b.d (fun n s => (b.c : Int) * n + (b.l0 : Int) * (if decision p n s = 1 then 0 else 1)) + (b.a : Int) * wsum p b.p1 b.d (fun n s => (b.c : Int) * n + (b.l1 : Int) * (if decision p n s = 1 then 1 else 0)) := by
  unfold planI wsum
  rw [hp]
  generalize stops p = l
  induction l with
  | nil => simp
  | cons z l ih =>
    rw [List.map_cons, List.map_cons, List.map_cons, List.sum_cons, List.sum_cons, List.sum_cons, ih]
    unfold stepI stopI wgt0 wgt1
    dsimp only
    by_cases c : decision p z.1 z.2 = 1
    · rw [if_pos c, if_pos c, if_pos c]
      grind
    · rw [if_neg c, if_neg c, if_neg c]
      grind
theorem planCost_is {b : PB} (o : b.Ok) {p : Plan} (w : Wf p) (hp : p.horizon = b.h) : Is (planCost b.K p) (planI b p) b.D := by
  have hd : 1 ≤ b.d := by have := o.p1b; omega
  have q := is_share (n := b.a) (d := b.ad) o.ad1
  have q0 := is_share (n := b.p0) hd
  have q1 := is_share (n := b.p1) hd
  have e0 := (expectedSize_is q0 p).mulN b.c
  have e1 := (expectedSize_is q1 p).mulN b.c
  have a1 := (acceptance_is q1 p).mulN b.l1
  have a0 : Is (minus (ofInt 1) (acceptance p (share b.p0 b.d))) (wsum p b.p0 b.d fun n s => if decision p n s = 1 then 0 else 1) ((b.d : Int) ^ p.horizon) := by
    refine (is_one_minus (acceptance_is q0 p)).to (Int.pow_pos (by omega)) ?_
    congr 1
    rw [← wsum_one w b.p0 b.d]
    have := wsum_add p b.p0 b.d (fun n s => if decision p n s = 1 then 1 else 0) (fun n s => if decision p n s = 1 then 0 else 1)
    have e : (fun n s => (if decision p n s = 1 then (1 : Int) else 0) + (if decision p n s = 1 then 0 else 1)) = fun _ _ => 1 := by
      funext n s
      split <;> rfl
    rw [e] at this
    omega
  have z0 := ((is_one_minus q).times (e0.addD (a0.mulN b.l0)))
  have z1 := (q.times (e1.addD a1))
  rw [hp] at z0 z1
  have z := (z0.addD z1)
  refine z.to o.D ?_
  unfold PB.D
  congr 1
  rw [planI_split b hp, wsum_add, wsum_mul, wsum_mul, wsum_add, wsum_mul, wsum_mul]
end SE
namespace SE
open Kxd7
/-! ## two-stage plans -/
def cho : Nat → Nat → Nat
  | _, 0 => 1
  | 0, _ + 1 => 0
  | n + 1, s + 1 => cho n s + cho n (s + 1)
theorem cho_zero (n : Nat) : cho n 0 = 1 := by cases n <;> rfl
theorem cho_out : ∀ n s, n < s → cho n s = 0
  | 0, 0, h => absurd h (by decide)
  | 0, s + 1, _ => rfl
  | n + 1, 0, h => absurd h (by omega)
  | n + 1, s + 1, h => by rw [cho, cho_out n s (by omega), cho_out n (s + 1) (by omega)]
theorem cho_succ (n s : Nat) : cho (n + 1) s = cho n s + (match s with | 0 => 0 | t + 1 => cho n t) := by
  cases s with
  | zero => rw [cho_zero, cho_zero]; rfl
  | succ t => rw [cho, Nat.add_comm]
theorem cho_step : ∀ n, n < 9 → ∀ i, i < 9 → i < n → cho n i * (n - i) = cho n (i + 1) * (i + 1) := by decide +kernel
theorem cho_le : ∀ n, n < 9 → ∀ i, i < 10 → cho n i ≤ 100 := by decide +kernel
def exI (P d : Int) (n s : Nat) : Int := (cho n s : Int) * chn P d n s
def atmI (P d : Int) (m : Nat) (j : Int) : Int := sumR (fun u => if (u : Int) ≤ j then exI P d m u else 0) (m + 1)
/-- one more observation, each point with a weight -/
theorem wstep (o : Nat → Nat) (g : Nat → Int) (P d : Int) (n : Nat) (h : ∀ s, n < s → o s = 0) :
    sumR (fun s => ((o s + (match s with | 0 => 0 | t + 1 => o t) : Nat) : Int) * (chn P d (n + 1) s * g s)) (n + 2) = sumR (fun s => (o s : Int) * (chn P d n s * ((d - P) * g s + P * g (s + 1)))) (n + 1) := by
  have e1 : sumR (fun s => (o s : Int) * (chn P d (n + 1) s * g s)) (n + 2) = sumR (fun s => (o s : Int) * (chn P d n s * ((d - P) * g s))) (n + 1) := by
    rw [sumR, h (n + 1) (by omega)]
    simp only [Int.natCast_zero, Int.zero_mul, Int.add_zero]
    refine sumR_congr fun s hs => ?_
    unfold chn
    rw [show n + 1 - s = (n - s) + 1 by omega, Int.pow_succ]
    grind
  have e2 : sumR (fun s => ((match s with | 0 => 0 | t + 1 => o t : Nat) : Int) * (chn P d (n + 1) s * g s)) (n + 2) = sumR (fun s => (o s : Int) * (chn P d n s * (P * g (s + 1)))) (n + 1) := by
    rw [sumR_head]
    simp only [Int.natCast_zero, Int.zero_mul, Int.zero_add]
    refine sumR_congr fun s hs => ?_
    unfold chn
    rw [show n + 1 - (s + 1) = n - s by omega, Int.pow_succ]
    grind
  have e3 : sumR (fun s => ((o s + (match s with | 0 => 0 | t + 1 => o t) : Nat) : Int) * (chn P d (n + 1) s * g s)) (n + 2) = sumR (fun s => (o s : Int) * (chn P d (n + 1) s * g s)) (n + 2) + sumR (fun s => ((match s with | 0 => 0 | t + 1 => o t : Nat) : Int) * (chn P d (n + 1) s * g s)) (n + 2) := by
    rw [← sumR_add]
    refine sumR_congr fun s _ => ?_
    rw [Int.natCast_add, Int.add_mul]
  rw [e3, e1, e2, ← sumR_add]
  refine sumR_congr fun s _ => ?_
  grind
theorem atmI_succ (P d : Int) (m : Nat) (j : Int) : atmI P d (m + 1) j = (d - P) * atmI P d m j + P * atmI P d m (j - 1) := by
  have k := wstep (cho m) (fun s => if (s : Int) ≤ j then 1 else 0) P d m (cho_out m)
  have e1 : atmI P d (m + 1) j = sumR (fun s => ((cho m s + (match s with | 0 => 0 | t + 1 => cho m t) : Nat) : Int) * (chn P d (m + 1) s * if (s : Int) ≤ j then 1 else 0)) (m + 2) := by
    unfold atmI
    refine sumR_congr fun s _ => ?_
    rw [← cho_succ]
    unfold exI
    split
    · grind
    · grind
  rw [e1, k]
  unfold atmI
  rw [← sumR_mul, ← sumR_mul, ← sumR_add]
  refine sumR_congr fun s _ => ?_
  unfold exI
  have e2 : (((s + 1 : Nat) : Int) ≤ j) ↔ ((s : Int) ≤ j - 1) := by omega
  by_cases c1 : (s : Int) ≤ j
  · rw [if_pos c1, if_pos c1]
    by_cases c2 : (s : Int) ≤ j - 1
    · rw [if_pos (e2.mpr c2), if_pos c2]
      grind
    · rw [if_neg (fun z => c2 (e2.mp z)), if_neg c2]
      grind
  · rw [if_neg c1, if_neg c1, if_neg (fun z => c1 (by omega)), if_neg (fun z => c1 (by omega))]
    grind
theorem atmI_zero (P d : Int) (j : Int) : atmI P d 0 j = if 0 ≤ j then 1 else 0 := by
  unfold atmI exI chn
  rw [sumR, sumR]
  simp [cho_zero]
/-- a sum of which the end is 0 -/
theorem sumR_cut {f : Nat → Int} {a : Nat} : ∀ {b : Nat}, a ≤ b → (∀ i, a ≤ i → i < b → f i = 0) → sumR f b = sumR f a
  | 0, h, _ => by rw [show a = 0 by omega]
  | b + 1, h, k => by
    by_cases e : a = b + 1
    · rw [e]
    · rw [sumR, sumR_cut (b := b) (by omega) (fun i h1 h2 => k i h1 (by omega)), k b (by omega) (by omega), Int.add_zero]
theorem atmI_range (P d : Int) (m : Nat) (j : Int) : atmI P d m j = sumR (exI P d m) (min (m : Int) j + 1).toNat := by
  unfold atmI
  rw [sumR_cut (a := (min (m : Int) j + 1).toNat) (by omega) (fun i h1 h2 => if_neg (by omega))]
  exact sumR_congr fun i hi => if_pos (by omega)
/-! ### the plan of two stages -/
structure Stg (z : Nat × Nat × Nat × Nat) : Prop where
  a : 1 ≤ z.1
  b : z.1 < z.2.2.1
  c : z.2.1 < z.1
  e : z.2.2.2 < z.2.2.1
  f : z.2.1 ≤ z.2.2.2
  m : z.2.2.1 ≤ 8
section
variable {n1 r1 n r : Nat} (g : Stg (n1, r1, n, r))
include g
theorem planOf_dec {m s : Nat} (hm : m ≤ n) (hs : s ≤ m) : decision (planOf (n1, r1, n, r)) m s = twoStageRule n1 r1 n r m s := by
  have h1 := g.b
  have h2 := g.c
  unfold decision planOf fromRule
  dsimp only
  rw [show ((List.range (n + 1)).map fun m => (List.range (m + 1)).map fun s => if m = n ∧ twoStageRule n1 r1 n r m s = 0 then 1 else twoStageRule n1 r1 n r m s).getD m [] = _ from List.getD_eq_getElem?_getD, List.getElem?_map, List.getElem?_range (show m < n + 1 by omega)]
  show ((List.range (m + 1)).map _).getD s 1 = _
  rw [List.getD_eq_getElem?_getD, List.getElem?_map, List.getElem?_range (by omega)]
  show (if m = n ∧ twoStageRule n1 r1 n r m s = 0 then 1 else twoStageRule n1 r1 n r m s) = _
  rw [if_neg]
  rintro ⟨e1, e2⟩
  unfold twoStageRule at e2
  split at e2
  · exact absurd e2 (by decide)
  · rw [if_neg (by omega)] at e2
    split at e2 <;> exact absurd e2 (by decide)
theorem planOf_open {m s : Nat} (hm : m < n) (hs : s ≤ m) (h : m ≠ n1 ∨ r1 < s) : decision (planOf (n1, r1, n, r)) m s = 0 := by
  rw [planOf_dec g (by omega) hs]
  unfold twoStageRule
  rw [if_neg (by omega), if_pos hm]
theorem planOf_first {s : Nat} (hs : s ≤ r1) : decision (planOf (n1, r1, n, r)) n1 s = 1 := by
  have h1 := g.b
  have h2 := g.c
  have h1 : n1 < n := h1
  have h2 : r1 < n1 := h2
  rw [planOf_dec g (by omega) (by omega)]
  unfold twoStageRule
  rw [if_pos (by omega)]
theorem planOf_last {s : Nat} (hs : s ≤ n) : decision (planOf (n1, r1, n, r)) n s = if s ≤ r then 1 else 2 := by
  have h1 : n1 < n := g.b
  rw [planOf_dec g (Nat.le_refl _) hs]
  unfold twoStageRule
  rw [if_neg (by omega), if_neg (by omega)]
  by_cases c : r < s
  · rw [if_pos c, if_neg (by omega)]
  · rw [if_neg c, if_pos (by omega)]
theorem planOf_wf : Wf (planOf (n1, r1, n, r)) where
  h1 := by
    have h1 : n1 < n := g.b
    show 1 ≤ n
    omega
  h2 := by
    have h1 : n ≤ 8 := g.m
    show n ≤ 20
    omega
  len := by
    show ((List.range (n + 1)).map _).length = n + 1
    simp
  row := fun m hm => by
    have hm : m ≤ n := hm
    unfold planOf fromRule
    dsimp only
    rw [List.getD_eq_getElem?_getD, List.getElem?_map, List.getElem?_range (show m < n + 1 by omega)]
    show ((List.range (m + 1)).map _).length = _
    simp
  dec := fun m s hm hs => by
    rw [planOf_dec g hm hs]
    unfold twoStageRule
    repeat' split
    all_goals decide
  last := fun s hs => by
    show decision _ n s ≠ 0
    rw [planOf_last g hs]
    split <;> decide
theorem planOf_paths : ∀ m, m ≤ n1 → ∀ s, paths (planOf (n1, r1, n, r)) m s = cho m s
  | 0, _, s => by
    rw [paths_zero]
    cases s with
    | zero => rfl
    | succ s => rw [if_neg (by omega)]; rfl
  | m + 1, h, s => by
    have h1 : n1 < n := g.b
    have o : ∀ t, openP (planOf (n1, r1, n, r)) m t = cho m t := fun t => by
      by_cases ht : t ≤ m
      · unfold openP
        rw [if_pos (planOf_open g (by omega) ht (.inl (by omega))), planOf_paths m (by omega)]
      · rw [openP_out _ _ _ (by omega), cho_out m t (by omega)]
    rw [paths_succ, cho_succ, o]
    cases s with
    | zero => rfl
    | succ t => exact congrArg (cho m (t + 1) + ·) (o t)
/-- from the first stage on nothing stops before the end -/
theorem planOf_mass (P d : Int) : ∀ m, n1 + m < n → sumR (fun s => (paths (planOf (n1, r1, n, r)) (n1 + m + 1) s : Int) * (chn P d (n1 + m + 1) s * atmI P d (n - (n1 + m + 1)) ((r : Int) - s))) (n1 + m + 2) =
    sumR (fun s => (openP (planOf (n1, r1, n, r)) n1 s : Int) * (chn P d n1 s * atmI P d (n - n1) ((r : Int) - s))) (n1 + 1) := by
  have step : ∀ m, m < n → sumR (fun s => (paths (planOf (n1, r1, n, r)) (m + 1) s : Int) * (chn P d (m + 1) s * atmI P d (n - (m + 1)) ((r : Int) - s))) (m + 2) =
      sumR (fun s => (openP (planOf (n1, r1, n, r)) m s : Int) * (chn P d m s * atmI P d (n - m) ((r : Int) - s))) (m + 1) := fun m hm => by
    have k := wstep (openP (planOf (n1, r1, n, r)) m) (fun s => atmI P d (n - (m + 1)) ((r : Int) - s)) P d m (openP_out _ m)
    rw [show (fun s => (paths (planOf (n1, r1, n, r)) (m + 1) s : Int) * (chn P d (m + 1) s * atmI P d (n - (m + 1)) ((r : Int) - s))) = fun s => ((openP (planOf (n1, r1, n, r)) m s + (match s with | 0 => 0 | t + 1 => openP (planOf (n1, r1, n, r)) m t) : Nat) : Int) * (chn P d (m + 1) s * atmI P d (n - (m + 1)) ((r : Int) - s)) from funext fun s => by (rw [paths_succ]) <;> (cases s <;> rfl), k]
    refine sumR_congr fun s _ => ?_
    rw [show n - m = (n - (m + 1)) + 1 by omega, atmI_succ]
    rw [show (r : Int) - ((s + 1 : Nat) : Int) = (r : Int) - s - 1 by omega]
  intro m
  induction m with
  | zero => exact fun h => step n1 h
  | succ m ih =>
    intro h
    rw [show n1 + (m + 1) = n1 + m + 1 by omega] at *
    rw [step (n1 + m + 1) h, ← ih (by omega)]
    refine sumR_congr fun s hs => ?_
    unfold openP
    rw [if_pos (planOf_open g (by omega) (by omega) (.inl (by omega)))]
omit g in
/-- what the program sums -/
def accI (P d : Int) (z : Nat × Nat × Nat × Nat) : Int := atmI P d z.1 z.2.1 * d ^ (z.2.2.1 - z.1) + sumR (fun i => exI P d z.1 (z.2.1 + 1 + i) * atmI P d (z.2.2.1 - z.1) ((z.2.2.2 : Int) - ((z.2.1 + 1 + i : Nat) : Int))) (z.1 - z.2.1)
omit g in
theorem sumR_shift (f : Nat → Int) (a : Nat) : ∀ b, sumR f (a + b) = sumR f a + sumR (fun i => f (a + i)) b
  | 0 => by rw [sumR]; simp
  | b + 1 => by rw [← Nat.add_assoc, sumR, sumR_shift f a b, sumR]; omega
/-- the level of the first stage, the last level -/
theorem level_first (P d : Int) (w : Nat → Nat → Int) : sumR (fun s => if decision (planOf (n1, r1, n, r)) n1 s ≠ 0 then (paths (planOf (n1, r1, n, r)) n1 s : Int) * (w n1 s * (chn P d n1 s * d ^ (n - n1))) else 0) (n1 + 1) = sumR (fun s => exI P d n1 s * w n1 s * d ^ (n - n1)) (r1 + 1) := by
  have h1 : n1 < n := g.b
  have h2 : r1 < n1 := g.c
  rw [sumR_cut (a := r1 + 1) (by omega) (fun i h3 h4 => if_neg (fun z => z (planOf_open g h1 (by omega) (.inr (by omega)))))]
  refine sumR_congr fun s hs => ?_
  rw [if_pos (by rw [planOf_first g (by omega)]; decide), planOf_paths g n1 (Nat.le_refl _)]
  unfold exI
  grind
theorem wsum_two (P d : Int) (w : Nat → Nat → Int) : wsum (planOf (n1, r1, n, r)) P d w = sumR (fun s => exI P d n1 s * w n1 s * d ^ (n - n1)) (r1 + 1) + sumR (fun s => (paths (planOf (n1, r1, n, r)) n s : Int) * (w n s * chn P d n s)) (n + 1) := by
  have h1 : n1 < n := g.b
  have h2 : r1 < n1 := g.c
  rw [wsum_dbl]
  show sumR _ (n + 1) = _
  rw [sumR]
  congr 1
  · obtain ⟨q, hq⟩ : ∃ q, n = (n1 + 1) + q := ⟨n - (n1 + 1), by omega⟩
    have z : ∀ m, m < n → m ≠ n1 → sumR (fun s => if decision (planOf (n1, r1, n, r)) m s ≠ 0 then (paths (planOf (n1, r1, n, r)) m s : Int) * (w m s * (chn P d m s * d ^ (n - m))) else 0) (m + 1) = 0 := fun m hm hne => by
      refine (sumR_congr (g := fun _ => 0) fun s hs => ?_).trans (sumR_zero' _)
      rw [if_neg (fun y => y (planOf_open g hm (show s ≤ m by omega) (.inl hne)))]
    show sumR (fun m => sumR (fun s => if decision (planOf (n1, r1, n, r)) m s ≠ 0 then (paths (planOf (n1, r1, n, r)) m s : Int) * (w m s * (chn P d m s * d ^ (n - m))) else 0) (m + 1)) n = _
    rw [sumR_cut (a := n1 + 1) (by omega) (fun i h3 h4 => z i h4 (by omega)), sumR, level_first g P d w, sumR_cut (a := 0) (Nat.zero_le _) (fun i _ h4 => z i (by omega) (by omega)), sumR, Int.zero_add]
  · refine sumR_congr fun s hs => ?_
    show (if decision (planOf (n1, r1, n, r)) n s ≠ 0 then (paths (planOf (n1, r1, n, r)) n s : Int) * (w n s * (chn P d n s * d ^ (n - n))) else 0) = _
    rw [if_pos (by rw [planOf_last g (by omega)]; split <;> decide), Nat.sub_self, Int.pow_zero, Int.mul_one]
omit g in
theorem sumR_mulr (c : Int) (f : Nat → Int) (n : Nat) : sumR (fun i => f i * c) n = sumR f n * c := by
  rw [Int.mul_comm, ← sumR_mul]
  exact sumR_congr fun i _ => Int.mul_comm _ _
theorem first_atm (P d : Int) : sumR (fun s => exI P d n1 s * 1 * d ^ (n - n1)) (r1 + 1) = atmI P d n1 r1 * d ^ (n - n1) := by
  have h2 : r1 < n1 := g.c
  rw [atmI_range, show (min (n1 : Int) r1 + 1).toNat = r1 + 1 by omega, ← sumR_mulr]
  exact sumR_congr fun i _ => by rw [Int.mul_one]
theorem acc_two (P d : Int) : wsum (planOf (n1, r1, n, r)) P d (fun m s => if decision (planOf (n1, r1, n, r)) m s = 1 then 1 else 0) = accI P d (n1, r1, n, r) := by
  have h1 : n1 < n := g.b
  have h2 : r1 < n1 := g.c
  rw [wsum_two g]
  unfold accI
  congr 1
  · rw [← first_atm g]
    exact sumR_congr fun s hs => by rw [if_pos (planOf_first g (by omega))]
  · obtain ⟨m, hm⟩ : ∃ m, n = n1 + m + 1 := ⟨n - n1 - 1, by omega⟩
    have k := planOf_mass g P d m (by omega)
    rw [← hm] at k
    have e1 : sumR (fun s => (paths (planOf (n1, r1, n, r)) n s : Int) * ((if decision (planOf (n1, r1, n, r)) n s = 1 then 1 else 0) * chn P d n s)) (n + 1) = sumR (fun s => (paths (planOf (n1, r1, n, r)) n s : Int) * (chn P d n s * atmI P d (n - n) ((r : Int) - s))) (n1 + m + 2) := by
      rw [show n1 + m + 2 = n + 1 by omega]
      refine sumR_congr fun s hs => ?_
      rw [Nat.sub_self, atmI_zero, planOf_last g (by omega)]
      by_cases c : s ≤ r
      · rw [if_pos c, if_pos rfl, if_pos (by omega)]
        grind
      · rw [if_neg c, if_neg (by decide), if_neg (by omega)]
        grind
    rw [e1, k]
    obtain ⟨q, hq⟩ : ∃ q, n1 = r1 + q := ⟨n1 - r1, by omega⟩
    show _ = sumR (fun i => exI P d n1 (r1 + 1 + i) * atmI P d (n - n1) ((r : Int) - ((r1 + 1 + i : Nat) : Int))) (n1 - r1)
    rw [show n1 + 1 = (r1 + 1) + (n1 - r1) by omega, sumR_shift, sumR_cut (a := 0) (b := r1 + 1) (Nat.zero_le _) (fun i _ h4 => by
      unfold openP
      rw [if_neg (by rw [planOf_first g (by omega)]; decide)]
      simp), sumR, Int.zero_add]
    refine sumR_congr fun i hi => ?_
    unfold openP exI
    rw [if_pos (planOf_open g h1 (by omega) (.inr (by omega))), planOf_paths g n1 (Nat.le_refl _)]
    grind
theorem size_two {P d : Int} (hd : 0 < d) {x : Fraction} (h : Is x P d) : Is (expectedSize (planOf (n1, r1, n, r)) x) ((n1 : Int) * d ^ n1 + ((n : Int) - n1) * (d ^ n1 - atmI P d n1 r1)) (d ^ n1) := by
  have h1 : n1 < n := g.b
  have k := expectedSize_is h (planOf (n1, r1, n, r))
  refine k.to (Int.pow_pos hd) ?_
  show _ * d ^ n1 = _ * d ^ n
  have w1 := wsum_one (planOf_wf g) P d
  have w2 := wsum_two g P d (fun _ _ => 1)
  have w3 := wsum_two g P d (fun m _ => (m : Int))
  rw [w1] at w2
  rw [w3]
  have e1 : sumR (fun s => exI P d n1 s * (n1 : Int) * d ^ (n - n1)) (r1 + 1) = (n1 : Int) * (atmI P d n1 r1 * d ^ (n - n1)) := by
    rw [← first_atm g, ← sumR_mul]
    exact sumR_congr fun i _ => by grind
  have e2 : sumR (fun s => (paths (planOf (n1, r1, n, r)) n s : Int) * ((n : Int) * chn P d n s)) (n + 1) = (n : Int) * sumR (fun s => (paths (planOf (n1, r1, n, r)) n s : Int) * (1 * chn P d n s)) (n + 1) := by
    rw [← sumR_mul]
    exact sumR_congr fun i _ => by grind
  rw [e1, e2]
  rw [first_atm g] at w2
  have w2 : d ^ n = atmI P d n1 r1 * d ^ (n - n1) + sumR (fun s => (paths (planOf (n1, r1, n, r)) n s : Int) * (1 * chn P d n s)) (n + 1) := w2
  have e3 : d ^ n = d ^ n1 * d ^ (n - n1) := by rw [← Int.pow_add, show n1 + (n - n1) = n by omega]
  generalize sumR (fun s => (paths (planOf (n1, r1, n, r)) n s : Int) * (1 * chn P d n s)) (n + 1) = S at *
  generalize atmI P d n1 r1 = A at *
  have e4 : S = d ^ n1 * d ^ (n - n1) - A * d ^ (n - n1) := by rw [← e3]; omega
  rw [e3, e4]
  generalize d ^ (n - n1) = y
  generalize d ^ n1 = z
  grind
end
/-! ### all of them in order, the best one -/
def allStg (most : Nat) : List (Nat × Nat × Nat × Nat) := (List.range (most - 1)).flatMap fun a => (List.range (a + 1)).flatMap fun b => (List.range (b + 1)).flatMap fun c => (List.range (a + 2 - c)).map fun e => (b + 1, c, a + 2, c + e)
theorem allStg_eq : ∀ m, m < 9 → twoStagePlans m = allStg m := by decide +kernel
theorem allStg_ok {m : Nat} (hm : m ≤ 8) {z : Nat × Nat × Nat × Nat} (h : z ∈ allStg m) : Stg z := by
  unfold allStg at h
  simp only [List.mem_flatMap, List.mem_map, List.mem_range] at h
  obtain ⟨a, ha, b, hb, c, hc, e, he, rfl⟩ := h
  exact ⟨by show 1 ≤ b + 1; omega, by show b + 1 < a + 2; omega, by show c < b + 1; omega, by show c + e < a + 2; omega, by show c ≤ c + e; omega, by show a + 2 ≤ 8; omega⟩
end SE
namespace SE
open Kxd7
/-! ## two treatments -/
abbrev W4 := Nat × Nat × Nat × Nat
def bump (w : W4) (i : Nat) : W4 := match i with
  | 0 => (w.1 + 1, w.2.1, w.2.2.1, w.2.2.2)
  | 1 => (w.1, w.2.1 + 1, w.2.2.1, w.2.2.2)
  | 2 => (w.1, w.2.1, w.2.2.1 + 1, w.2.2.2)
  | _ => (w.1, w.2.1, w.2.2.1, w.2.2.2 + 1)
def sv (h : Nat) (w : W4) : Fraction := successValue h w.1 w.2.1 w.2.2.1 w.2.2.2
def fv (t h : Nat) (w : W4) : Fraction := firstValue t h w.1 w.2.1 w.2.2.1 w.2.2.2
/-- the program's sum -/
def mix (a b : Nat) (x y : Fraction) : Fraction := plus (times (fraction a ((a : Int) + b)) (plus ⟨1, 1⟩ x)) (times (fraction b ((a : Int) + b)) y)
theorem mix_eq {a b : Nat} {x y : Fraction} (ha : 1 ≤ a) (hx : Ok x) (hy : Ok y) : over (plus (times (ofNat a) (plus (ofInt 1) x)) (times (ofNat b) y)) (ofNat (a + b)) = mix a b x y := by
  have ix := hx.is
  have iy := hy.is
  have h0 : 0 < (a : Int) + b := by omega
  have l := (((is_nat a).times ((is_int 1).plus ix)).plus ((is_nat b).times iy)).over (is_nat (a + b)) (by omega)
  have r := ((fraction_is (n := a) h0).times (is_one.plus ix)).plus ((fraction_is (n := b) h0).times iy)
  refine l.uniq ((r : Is (mix a b x y) _ _).to l.pos ?_)
  rw [Int.natCast_add]
  grind
theorem mix_ok {a b : Nat} {x y : Fraction} (ha : 1 ≤ a) (hx : Ok x) (hy : Ok y) : Ok (mix a b x y) := by
  have h0 : 0 < (a : Int) + b := by omega
  exact (((fraction_is (n := a) h0).times (is_one.plus hx.is)).plus ((fraction_is (n := b) h0).times hy.is)).ok
structure Wt (w : W4) : Prop where
  a : 1 ≤ w.1
  b : 1 ≤ w.2.1
  c : 1 ≤ w.2.2.1
  d : 1 ≤ w.2.2.2
theorem Wt.bump {w : W4} (h : Wt w) (i : Nat) : Wt (SE.bump w i) := by
  have := h.a
  have := h.b
  have := h.c
  have := h.d
  unfold SE.bump
  split
  · exact ⟨by show 1 ≤ w.1 + 1; omega, h.b, h.c, h.d⟩
  · exact ⟨h.a, by show 1 ≤ w.2.1 + 1; omega, h.c, h.d⟩
  · exact ⟨h.a, h.b, by show 1 ≤ w.2.2.1 + 1; omega, h.d⟩
  · exact ⟨h.a, h.b, h.c, by show 1 ≤ w.2.2.2 + 1; omega⟩
def mixT (h t : Nat) (w : W4) : Fraction := if t = 0 then mix w.1 w.2.1 (sv h (bump w 0)) (sv h (bump w 1)) else mix w.2.2.1 w.2.2.2 (sv h (bump w 2)) (sv h (bump w 3))
theorem sv_step {h : Nat} {w : W4} (hw : Wt w) (o : ∀ i, Ok (sv h (bump w i))) : sv (h + 1) w = (if isLess (mixT h 0 w) (mixT h 1 w) then mixT h 1 w else mixT h 0 w) ∧ (∀ t, t < 2 → fv t (h + 1) w = mixT h t w) := by
  have e0 := mix_eq hw.a (o 0) (o 1) (b := w.2.1)
  have e1 := mix_eq hw.c (o 2) (o 3) (b := w.2.2.2)
  have m0 : mixT h 0 w = mix w.1 w.2.1 (sv h (bump w 0)) (sv h (bump w 1)) := rfl
  have m1 : mixT h 1 w = mix w.2.2.1 w.2.2.2 (sv h (bump w 2)) (sv h (bump w 3)) := rfl
  refine ⟨?_, fun t ht => ?_⟩
  · rw [m0, m1, ← e0, ← e1]
    rfl
  · match t, ht with
    | 0, _ => rw [m0, ← e0]; rfl
    | 1, _ => rw [m1, ← e1]; rfl
theorem mixT_ok {h : Nat} {w : W4} (hw : Wt w) (o : ∀ i, Ok (sv h (bump w i))) (t : Nat) : Ok (mixT h t w) := by
  unfold mixT
  split
  · exact mix_ok hw.a (o 0) (o 1)
  · exact mix_ok hw.c (o 2) (o 3)
theorem sv_ok : ∀ (h : Nat) {w : W4}, Wt w → Ok (sv h w)
  | 0, w, hw => is_zero.ok
  | h + 1, w, hw => by
    have o : ∀ i, Ok (sv h (bump w i)) := fun i => sv_ok h (hw.bump i)
    rw [(sv_step hw o).1]
    split
    · exact mixT_ok hw o 1
    · exact mixT_ok hw o 0
theorem sv_succ {h : Nat} {w : W4} (hw : Wt w) : sv (h + 1) w = (if isLess (mixT h 0 w) (mixT h 1 w) then mixT h 1 w else mixT h 0 w) := (sv_step hw fun i => sv_ok h (hw.bump i)).1
theorem fv_succ {h : Nat} {w : W4} (hw : Wt w) {t : Nat} (ht : t < 2) : fv t (h + 1) w = mixT h t w := (sv_step hw fun i => sv_ok h (hw.bump i)).2 t ht
/-- what can come behind weights -/
def Rch (w0 : W4) : Nat → W4 → Prop
  | 0, w => w = w0
  | j + 1, w => ∃ u i, i < 4 ∧ Rch w0 j u ∧ w = bump u i
structure Most (m : Nat) (w : W4) : Prop where
  a : w.1 ≤ m
  b : w.2.1 ≤ m
  c : w.2.2.1 ≤ m
  d : w.2.2.2 ≤ m
theorem Most.bump {m : Nat} {w : W4} (h : Most m w) (i : Nat) : Most (m + 1) (SE.bump w i) := by
  have := h.a
  have := h.b
  have := h.c
  have := h.d
  unfold SE.bump
  split <;> exact ⟨by dsimp only; omega, by dsimp only; omega, by dsimp only; omega, by dsimp only; omega⟩
theorem Rch.wt {w0 : W4} (h : Wt w0) : ∀ {j : Nat} {w : W4}, Rch w0 j w → Wt w
  | 0, w, r => by rw [show w = w0 from r]; exact h
  | j + 1, w, ⟨u, i, _, r, e⟩ => by rw [e]; exact (Rch.wt h r).bump i
theorem Rch.most {w0 : W4} {m : Nat} (h : Most m w0) : ∀ {j : Nat} {w : W4}, Rch w0 j w → Most (m + j) w
  | 0, w, r => by rw [show w = w0 from r]; exact h
  | j + 1, w, ⟨u, i, _, r, e⟩ => by rw [e]; exact (Rch.most h r).bump i
end SE
namespace SE
open Kxd7
/-! ## calls in a list of numbers -/
def manyL : List Nat := [1, 3, 1, 7, 3, 0, 8, 2, 2, 0, 2, 2, 3, 3, 8, 8, 2, 8, 5, 1, 0]
def req : Nat → List Nat → Option Request
  | 0, [a] => some (.create a)
  | 1, [a, b, c] => some (.setDecision a b c)
  | 2, [a] => some (.single a)
  | 3, [a, b, c, d, e, f, g] => some (.likelihood a b c d e f g)
  | 4, [a, b, c] => some (.twoStage a b c)
  | 5, [] => some .curtail
  | 6, [a, b, c, d, e, f, g, h] => some (.optimal a b c d e f g h)
  | 7, [a, b] => some (.decision a b)
  | 8, [a, b] => some (.paths a b)
  | 9, [] => some .stopCount
  | 10, [a, b] => some (.acceptance a b)
  | 11, [a, b] => some (.expectedSize a b)
  | 12, [a, b, c] => some (.stopProbability a b c)
  | 13, [a, b, c] => some (.errors a b c)
  | 14, [a, b, c, d, e, f, g, h] => some (.planCost a b c d e f g h)
  | 15, [a, b, c, d, e, f, g, h] => some (.leastCost a b c d e f g h)
  | 16, [a, b] => some (.unbiased a b)
  | 17, [a, b, c, d, e, f, g, h] => some (.bestTwoStage a b c d e f g h)
  | 18, [a, b, c, d, e] => some (.successes a b c d e)
  | 19, [a] => some (.row a)
  | 20, [] => some .summary
  | _, _ => none
theorem shape_cases {p : Int} {n k : Nat} (h : PyKxd7.shape p = some (n, k)) : ∃ num : Nat, p = (num : Int) ∧ k = 0 ∧ manyL[num]? = some n := by
  unfold PyKxd7.shape at h
  by_cases e0 : p = 0
  · rw [if_pos e0] at h; cases h; exact ⟨0, e0, rfl, rfl⟩
  rw [if_neg e0] at h
  by_cases e1 : p = 1
  · rw [if_pos e1] at h; cases h; exact ⟨1, e1, rfl, rfl⟩
  rw [if_neg e1] at h
  by_cases e2 : p = 2
  · rw [if_pos e2] at h; cases h; exact ⟨2, e2, rfl, rfl⟩
  rw [if_neg e2] at h
  by_cases e3 : p = 3
  · rw [if_pos e3] at h; cases h; exact ⟨3, e3, rfl, rfl⟩
  rw [if_neg e3] at h
  by_cases e4 : p = 4
  · rw [if_pos e4] at h; cases h; exact ⟨4, e4, rfl, rfl⟩
  rw [if_neg e4] at h
  by_cases e5 : p = 5
  · rw [if_pos e5] at h; cases h; exact ⟨5, e5, rfl, rfl⟩
  rw [if_neg e5] at h
  by_cases e6 : p = 6
  · rw [if_pos e6] at h; cases h; exact ⟨6, e6, rfl, rfl⟩
  rw [if_neg e6] at h
  by_cases e7 : p = 7
  · rw [if_pos e7] at h; cases h; exact ⟨7, e7, rfl, rfl⟩
  rw [if_neg e7] at h
  by_cases e8 : p = 8
  · rw [if_pos e8] at h; cases h; exact ⟨8, e8, rfl, rfl⟩
  rw [if_neg e8] at h
  by_cases e9 : p = 9
  · rw [if_pos e9] at h; cases h; exact ⟨9, e9, rfl, rfl⟩
  rw [if_neg e9] at h
  by_cases e10 : p = 10
  · rw [if_pos e10] at h; cases h; exact ⟨10, e10, rfl, rfl⟩
  rw [if_neg e10] at h
  by_cases e11 : p = 11
  · rw [if_pos e11] at h; cases h; exact ⟨11, e11, rfl, rfl⟩
  rw [if_neg e11] at h
  by_cases e12 : p = 12
  · rw [if_pos e12] at h; cases h; exact ⟨12, e12, rfl, rfl⟩
  rw [if_neg e12] at h
  by_cases e13 : p = 13
  · rw [if_pos e13] at h; cases h; exact ⟨13, e13, rfl, rfl⟩
  rw [if_neg e13] at h
  by_cases e14 : p = 14
  · rw [if_pos e14] at h; cases h; exact ⟨14, e14, rfl, rfl⟩
  rw [if_neg e14] at h
  by_cases e15 : p = 15
  · rw [if_pos e15] at h; cases h; exact ⟨15, e15, rfl, rfl⟩
  rw [if_neg e15] at h
  by_cases e16 : p = 16
  · rw [if_pos e16] at h; cases h; exact ⟨16, e16, rfl, rfl⟩
  rw [if_neg e16] at h
  by_cases e17 : p = 17
  · rw [if_pos e17] at h; cases h; exact ⟨17, e17, rfl, rfl⟩
  rw [if_neg e17] at h
  by_cases e18 : p = 18
  · rw [if_pos e18] at h; cases h; exact ⟨18, e18, rfl, rfl⟩
  rw [if_neg e18] at h
  by_cases e19 : p = 19
  · rw [if_pos e19] at h; cases h; exact ⟨19, e19, rfl, rfl⟩
  rw [if_neg e19] at h
  by_cases e20 : p = 20
  · rw [if_pos e20] at h; cases h; exact ⟨20, e20, rfl, rfl⟩
  rw [if_neg e20] at h
  cases h
theorem step_of {num : Nat} {ns : List Nat} (hm : manyL[num]? = some ns.length) (s : State) : ∃ q, req num ns = some q ∧ Kxd7Neutral.step s (PyKxd7.whole [((num : Nat) : Int) :: ns.map (fun (x : Nat) => (x : Int))]) = ((Kxd7.step s q).1, Kxd7Neutral.fields (Kxd7.step s q).2) := by
  have hlt : num < 21 := (List.getElem?_eq_some_iff.mp hm).1
  have l0 : ∀ {l : List Nat}, l.length = 0 → l = [] := fun h => List.length_eq_zero_iff.mp h
  have l1 : ∀ {l : List Nat} {n : Nat}, l.length = n + 1 → ∃ a t, l = a :: t ∧ t.length = n := fun {l n} h => match l, h with
    | a :: t, h => ⟨a, t, rfl, by simpa using h⟩
  have h1 : ∀ {l : List Nat}, l.length = 1 → ∃ a, l = [a] := fun h => by
    obtain ⟨a, t, rfl, h'⟩ := l1 h
    exact ⟨a, by rw [l0 h']⟩
  have h2 : ∀ {l : List Nat}, l.length = 2 → ∃ a b, l = [a, b] := fun h => by
    obtain ⟨a, t, rfl, h'⟩ := l1 h
    obtain ⟨b, rfl⟩ := h1 h'
    exact ⟨a, b, rfl⟩
  have h3 : ∀ {l : List Nat}, l.length = 3 → ∃ a b c, l = [a, b, c] := fun h => by
    obtain ⟨a, t, rfl, h'⟩ := l1 h
    obtain ⟨b, c, rfl⟩ := h2 h'
    exact ⟨a, b, c, rfl⟩
  have h5 : ∀ {l : List Nat}, l.length = 5 → ∃ a b c d e, l = [a, b, c, d, e] := fun h => by
    obtain ⟨a, t, rfl, h'⟩ := l1 h
    obtain ⟨b, u, rfl, h''⟩ := l1 h'
    obtain ⟨c, d, e, rfl⟩ := h3 h''
    exact ⟨a, b, c, d, e, rfl⟩
  have h7 : ∀ {l : List Nat}, l.length = 7 → ∃ a b c d e f g, l = [a, b, c, d, e, f, g] := fun h => by
    obtain ⟨a, t, rfl, h'⟩ := l1 h
    obtain ⟨b, u, rfl, h''⟩ := l1 h'
    obtain ⟨c, d, e, f, g, rfl⟩ := h5 h''
    exact ⟨a, b, c, d, e, f, g, rfl⟩
  have h8 : ∀ {l : List Nat}, l.length = 8 → ∃ a b c d e f g h, l = [a, b, c, d, e, f, g, h] := fun h => by
    obtain ⟨a, t, rfl, h'⟩ := l1 h
    obtain ⟨b, c, d, e, f, g, z, rfl⟩ := h7 h'
    exact ⟨a, b, c, d, e, f, g, z, rfl⟩
  have c1 : ∀ {n : Nat}, manyL[num]? = some n → ns.length = n := fun e => by rw [hm] at e; exact Option.some.inj e
  rcases (show num = 0 ∨ num = 1 ∨ num = 2 ∨ num = 3 ∨ num = 4 ∨ num = 5 ∨ num = 6 ∨ num = 7 ∨ num = 8 ∨ num = 9 ∨ num = 10 ∨ num = 11 ∨ num = 12 ∨ num = 13 ∨ num = 14 ∨ num = 15 ∨ num = 16 ∨ num = 17 ∨ num = 18 ∨ num = 19 ∨ num = 20 by omega) with
    rfl | rfl | rfl | rfl | rfl | rfl | rfl | rfl | rfl | rfl | rfl | rfl | rfl | rfl | rfl | rfl | rfl | rfl | rfl | rfl | rfl
  · obtain ⟨a, rfl⟩ := h1 (c1 rfl); exact ⟨_, rfl, rfl⟩
  · obtain ⟨a, b, c, rfl⟩ := h3 (c1 rfl); exact ⟨_, rfl, rfl⟩
  · obtain ⟨a, rfl⟩ := h1 (c1 rfl); exact ⟨_, rfl, rfl⟩
  · obtain ⟨a, b, c, d, e, f, g, rfl⟩ := h7 (c1 rfl); exact ⟨_, rfl, rfl⟩
  · obtain ⟨a, b, c, rfl⟩ := h3 (c1 rfl); exact ⟨_, rfl, rfl⟩
  · have := l0 (c1 rfl); subst this; exact ⟨_, rfl, rfl⟩
  · obtain ⟨a, b, c, d, e, f, g, z, rfl⟩ := h8 (c1 rfl); exact ⟨_, rfl, rfl⟩
  · obtain ⟨a, b, rfl⟩ := h2 (c1 rfl); exact ⟨_, rfl, rfl⟩
  · obtain ⟨a, b, rfl⟩ := h2 (c1 rfl); exact ⟨_, rfl, rfl⟩
  · have := l0 (c1 rfl); subst this; exact ⟨_, rfl, rfl⟩
  · obtain ⟨a, b, rfl⟩ := h2 (c1 rfl); exact ⟨_, rfl, rfl⟩
  · obtain ⟨a, b, rfl⟩ := h2 (c1 rfl); exact ⟨_, rfl, rfl⟩
  · obtain ⟨a, b, c, rfl⟩ := h3 (c1 rfl); exact ⟨_, rfl, rfl⟩
  · obtain ⟨a, b, c, rfl⟩ := h3 (c1 rfl); exact ⟨_, rfl, rfl⟩
  · obtain ⟨a, b, c, d, e, f, g, z, rfl⟩ := h8 (c1 rfl); exact ⟨_, rfl, rfl⟩
  · obtain ⟨a, b, c, d, e, f, g, z, rfl⟩ := h8 (c1 rfl); exact ⟨_, rfl, rfl⟩
  · obtain ⟨a, b, rfl⟩ := h2 (c1 rfl); exact ⟨_, rfl, rfl⟩
  · obtain ⟨a, b, c, d, e, f, g, z, rfl⟩ := h8 (c1 rfl); exact ⟨_, rfl, rfl⟩
  · obtain ⟨a, b, c, d, e, rfl⟩ := h5 (c1 rfl); exact ⟨_, rfl, rfl⟩
  · obtain ⟨a, rfl⟩ := h1 (c1 rfl); exact ⟨_, rfl, rfl⟩
  · have := l0 (c1 rfl); subst this; exact ⟨_, rfl, rfl⟩
/-- one call at the front -/
theorem calls_cons {f : Nat} {p : Int} {r : List Int} {cs : List (List (List Int))} (h : PyFlat.calls PyKxd7.shape f (p :: r) = some cs) :
    ∃ (num n f' : Nat) (cs' : List (List (List Int))), p = (num : Int) ∧ manyL[num]? = some n ∧ n ≤ r.length ∧ cs = [p :: r.take n] :: cs' ∧ PyFlat.calls PyKxd7.shape f' (r.drop n) = some cs' := by
  cases f with
  | zero => cases h
  | succ f =>
    unfold PyFlat.calls at h
    cases hc : PyFlat.call PyKxd7.shape (p :: r) with
    | none => rw [hc] at h; cases h
    | some ct =>
      obtain ⟨c, t⟩ := ct
      rw [hc] at h
      dsimp only at h
      cases hs : PyFlat.calls PyKxd7.shape f t with
      | none => rw [hs] at h; cases h
      | some cs' =>
        rw [hs] at h
        cases h
        unfold PyFlat.call at hc
        dsimp only at hc
        cases hsh : PyKxd7.shape p with
        | none => rw [hsh] at hc; cases hc
        | some nk =>
          obtain ⟨n, k⟩ := nk
          rw [hsh] at hc
          dsimp only at hc
          obtain ⟨num, e1, rfl, e2⟩ := shape_cases hsh
          split at hc
          · cases hc
          · next hlt =>
            cases hc
            exact ⟨num, n, f, cs', e1, e2, by omega, rfl, hs⟩
/-- what a call's numbers may be -/
theorem each_ok {num n : Nat} (hm : manyL[num]? = some n) {xs : List Int} (hl : xs.length = n) (h : PyInside.call PyKxd7.bound [(num : Int) :: xs] = true) : ∃ ns : List Nat, xs = ns.map (fun (x : Nat) => (x : Int)) ∧ ∀ x ∈ ns, x < 2 ^ 32 := by
  have hlt : num < 21 := (List.getElem?_eq_some_iff.mp hm).1
  have key : ∀ (k : Nat) (xs : List Int), xs.length = k → PyInside.each (List.replicate k (0, 4294967295)) xs = true → ∃ ns : List Nat, xs = ns.map (fun (x : Nat) => (x : Int)) ∧ ∀ x ∈ ns, x < 2 ^ 32 := by
    intro k
    induction k with
    | zero =>
      intro xs hl _
      exact ⟨[], List.length_eq_zero_iff.mp hl, fun x hx => by simp at hx⟩
    | succ k ih =>
      intro xs hl he
      cases xs with
      | nil => simp at hl
      | cons x xs =>
        rw [List.replicate_succ] at he
        unfold PyInside.each at he
        rw [Bool.and_eq_true_iff] at he
        obtain ⟨h1, h2⟩ := he
        unfold PyInside.within at h1
        rw [Bool.and_eq_true_iff, decide_eq_true_eq, decide_eq_true_eq] at h1
        obtain ⟨ns, rfl, hn⟩ := ih xs (by simpa using hl) h2
        refine ⟨x.toNat :: ns, by rw [List.map_cons, Int.toNat_of_nonneg h1.1], fun y hy => ?_⟩
        rcases List.mem_cons.mp hy with rfl | hy
        · omega
        · exact hn y hy
  have hb : ∀ num : Nat, num < 21 → manyL[num]? = some n → PyKxd7.bound (num : Int) = (List.replicate n (0, 4294967295), []) := by
    intro num hlt hm
    rcases (show num = 0 ∨ num = 1 ∨ num = 2 ∨ num = 3 ∨ num = 4 ∨ num = 5 ∨ num = 6 ∨ num = 7 ∨ num = 8 ∨ num = 9 ∨ num = 10 ∨ num = 11 ∨ num = 12 ∨ num = 13 ∨ num = 14 ∨ num = 15 ∨ num = 16 ∨ num = 17 ∨ num = 18 ∨ num = 19 ∨ num = 20 by omega) with
      rfl | rfl | rfl | rfl | rfl | rfl | rfl | rfl | rfl | rfl | rfl | rfl | rfl | rfl | rfl | rfl | rfl | rfl | rfl | rfl | rfl <;> (cases hm; rfl)
  unfold PyInside.call at h
  dsimp only at h
  rw [hb num hlt hm] at h
  rw [Bool.and_eq_true_iff] at h
  exact key n xs hl h.1
end SE
/-! ## what the top has written, told by names; shapes of data over the tracked heap; what is new behind a call -/
namespace SE
open PySem PySem.Spec PyProof.Rows L2
/-! ### what the top has written -/
structure Txt (K : PySem.W.Frag) (mg : Str → Option Value) : Prop where
  d : ∀ (i : Nat) (d : He.DefD), fnD[i]? = some d → ∃ fd, FunD K d.name d.qual d.params d.body d.scope (d.dvs K) (d.kws K) (He.fAd K d.at_) fd
  f : ∀ (i : Nat) (f : He.Fa), faD[i]? = some f → f.ok K = true
  g : ∀ x : Str, (He.Fa.glo x).ok K = true → mg x = some (.ref (He.ga K x))
  n : ∀ x : Str, (He.Fa.free x).ok K = true → mg x = none
  i : ∀ (x : Str) (i : Int), (He.Fa.int x i).ok K = true → ∃ t, mg x = some (.int i t)
  ex : exD K = true
theorem txt_of {w : World} {h : Heap} {K : PySem.W.Frag} {mg : Str → Option Value} (X : K.In h) (c : He.SaysX faD fnD [] [] exD w h K) (G : h.Ns mainGlobals mg) : Txt K mg where
  d := fun i d e => c.t.d.def_ i e
  f := fun i f e => c.t.d.fact i e
  g := fun x e => He.glo_ok X G e
  n := fun x e => He.free_ok X G e
  i := fun x i e => He.int_ok X G e
  ex := c.more
section
variable {P : Program} {w : World} {K : PySem.W.Frag} {mg : Str → Option Value} {base : Heap}
theorem Txt.glo (T : Txt K mg) (i : Nat) {x : Str} (e : faD[i]? = some (.glo x) := by rfl) : mg x = some (.ref (He.ga K x)) := T.g x (T.f i _ e)
theorem Txt.free (T : Txt K mg) (i : Nat) {x : Str} (e : faD[i]? = some (.free x) := by rfl) : mg x = none := T.n x (T.f i _ e)
theorem Txt.int (T : Txt K mg) (i : Nat) {x : Str} {z : Int} (e : faD[i]? = some (.int x z) := by rfl) : ∃ u, mg x = some u ∧ RelV (.int z) u := by
  obtain ⟨t, h⟩ := T.i x z (T.f i _ e)
  exact ⟨_, h, t, rfl⟩
/-- a def that may raise -/
structure CalX (P : Program) (w : World) (K : PySem.W.Frag) (mg : Str → Option Value) (base : Heap) (k : Nat) (x : Str) (sp : Sp) : Prop where
  ex : ∃ (fd : FuncData) (ps : List Str), FnOk P w K mg base (L2.CX P w) k (He.ga K x) fd ps sp ∧ mg x = some (.ref (He.ga K x)) ∧ PySem.W.keepIn K (.ref (He.ga K x)) = true ∧ Binds K fd ps []
/-- the i-th def of the text, by its body -/
theorem Txt.cal (T : Txt K mg) (i j : Nat) {x : Str} {n k : Nat} {N ps : List Str} {sp : Sp} (e : glD[i]? = some (x, n)) (ef : faD[j]? = some (.glo x)) (S : FnScope N ps (defScope (topS n)))
    (hb : ∀ (kV doc pm : Value) (an : Option Addr) (cdv ct : Value) (us : List Value), us.length = ps.length → bindArgs (PySem.W.fnOf x x (defArgs (topS n)) (defBody (topS n)) (defScope (topS n)) .none kV doc pm an cdv ct) ⟨us, []⟩ = pure (ps.zip us))
    (len : ∀ vs H Q E, sp vs H Q E → vs.length = ps.length)
    (hbody : ∀ (cdv : Value) (A : Around) (outer : List Env) (s : Shared) (H : Hp) (vs : List V) (Q : VK) (E : XK), Room k (A.deeper (envOfC x (defScope (topS n)) s.heap.objs.size (He.ga K x) cdv)) → sp vs H Q E →
      ∃ t, PSs (cxOf CX0 P w K mg base N x (defScope (topS n)) (He.ga K x) cdv A outer s H E).nox (defBody (topS n)) t ∧ t { nx := fun _ H' => Q .non H', rt := Q } (start N vs) H) : C8.Cal P w K mg base (k + 1) x sp [] := by
  have e2 : fnD[i]? = some (dG (x, n)) := by
    have hi : i < glD.length := (List.getElem?_eq_some_iff.mp e).1
    show (glD.map dG ++ msD.map dM)[i]? = _
    rw [List.getElem?_append_left (by rw [List.length_map]; exact hi), List.getElem?_map, e]
    rfl
  obtain ⟨fd, F⟩ := T.d i _ e2
  have F' : FunD K x x (defArgs (topS n)) (defBody (topS n)) (defScope (topS n)) [] [] (He.ga K x) fd := F
  exact ⟨_, fd, ps, [], F'.ok S len (fun cdv A outer s H vs Q E hr h => by
    obtain ⟨t, h1, h2⟩ := hbody cdv A outer s H vs Q E hr h
    exact ⟨t, h1.nox, h2⟩), T.glo j ef, F'.kp, F'.bindsN hb, .nil⟩
theorem Txt.calX (T : Txt K mg) (i j : Nat) {x : Str} {n k : Nat} {N ps : List Str} {sp : Sp} (e : glD[i]? = some (x, n)) (ef : faD[j]? = some (.glo x)) (S : FnScope N ps (defScope (topS n)))
    (hb : ∀ (kV doc pm : Value) (an : Option Addr) (cdv ct : Value) (us : List Value), us.length = ps.length → bindArgs (PySem.W.fnOf x x (defArgs (topS n)) (defBody (topS n)) (defScope (topS n)) .none kV doc pm an cdv ct) ⟨us, []⟩ = pure (ps.zip us))
    (len : ∀ vs H Q E, sp vs H Q E → vs.length = ps.length)
    (hbody : ∀ (cdv : Value) (A : Around) (outer : List Env) (s : Shared) (H : Hp) (vs : List V) (Q : VK) (E : XK), Room k (A.deeper (envOfC x (defScope (topS n)) s.heap.objs.size (He.ga K x) cdv)) → sp vs H Q E →
      ∃ t, PSs (cxOf (L2.CX P w) P w K mg base N x (defScope (topS n)) (He.ga K x) cdv A outer s H E) (defBody (topS n)) t ∧ t { nx := fun _ H' => Q .non H', rt := Q } (start N vs) H) : CalX P w K mg base (k + 1) x sp := by
  have e2 : fnD[i]? = some (dG (x, n)) := by
    have hi : i < glD.length := (List.getElem?_eq_some_iff.mp e).1
    show (glD.map dG ++ msD.map dM)[i]? = _
    rw [List.getElem?_append_left (by rw [List.length_map]; exact hi), List.getElem?_map, e]
    rfl
  obtain ⟨fd, F⟩ := T.d i _ e2
  have F' : FunD K x x (defArgs (topS n)) (defBody (topS n)) (defScope (topS n)) [] [] (He.ga K x) fd := F
  exact ⟨fd, ps, F'.ok S len hbody, T.glo j ef, F'.kp, F'.bindsN hb⟩
/-- a method of the text, by its body -/
theorem Txt.fnM (T : Txt K mg) (i : Nat) {C m q : Str} {n l : Nat} {ps : List Str} (e : msD[i]? = some (C, m, q, n, l))
    (hb : ∀ (kV doc pm : Value) (an : Option Addr) (cdv ct : Value) (us : List Value), us.length = ps.length → bindArgs (PySem.W.fnOf m q (defArgs (inClass (topS n) l)) (defBody (inClass (topS n) l)) (defScope (inClass (topS n) l)) .none kV doc pm an cdv ct) ⟨us, []⟩ = pure (ps.zip us)) :
    ∃ fd, FunD K m q (defArgs (inClass (topS n) l)) (defBody (inClass (topS n) l)) (defScope (inClass (topS n) l)) [] [] (He.ma K (He.ga K C) m) fd ∧ Binds K fd ps [] := by
  have e2 : fnD[glD.length + i]? = some (dM (C, m, q, n, l)) := by
    show (glD.map dG ++ msD.map dM)[glD.length + i]? = _
    rw [List.getElem?_append_right (by rw [List.length_map]; omega), List.length_map, Nat.add_sub_cancel_left, List.getElem?_map, e]
    rfl
  obtain ⟨fd, F⟩ := T.d _ _ e2
  have F' : FunD K m q (defArgs (inClass (topS n) l)) (defBody (inClass (topS n) l)) (defScope (inClass (topS n) l)) [] [] (He.ma K (He.ga K C) m) fd := F
  exact ⟨fd, F', F'.bindsN hb⟩
end
/-! ### shapes of data over the tracked heap -/
/-- a shape: which values stand for it; more objects do no harm -/
structure RP where
  p : Hp → V → Prop
  mono : ∀ {H H' : Hp} {v : V}, Same H H' → p H v → p H' v
def All2 : List RP → Hp → List V → Prop
  | [], _, [] => True
  | r :: rs, H, v :: vs => r.p H v ∧ All2 rs H vs
  | _, _, _ => False
theorem All2.mono {H H' : Hp} (e : Same H H') : ∀ {rs : List RP} {vs : List V}, All2 rs H vs → All2 rs H' vs
  | [], [], _ => trivial
  | r :: rs, v :: vs, h => ⟨r.mono e h.1, All2.mono e h.2⟩
  | [], _ :: _, h => h.elim
  | _ :: _, [], h => h.elim
theorem All2.len {H : Hp} : ∀ {rs : List RP} {vs : List V}, All2 rs H vs → vs.length = rs.length
  | [], [], _ => rfl
  | r :: rs, v :: vs, h => congrArg (· + 1) (All2.len h.2)
  | [], _ :: _, h => h.elim
  | _ :: _, [], h => h.elim
theorem All2.get {H : Hp} : ∀ {rs : List RP} {vs : List V} {i : Nat} {r : RP}, All2 rs H vs → rs[i]? = some r → ∃ v, vs[i]? = some v ∧ r.p H v
  | [], [], _, _, _, e => by simp at e
  | r :: rs, v :: vs, 0, _, h, e => by
    have e' : r = _ := Option.some.inj (by simpa using e)
    subst e'
    exact ⟨v, rfl, h.1⟩
  | r :: rs, v :: vs, i + 1, _, h, e => by
    obtain ⟨u, h1, h2⟩ := All2.get (i := i) h.2 (by simpa using e)
    exact ⟨u, by simpa using h1, h2⟩
  | [], _ :: _, _, _, h, _ => h.elim
  | _ :: _, [], _, _, h, _ => h.elim
theorem All2.item {H : Hp} {rs : List RP} {vs : List V} {i : Nat} {v : V} (h : All2 rs H vs) (e : vs[i]? = some v) : ∃ r, rs[i]? = some r ∧ r.p H v := by
  have hl := h.len
  have hi := (List.getElem?_eq_some_iff.mp e).1
  obtain ⟨u, h1, h2⟩ := h.get (i := i) (r := rs[i]'(by omega)) (List.getElem?_eq_getElem (by omega))
  rw [e] at h1
  cases h1
  exact ⟨_, List.getElem?_eq_getElem (by omega), h2⟩
theorem All2.snoc {H : Hp} {r : RP} {v : V} (q : r.p H v) : ∀ {rs : List RP} {vs : List V}, All2 rs H vs → All2 (rs ++ [r]) H (vs ++ [v])
  | [], [], _ => ⟨q, trivial⟩
  | _ :: _, _ :: _, h => ⟨h.1, All2.snoc q h.2⟩
  | [], _ :: _, h => h.elim
  | _ :: _, [], h => h.elim
theorem All2.append {H : Hp} {rs' : List RP} {vs' : List V} (q : All2 rs' H vs') : ∀ {rs : List RP} {vs : List V}, All2 rs H vs → All2 (rs ++ rs') H (vs ++ vs')
  | [], [], _ => q
  | _ :: _, _ :: _, h => ⟨h.1, All2.append q h.2⟩
  | [], _ :: _, h => h.elim
  | _ :: _, [], h => h.elim
/-- an int, a bool, a tuple, a list -/
def pI (n : Int) : RP := ⟨fun _ v => v = .int n, fun _ h => h⟩
def pB (b : Bool) : RP := ⟨fun _ v => v = .bl b, fun _ h => h⟩
def pT (rs : List RP) : RP := ⟨fun H v => ∃ a vs, v = .ref a ∧ H a = some (.tup vs) ∧ All2 rs H vs, fun e h => by
  obtain ⟨a, vs, h1, h2, h3⟩ := h
  exact ⟨a, vs, h1, e _ _ h2, h3.mono e⟩⟩
def pL (rs : List RP) : RP := ⟨fun H v => ∃ a vs, v = .ref a ∧ H a = some (.lst vs) ∧ All2 rs H vs, fun e h => by
  obtain ⟨a, vs, h1, h2, h3⟩ := h
  exact ⟨a, vs, h1, e _ _ h2, h3.mono e⟩⟩
theorem all_ints {H : Hp} : ∀ ns : List Int, All2 (ns.map pI) H (ns.map V.int)
  | [] => trivial
  | _ :: r => ⟨rfl, all_ints r⟩
theorem ints_all {H : Hp} : ∀ {ns : List Int} {vs : List V}, All2 (ns.map pI) H vs → vs = ns.map V.int
  | [], [], _ => rfl
  | n :: r, v :: vs, h => by
    have e1 : v = V.int n := h.1
    rw [e1, ints_all (ns := r) (vs := vs) h.2]
    rfl
  | [], _ :: _, h => h.elim
  | _ :: _, [], h => h.elim
/-! ### what is new -/
/-- what H' has beyond H -/
def nw (H H' : Hp) : Hp := fun b => match H b with
  | none => H' b
  | some _ => none
theorem nw_of {H H' : Hp} {b : Addr} (h : H b = none) : nw H H' b = H' b := by unfold nw; rw [h]
theorem nw_none {H H' : Hp} {b : Addr} {o : HO} (h : H b = some o) : nw H H' b = none := by unfold nw; rw [h]
theorem of_nw {H H' : Hp} {b : Addr} {o : HO} (h : nw H H' b = some o) : H b = none ∧ H' b = some o := by
  unfold nw at h
  cases e : H b with
  | none => rw [e] at h; exact ⟨rfl, h⟩
  | some u => rw [e] at h; cases h
theorem nw_same {H H' : Hp} : Same (nw H H') H' := fun _ _ e => (of_nw e).2
/-- the domain grows -/
def Dm (H H' : Hp) : Prop := ∀ b, H' b = none → H b = none
theorem Dm.refl (H : Hp) : Dm H H := fun _ h => h
theorem Dm.trans {A B C : Hp} (h : Dm A B) (k : Dm B C) : Dm A C := fun b e => h b (k b e)
theorem _root_.L2.Same.dm {H H' : Hp} (e : Same H H') : Dm H H' := fun _ h => e.free h
theorem dm_upd {H : Hp} {a : Addr} {o : HO} : Dm H (upd H a o) := fun b e => by
  by_cases h : b = a
  · subst h; rw [upd_same] at e; cases e
  · rw [upd_ne h] at e; exact e
theorem Dm.upd {A B : Hp} (h : Dm A B) {a : Addr} {o : HO} : Dm A (L2.upd B a o) := h.trans dm_upd
/-- over a smaller ground more is new -/
theorem nw_ground {A B C : Hp} (h : Dm A B) : Same (nw B C) (nw A C) := fun b o e => by
  obtain ⟨h1, h2⟩ := of_nw e
  rw [nw_of (h b h1)]
  exact h2
theorem nw_more {A C D : Hp} (h : Same C D) : Same (nw A C) (nw A D) := fun b o e => by
  obtain ⟨h1, h2⟩ := of_nw e
  rw [nw_of h1]
  exact h _ _ h2
theorem nw_both {A B C D : Hp} (h : Dm A B) (k : Same C D) : Same (nw B C) (nw A D) := fun b o e => nw_ground h _ _ (nw_more k _ _ e)
theorem same_new {H : Hp} {p : Addr} {o : HO} (h : H p = none) : Same H (L2.upd H p o) := fun b u e => by
  rw [upd_ne (ne_of_none e h)]; exact e
/-- an object that the ground does not know may change -/
theorem _root_.L2.Same.mut {H H' : Hp} {p : Addr} {o : HO} (e : Same H H') (h : H p = none) : Same H (L2.upd H' p o) := fun b u q => by
  rw [upd_ne (ne_of_none q h)]; exact e b u q
/-- where the ground knows p, p's content is not new -/
theorem nw_mut {G C : Hp} {p : Addr} {o : HO} (h : G p ≠ none) : Same (nw G C) (nw G (L2.upd C p o)) := fun b u e => by
  obtain ⟨h1, h2⟩ := of_nw e
  rw [nw_of h1, upd_ne (fun z : b = p => h (by rw [← z]; exact h1))]
  exact h2
/-! ### promises of defs that change nothing: a value | a new thing of a shape -/
def RetV (v : V) (H : Hp) (Q : VK) : Prop := ∀ H', Same H H' → Q v H'
def Ret (r : RP) (H : Hp) (Q : VK) : Prop := ∀ v H', Same H H' → r.p (nw H H') v → Q v H'
theorem Ret.pI {n : Int} {H : Hp} {Q : VK} (h : RetV (.int n) H Q) : Ret (pI n) H Q := fun _ H' e q => by
  have e2 : _ = V.int n := q
  rw [e2]
  exact h H' e
/-- a slice's length -/
theorem size_lt {n : Nat} (h : n < 1000000) : n < sizeLine := Nat.lt_trans h (by decide)
theorem size_le {n : Nat} (h : n ≤ 1000000) : n ≤ sizeLine := Nat.le_trans h (by decide)
end SE
namespace SE
open PySem PySem.Spec PyProof.Rows L2
theorem if_true_of {c : Bool} {A B : Prop} (hc : c = true) (h : A) : if c = true then A else B := by
  rw [if_pos hc]
  exact h
theorem if_false_of {c : Bool} {A B : Prop} (hc : c = false) (h : B) : if c = true then A else B := by
  rw [hc, if_neg Bool.false_ne_true]
  exact h
/-! ### numbers: how great they get -/
/-- below 2 ^ b -/
def Lt2 (b : Nat) (x : Int) : Prop := x.natAbs < 2 ^ b
/-- a fraction as a tuple -/
def pF (x : Kxd7.Fraction) : RP := pT [pI x.numerator, pI (x.denominator : Int)]
def sp_power : Sp := fun vs H Q _ => ∃ (b : Int) (m : Nat), vs = [.int b, .int (m : Int)] ∧ Lt2 20 b ∧ m ≤ 40 ∧ Q (.int (b ^ m)) H
theorem Lt2.mono {a b : Nat} {x : Int} (h : Lt2 a x) (k : a ≤ b) : Lt2 b x := Nat.lt_of_lt_of_le h (Nat.pow_le_pow_right (by decide) k)
theorem Lt2.mul {a b : Nat} {x y : Int} (h : Lt2 a x) (k : Lt2 b y) : Lt2 (a + b) (x * y) := wide_lt h k
theorem Lt2.add {a : Nat} {x y : Int} (h : Lt2 a x) (k : Lt2 a y) : Lt2 (a + 1) (x + y) := by
  unfold Lt2 at *
  rw [Nat.pow_succ]
  omega
theorem Lt2.sub {a : Nat} {x y : Int} (h : Lt2 a x) (k : Lt2 a y) : Lt2 (a + 1) (x - y) := by
  unfold Lt2 at *
  rw [Nat.pow_succ]
  omega
theorem Lt2.pow {a : Nat} {x : Int} (h : Lt2 a x) : ∀ n : Nat, Lt2 (a * n + 1) (x ^ n)
  | 0 => by simp [Lt2]
  | n + 1 => by
    rw [Int.pow_succ, show a * (n + 1) + 1 = (a * n + 1) + a by rw [Nat.mul_succ]; omega]
    exact (h.pow n).mul h
theorem Lt2.mulW {a b : Nat} {x y : Int} (h : Lt2 a x) (k : Lt2 b y) (l : a + b ≤ 900000) : CMulW x y :=
  wide_mul (Lt2.mono h (Nat.le_succ a)) (Lt2.mono k (Nat.le_succ b)) (Nat.succ_pos _) (Nat.succ_pos _) (by omega)
theorem Lt2.le {a : Nat} {x y : Int} (h : Lt2 a y) (h0 : 0 ≤ x) (k : x ≤ y) : Lt2 a x := wide_le h0 k h
theorem sc_power : FnScope ["base", "many", "found", "turn"] ["base", "many"] (defScope (topS 26)) := C8.fnScope_by (by decide +kernel)
theorem c_power {P : Program} {w : World} {K : PySem.W.Frag} {mg : Str → Option Value} {base : Heap} (T : Txt K mg) : C8.Cal P w K mg base 1 "power" sp_power [] := by
  refine T.cal 21 21 rfl rfl sc_power (fun _ _ _ _ _ _ us hl => match us, hl with | [_, _], _ => rfl) (fun vs H Q E h => ?_) (fun cdv A outer s H vs Q E hr h => ⟨_, pss_cons (ps_set (i := 2) sc_power.nd rfl (Or.inl rfl) pe_int)
      (pss_cons (ps_for PassesOwn.never rfl (pi_range1 (by rfl) (T.free 84) (pa_cons (pv 1) pa_nil)) (pg_name (i := 3) sc_power.nd rfl (Or.inl rfl)) (pss_one (ps_set (i := 2) sc_power.nd rfl (Or.inl rfl) (pe_op op_mulW (pv 2) (pv 0)))))
      (pss_one (ps_ret (pv 2)))), ?_⟩)
  · obtain ⟨b, m, rfl, _⟩ := h
    rfl
  · obtain ⟨b, m, rfl, hb, hm, k⟩ := h
    refine ⟨_, rfl, _, rfl, by omega, by omega, for_range (lo := 0) (n := ((m : Int)).toNat) (fun i σ H' => H' = H ∧ ∃ v : Option V, σ = [some (.int b), some (.int m), some (.int (b ^ i)), v]) ⟨rfl, none, by rw [Int.pow_zero]; rfl⟩ ?_ ?_⟩
    · rintro i σ H' hi ⟨rfl, v, rfl⟩
      refine ⟨_, rfl, _, rfl, _, _, rfl, rfl, (Lt2.pow hb i).mulW hb ?_, rfl, some (.int (0 + (i : Int))), ?_⟩
      · have : 20 * i ≤ 20 * 40 := Nat.mul_le_mul_left _ (by omega)
        omega
      · rw [Int.pow_succ]
        rfl
    · rintro σ H' ⟨rfl, v, rfl⟩
      refine ⟨_, rfl, ?_⟩
      rw [Int.toNat_natCast]
      exact k
/-- a new tuple, a new list handed back -/
theorem new_tup {H H1 : Hp} {p : Addr} {rs : List RP} {vs : List V} (e : Same H H1) (hp : H1 p = none) (h : All2 rs (nw H H1) vs) : (pT rs).p (nw H (upd H1 p (.tup vs))) (.ref p) :=
  ⟨p, vs, rfl, by rw [nw_of (e.free hp), upd_same], h.mono (nw_more (same_new hp))⟩
theorem new_lst {H H1 : Hp} {p : Addr} {rs : List RP} {vs : List V} (e : Same H H1) (hp : H1 p = none) (h : All2 rs (nw H H1) vs) : (pL rs).p (nw H (upd H1 p (.lst vs))) (.ref p) :=
  ⟨p, vs, rfl, by rw [nw_of (e.free hp), upd_same], h.mono (nw_more (same_new hp))⟩
def sp_chance : Sp := fun vs H Q _ => ∃ (p d : Int) (n s : Nat), vs = [.int p, .int d, .int (n : Int), .int (s : Int)] ∧ 0 ≤ p ∧ p ≤ d ∧ d ≤ 1000 ∧ s ≤ n ∧ n ≤ 20 ∧ Q (.int (p ^ s * (d - p) ^ (n - s))) H
theorem small_lt {x : Int} (h0 : 0 ≤ x) (h : x ≤ 1000) : Lt2 20 x := by unfold Lt2; omega
theorem sc_chance : FnScope ["p", "divisor", "n", "s"] ["p", "divisor", "n", "s"] (defScope (topS 27)) := C8.fnScope_by (by decide +kernel)
theorem c_chance {P : Program} {w : World} {K : PySem.W.Frag} {mg : Str → Option Value} {base : Heap} (T : Txt K mg) : C8.Cal P w K mg base 2 "chance" sp_chance [] := by
  refine T.cal 22 22 rfl rfl sc_chance (fun _ _ _ _ _ _ us hl => match us, hl with | [_, _, _, _], _ => rfl) (fun vs H Q E h => ?_) (fun cdv A outer s H vs Q E hr h => ⟨_, pss_one (ps_ret (pe_op op_mulW (C8.pe_c (c_power T) hr (by decide) rfl (pa_cons (pv 0) (pa_cons (pv 3) pa_nil))) (C8.pe_c (c_power T) hr (by decide) rfl (pa_cons (pe_op op_sub (pv 1) (pv 0)) (pa_cons (pe_op op_sub (pv 2) (pv 3)) pa_nil))))), ?_⟩)
  · obtain ⟨p, d, n, s, rfl, _⟩ := h
    rfl
  · obtain ⟨p, d, n, s, rfl, h0, h1, h2, h3, h4, k⟩ := h
    have b1 : Lt2 20 p := small_lt h0 (by omega)
    have b2 : Lt2 20 (d - p) := small_lt (by omega) (by omega)
    refine ⟨_, rfl, _, rfl, p, s, rfl, b1, by omega, ?_⟩
    refine ⟨_, rfl, _, rfl, _, _, rfl, rfl, _, rfl, _, rfl, _, _, rfl, rfl, d - p, n - s, ?_, b2, by omega, ?_⟩
    · rw [Int.ofNat_sub h3]
      rfl
    · refine ⟨_, _, rfl, rfl, (Lt2.pow b1 s).mulW (Lt2.pow b2 (n - s)) ?_, k⟩
      have e1 : 20 * s ≤ 20 * 20 := Nat.mul_le_mul_left _ (by omega)
      have e2 : 20 * (n - s) ≤ 20 * 20 := Nat.mul_le_mul_left _ (by omega)
      omega
def sp_ratio : Sp := fun vs H Q _ => ∃ n d : Int, vs = [.int n, .int d] ∧ 0 ≤ n ∧ 0 < d ∧ Lt2 8000 d ∧ Ret (pF (Kxd7.fraction n d)) H Q
theorem sc_ratio : FnScope ["num", "den", "one", "other"] ["num", "den"] (defScope (topS 22)) := C8.fnScope_by (by decide +kernel)
theorem c_ratio {P : Program} {w : World} {K : PySem.W.Frag} {mg : Str → Option Value} {base : Heap} (T : Txt K mg) : C8.Cal P w K mg base 1 "ratio" sp_ratio [] := by
  refine T.cal 17 17 rfl rfl sc_ratio (fun _ _ _ _ _ _ us hl => match us, hl with | [_, _], _ => rfl) (fun vs H Q E h => ?_) (fun cdv A outer s H vs Q E hr h => ⟨_, pss_cons (ps_par (i := 2) (j := 3) rfl sc_ratio.nd rfl rfl (by decide) rfl rfl (pa_cons (pv 0) (pa_cons (pv 1) pa_nil)) (by rfl))
      (pss_cons (ps_while PassesOwn.never (pt_cmp (pc_gt (pv 3) pe_int)) (pss_one (ps_par (i := 2) (j := 3) rfl sc_ratio.nd rfl rfl (by decide) rfl rfl (pa_cons (pv 3) (pa_cons (pe_op op_mod (pv 2) (pv 3)) pa_nil)) (by rfl))))
      (pss_one (ps_ret (pe_tup (pa_cons (pe_op op_fdivW (pv 0) (pv 2)) (pa_cons (pe_op op_fdivW (pv 1) (pv 2)) pa_nil)))))), ?_⟩)
  · obtain ⟨n, d, rfl, _⟩ := h
    rfl
  · obtain ⟨n, d, rfl, h0, h1, hb, k⟩ := h
    obtain ⟨n, rfl⟩ := Int.eq_ofNat_of_zero_le h0
    obtain ⟨d, rfl⟩ := Int.eq_ofNat_of_zero_le (Int.le_of_lt h1)
    have hg : 0 < Nat.gcd n d := Nat.gcd_pos_of_pos_right _ (by omega)
    refine ⟨_, rfl, _, rfl, _, _, rfl, ?_⟩
    refine ⟨fun m σ H' => H' = H ∧ ∃ x y : Nat, σ = [some (.int n), some (.int d), some (.int x), some (.int y)] ∧ y = m ∧ Nat.gcd x y = Nat.gcd n d, ⟨d, rfl, n, d, rfl, rfl, rfl⟩, ?_⟩
    rintro m σ H' ⟨rfl, x, y, rfl, rfl, e⟩
    refine ⟨_, rfl, _, _, rfl, rfl, _, rfl, ?_⟩
    by_cases hy : 0 < y
    · refine if_true_of (decide_eq_true (by omega)) ?_
      refine ⟨_, fun _ _ q => q, _, rfl, _, rfl, _, rfl, _, _, rfl, rfl, (by show (0 : Int) < y; omega), _, _, rfl, x % y, Nat.mod_lt _ hy, rfl, y, x % y, rfl, rfl, ?_⟩
      rw [← e, Nat.gcd_comm x y, Nat.gcd_rec y x, Nat.gcd_comm]
    · have hy0 : y = 0 := by omega
      subst hy0
      refine if_false_of (decide_eq_false (by decide)) ?_
      rw [Nat.gcd_zero_right] at e
      subst e
      have hd : CDivW (n : Int) ((Nat.gcd n d : Nat) : Int) := by
        refine wide_div (b := 8001) (by omega) ?_ (by decide) (by decide)
        have l : Nat.gcd n d ≤ d := Nat.gcd_le_right _ (by omega)
        unfold Lt2 at hb
        rw [Int.natAbs_natCast] at *
        exact Nat.lt_of_le_of_lt l (Nat.lt_of_lt_of_le hb (Nat.pow_le_pow_right (by decide) (by decide)))
      refine ⟨_, rfl, _, rfl, _, _, rfl, rfl, hd, _, rfl, _, rfl, _, _, rfl, rfl, hd, (by show 2 ≤ sizeLine; decide), fun p hp => ?_⟩
      refine k _ _ (same_new hp) (new_tup (Same.refl _) hp ?_)
      have ef : Kxd7.fraction (n : Int) (d : Int) = ⟨(n : Int) / ((Nat.gcd n d : Nat) : Int), ((d : Int) / ((Nat.gcd n d : Nat) : Int)).toNat⟩ := SE.fraction_pos (by omega)
      rw [ef]
      refine ⟨rfl, ?_, trivial⟩
      show V.int _ = V.int _
      rw [Int.toNat_of_nonneg (Int.ediv_nonneg (by omega) (by omega))]
theorem _root_.L2.Same.sqT {K : PySem.W.Frag} {H H' : Hp} {a : Addr} {xs : List V} (e : Same H H') (h : SqT K H a xs) : SqT K H' a xs := by
  rcases h with (h | ⟨o, h⟩) | h
  · exact .inl (.inl (e _ _ h))
  · exact .inl (.inr ⟨o, e _ _ h⟩)
  · exact .inr h
/-- a fraction as a tuple, new or of the text -/
def pFK (K : PySem.W.Frag) (x : Kxd7.Fraction) : RP := ⟨fun H v => ∃ a, v = .ref a ∧ SqT K H a [.int x.numerator, .int (x.denominator : Int)], fun e h => by
  obtain ⟨a, h1, h2⟩ := h
  exact ⟨a, h1, e.sqT h2⟩⟩
theorem pF_at {x : Kxd7.Fraction} {H : Hp} {v : V} (h : (pF x).p H v) : ∃ a, v = .ref a ∧ H a = some (.tup [.int x.numerator, .int (x.denominator : Int)]) := by
  obtain ⟨a, vs, rfl, h2, h3⟩ := h
  match vs, h3 with
  | [u, w], h3 =>
    have e1 : u = V.int _ := h3.1
    have e2 : w = V.int _ := h3.2.1
    subst e1 e2
    exact ⟨a, rfl, h2⟩
theorem pF_K {K : PySem.W.Frag} {x : Kxd7.Fraction} {H : Hp} {v : V} (h : (pF x).p H v) : (pFK K x).p H v := by
  obtain ⟨a, h1, h2⟩ := pF_at h
  exact ⟨a, h1, SqT.of h2⟩
theorem pF_mk {x : Kxd7.Fraction} {H : Hp} {a : Addr} (h : H a = some (.tup [.int x.numerator, .int (x.denominator : Int)])) : (pF x).p H (.ref a) := ⟨a, _, rfl, h, rfl, rfl, trivial⟩
/-- from 0 on, not too great -/
structure NF (b : Nat) (x : Kxd7.Fraction) : Prop where
  n : 0 ≤ x.numerator
  d : 0 < x.denominator
  ln : Lt2 b x.numerator
  ld : Lt2 b (x.denominator : Int)
theorem NF.mono {a b : Nat} {x : Kxd7.Fraction} (h : NF a x) (k : a ≤ b) : NF b x := ⟨h.n, h.d, h.ln.mono k, h.ld.mono k⟩
theorem nf_frac {b : Nat} {n d : Int} (h0 : 0 ≤ n) (h1 : 0 < d) (hn : Lt2 b n) (hd : Lt2 b d) : NF b (Kxd7.fraction n d) := by
  have e : Kxd7.fraction n d = _ := SE.fraction_pos h1
  have hg : (0 : Int) ≤ (Int.gcd n d : Int) := by omega
  have hp : 0 < d / (Int.gcd n d : Int) := SE.div_gcd_pos h1
  rw [e]
  refine ⟨Int.ediv_nonneg h0 hg, by show 0 < (d / (Int.gcd n d : Int)).toNat; omega, hn.le (Int.ediv_nonneg h0 hg) (Int.ediv_le_self _ h0), ?_⟩
  show Lt2 b ((d / (Int.gcd n d : Int)).toNat : Int)
  rw [Int.toNat_of_nonneg (by omega)]
  exact hd.le (by omega) (Int.ediv_le_self _ (by omega))
section
variable {a b c : Nat} {x y : Kxd7.Fraction}
theorem NF.plus (h : NF b x) (k : NF b y) : NF (2 * b + 1) (Kxd7.plus x y) := by
  have hx : (0 : Int) < x.denominator := by have := h.d; omega
  have hy : (0 : Int) < y.denominator := by have := k.d; omega
  refine nf_frac (Int.add_nonneg (Int.mul_nonneg h.n (by omega)) (Int.mul_nonneg k.n (by omega))) (Int.mul_pos hx hy) ?_ ?_
  · rw [show 2 * b + 1 = (b + b) + 1 by omega]
    exact (h.ln.mul k.ld).add (k.ln.mul h.ld)
  · exact (h.ld.mul k.ld).mono (by omega)
theorem NF.times (h : NF a x) (k : NF b y) : NF (a + b) (Kxd7.times x y) := by
  have hx : (0 : Int) < x.denominator := by have := h.d; omega
  have hy : (0 : Int) < y.denominator := by have := k.d; omega
  exact nf_frac (Int.mul_nonneg h.n k.n) (Int.mul_pos hx hy) (h.ln.mul k.ln) (h.ld.mul k.ld)
end
def sp_plus (K : PySem.W.Frag) : Sp := fun vs H Q _ => ∃ (v u : V) (x y : Kxd7.Fraction), vs = [v, u] ∧ (pFK K x).p H v ∧ (pFK K y).p H u ∧ NF 4000 x ∧ NF 4000 y ∧ Ret (pF (Kxd7.plus x y)) H Q
def sp_times (K : PySem.W.Frag) : Sp := fun vs H Q _ => ∃ (v u : V) (x y : Kxd7.Fraction), vs = [v, u] ∧ (pFK K x).p H v ∧ (pFK K y).p H u ∧ NF 4000 x ∧ NF 4000 y ∧ Ret (pF (Kxd7.times x y)) H Q
def sp_is_below (K : PySem.W.Frag) : Sp := fun vs H Q _ => ∃ (v u : V) (x y : Kxd7.Fraction), vs = [v, u] ∧ (pFK K x).p H v ∧ (pFK K y).p H u ∧ NF 4000 x ∧ NF 4000 y ∧ Q (.bl (Kxd7.isLess x y)) H
theorem sc_plus : FnScope ["left", "right"] ["left", "right"] (defScope (topS 23)) := C8.fnScope_by (by decide +kernel)
theorem c_plus {P : Program} {w : World} {K : PySem.W.Frag} {mg : Str → Option Value} {base : Heap} (T : Txt K mg) : C8.Cal P w K mg base 2 "plus" (sp_plus K) [] := by
  refine T.cal 18 18 rfl rfl sc_plus (fun _ _ _ _ _ _ us hl => match us, hl with | [_, _], _ => rfl) (fun vs H Q E h => ?_) (fun cdv A outer s H vs Q E hr h => ⟨_, pss_one (ps_ret (C8.pe_c (c_ratio T) hr (by decide) rfl (pa_cons (pe_op op_add (pe_op op_mulW (pe_ix ix_tup (pv 0) pe_int (fun _ _ => rfl)) (pe_ix ix_tup (pv 1) pe_int (fun _ _ => rfl))) (pe_op op_mulW (pe_ix ix_tup (pv 1) pe_int (fun _ _ => rfl)) (pe_ix ix_tup (pv 0) pe_int (fun _ _ => rfl)))) (pa_cons (pe_op op_mulW (pe_ix ix_tup (pv 0) pe_int (fun _ _ => rfl)) (pe_ix ix_tup (pv 1) pe_int (fun _ _ => rfl))) pa_nil)))), ?_⟩)
  · obtain ⟨v, u, x, y, rfl, _⟩ := h
    rfl
  · obtain ⟨v, u, x, y, rfl, ⟨a, rfl, hv⟩, ⟨b, rfl, hu⟩, nx, ny, k⟩ := h
    have hx : (0 : Int) < x.denominator := by have := nx.d; omega
    have hy : (0 : Int) < y.denominator := by have := ny.d; omega
    refine ⟨_, rfl, a, _, 0, _, rfl, rfl, hv, rfl, _, rfl, b, _, 1, _, rfl, rfl, hu, rfl, _, _, rfl, rfl, nx.ln.mulW ny.ld (by decide), ?_⟩
    refine ⟨_, rfl, b, _, 0, _, rfl, rfl, hu, rfl, _, rfl, a, _, 1, _, rfl, rfl, hv, rfl, _, _, rfl, rfl, ny.ln.mulW nx.ld (by decide), _, _, rfl, rfl, ?_⟩
    refine ⟨_, rfl, a, _, 1, _, rfl, rfl, hv, rfl, _, rfl, b, _, 1, _, rfl, rfl, hu, rfl, _, _, rfl, rfl, nx.ld.mulW ny.ld (by decide), ?_⟩
    exact ⟨_, _, rfl, Int.add_nonneg (Int.mul_nonneg nx.n (by omega)) (Int.mul_nonneg ny.n (by omega)), Int.mul_pos hx hy, nx.ld.mul ny.ld, k⟩
theorem sc_times : FnScope ["left", "right"] ["left", "right"] (defScope (topS 24)) := C8.fnScope_by (by decide +kernel)
theorem c_times {P : Program} {w : World} {K : PySem.W.Frag} {mg : Str → Option Value} {base : Heap} (T : Txt K mg) : C8.Cal P w K mg base 2 "times" (sp_times K) [] := by
  refine T.cal 19 19 rfl rfl sc_times (fun _ _ _ _ _ _ us hl => match us, hl with | [_, _], _ => rfl) (fun vs H Q E h => ?_) (fun cdv A outer s H vs Q E hr h => ⟨_, pss_one (ps_ret (C8.pe_c (c_ratio T) hr (by decide) rfl (pa_cons (pe_op op_mulW (pe_ix ix_tup (pv 0) pe_int (fun _ _ => rfl)) (pe_ix ix_tup (pv 1) pe_int (fun _ _ => rfl))) (pa_cons (pe_op op_mulW (pe_ix ix_tup (pv 0) pe_int (fun _ _ => rfl)) (pe_ix ix_tup (pv 1) pe_int (fun _ _ => rfl))) pa_nil)))), ?_⟩)
  · obtain ⟨v, u, x, y, rfl, _⟩ := h
    rfl
  · obtain ⟨v, u, x, y, rfl, ⟨a, rfl, hv⟩, ⟨b, rfl, hu⟩, nx, ny, k⟩ := h
    have hx : (0 : Int) < x.denominator := by have := nx.d; omega
    have hy : (0 : Int) < y.denominator := by have := ny.d; omega
    refine ⟨_, rfl, a, _, 0, _, rfl, rfl, hv, rfl, _, rfl, b, _, 0, _, rfl, rfl, hu, rfl, _, _, rfl, rfl, nx.ln.mulW ny.ln (by decide), ?_⟩
    refine ⟨_, rfl, a, _, 1, _, rfl, rfl, hv, rfl, _, rfl, b, _, 1, _, rfl, rfl, hu, rfl, _, _, rfl, rfl, nx.ld.mulW ny.ld (by decide), ?_⟩
    exact ⟨_, _, rfl, Int.mul_nonneg nx.n ny.n, Int.mul_pos hx hy, nx.ld.mul ny.ld, k⟩
theorem sc_is_below : FnScope ["left", "right"] ["left", "right"] (defScope (topS 25)) := C8.fnScope_by (by decide +kernel)
theorem c_is_below {P : Program} {w : World} {K : PySem.W.Frag} {mg : Str → Option Value} {base : Heap} (T : Txt K mg) : C8.Cal P w K mg base 1 "is_below" (sp_is_below K) [] := by
  refine T.cal 20 20 rfl rfl sc_is_below (fun _ _ _ _ _ _ us hl => match us, hl with | [_, _], _ => rfl) (fun vs H Q E h => ?_) (fun cdv A outer s H vs Q E hr h => ⟨_, pss_one (ps_ret (pe_cmp (pc_lt (pe_op op_mulW (pe_ix ix_tup (pv 0) pe_int (fun _ _ => rfl)) (pe_ix ix_tup (pv 1) pe_int (fun _ _ => rfl))) (pe_op op_mulW (pe_ix ix_tup (pv 1) pe_int (fun _ _ => rfl)) (pe_ix ix_tup (pv 0) pe_int (fun _ _ => rfl)))))), ?_⟩)
  · obtain ⟨v, u, x, y, rfl, _⟩ := h
    rfl
  · obtain ⟨v, u, x, y, rfl, ⟨a, rfl, hv⟩, ⟨b, rfl, hu⟩, nx, ny, k⟩ := h
    refine ⟨_, rfl, a, _, 0, _, rfl, rfl, hv, rfl, _, rfl, b, _, 1, _, rfl, rfl, hu, rfl, _, _, rfl, rfl, nx.ln.mulW ny.ld (by decide), ?_⟩
    refine ⟨_, rfl, b, _, 0, _, rfl, rfl, hu, rfl, _, rfl, a, _, 1, _, rfl, rfl, hv, rfl, _, _, rfl, rfl, ny.ln.mulW nx.ld (by decide), _, _, rfl, rfl, k⟩
end SE
/-! ## a comprehension that makes new things; lists by place -/
namespace SE
open PySem PySem.Spec PyProof.Rows L2
theorem map_range_succ {α : Type} (f : Nat → α) (i : Nat) : (List.range (i + 1)).map f = (List.range i).map f ++ [f i] := by
  rw [List.range_succ, List.map_append]
  rfl
/-- a comprehension without a test, its element new at each turn -/
theorem lc_new {J : It} {n : Nat} {G : Hp → Prop} {Y : Nat → Hp → V → Hp → Prop} (w : Walk J n G Y) (rs : Nat → RP) (σ0 : L2.St) {g : TG} {te : TE} {own : List Nat} {σ : L2.St} {H1 : Hp} {Qd : Addr → Hp → Prop} (hn : n ≤ 1000000) (h0 : wipe σ own = σ0)
    (hG : ∀ H', Same H1 H' → G H')
    (hs : ∀ i x Hb H' (Q' : VK), i < n → Same H1 Hb → Y i Hb x H' → (∀ y H4, Same Hb H4 → (rs i).p (nw Hb H4) y → Q' y H4) → g x σ0 H' fun σ2 H2 => wipe σ2 own = σ0 ∧ te σ2 H2 Q')
    (hq : ∀ D H', Same H1 H' → (pL ((List.range n).map rs)).p (nw H1 H') (.ref D) → Qd D H') :
    ∀ D, H1 D = none → ∃ W : Nat → Nat → Hp → Prop, (∃ m, W 0 m (upd H1 D (.lst []))) ∧ ∀ i m H, W i m H →
      (J.stop i H ∧ Qd D H) ∨ (J.go i H ∧ ∃ Nx : Hp → Prop, (∀ H', Nx H' → ∃ m', m' < m ∧ W (i + 1) m' H') ∧ ∀ x H', J.yld i H x H' → g x (wipe σ own) H' fun σ2 H2 => wipe σ2 own = wipe σ own ∧ tYes σ2 H2 fun b H3 =>
        if b = true then te σ2 H3 fun y H4 => ∃ acc, H4 D = some (.lst acc) ∧ acc.length < sizeLine ∧ Nx (upd H4 D (.lst (acc ++ [y]))) else Nx H3) := by
  subst h0
  intro D hD
  have gD : (upd H1 D (.lst [])) D ≠ none := by rw [upd_same]; exact fun z => nomatch z
  refine lc_it (tt := tYes) w (fun i H' => Same H1 H' ∧ ∃ us, H' D = some (.lst us) ∧ us.length = i ∧ All2 ((List.range i).map rs) (nw (upd H1 D (.lst [])) H') us) ⟨same_new hD, [], upd_same, rfl, trivial⟩ (fun i H' _ p => hG H' p.1) ?_ ?_
  · rintro i x Hb H' hi ⟨e1, us, e2, e3, e4⟩ y
    refine hs i x Hb H' (fun y H4 => ∃ acc, H4 D = some (.lst acc) ∧ acc.length < sizeLine ∧ (Same H1 (upd H4 D (.lst (acc ++ [y]))) ∧ ∃ us, (upd H4 D (.lst (acc ++ [y]))) D = some (.lst us) ∧ us.length = i + 1 ∧ All2 ((List.range (i + 1)).map rs) (nw (upd H1 D (.lst [])) (upd H4 D (.lst (acc ++ [y])))) us)) hi e1 y fun z H4 e5 hz => ?_
    refine ⟨us, e5 _ _ e2, size_lt (by omega), (e1.trans e5).mut hD, us ++ [z], upd_same, by rw [List.length_append, e3]; rfl, ?_⟩
    rw [map_range_succ]
    have dm : Dm (upd H1 D (.lst [])) Hb := fun b hb => by
      have hbD : b ≠ D := fun q => by rw [q, e2] at hb; cases hb
      rw [upd_ne hbD]
      exact e1.free hb
    refine All2.snoc ?_ (e4.mono fun b o q => nw_mut gD _ _ (nw_more e5 _ _ q))
    exact (rs i).mono (fun b o q => nw_mut gD _ _ (nw_ground dm _ _ q)) hz
  · rintro H' ⟨e1, us, e2, e3, e4⟩
    exact hq _ _ e1 ⟨D, us, rfl, by rw [nw_of hD]; exact e2, e4.mono (nw_ground dm_upd)⟩
/-- the same where the things are whole numbers -/
theorem lc_ints {J : It} {n : Nat} {G : Hp → Prop} {Y : Nat → Hp → V → Hp → Prop} (w : Walk J n G Y) (f : Nat → Int) (σ0 : L2.St) {g : TG} {te : TE} {own : List Nat} {σ : L2.St} {H1 : Hp} {Qd : Addr → Hp → Prop} (hn : n ≤ 1000000) (h0 : wipe σ own = σ0)
    (hG : ∀ H', Same H1 H' → G H')
    (hs : ∀ i x Hb H' (Q' : VK), i < n → Same H1 Hb → Y i Hb x H' → (∀ H4, Same Hb H4 → Q' (.int (f i)) H4) → g x σ0 H' fun σ2 H2 => wipe σ2 own = σ0 ∧ te σ2 H2 Q')
    (hq : ∀ D H', Same H1 H' → (pL (((List.range n).map f).map pI)).p (nw H1 H') (.ref D) → Qd D H') :
    ∀ D, H1 D = none → ∃ W : Nat → Nat → Hp → Prop, (∃ m, W 0 m (upd H1 D (.lst []))) ∧ ∀ i m H, W i m H →
      (J.stop i H ∧ Qd D H) ∨ (J.go i H ∧ ∃ Nx : Hp → Prop, (∀ H', Nx H' → ∃ m', m' < m ∧ W (i + 1) m' H') ∧ ∀ x H', J.yld i H x H' → g x (wipe σ own) H' fun σ2 H2 => wipe σ2 own = wipe σ own ∧ tYes σ2 H2 fun b H3 =>
        if b = true then te σ2 H3 fun y H4 => ∃ acc, H4 D = some (.lst acc) ∧ acc.length < sizeLine ∧ Nx (upd H4 D (.lst (acc ++ [y]))) else Nx H3) :=
  lc_new w (fun i => pI (f i)) σ0 hn h0 hG (fun i x Hb H' Q' hi e y k => hs i x Hb H' Q' hi e y fun H4 e4 => k _ _ e4 rfl) (by
    have e : (List.range n).map (fun i => pI (f i)) = ((List.range n).map f).map pI := by rw [List.map_map]; rfl
    rw [e]
    exact hq)
theorem Ret.from {r : RP} {H H1 : Hp} {Q : VK} (k : Ret r H Q) (e : Same H H1) : Ret r H1 Q := fun v H' e' h => k v H' (e.trans e') (r.mono (nw_ground e.dm) h)
theorem RetV.from {x : V} {H H1 : Hp} {Q : VK} (k : RetV x H Q) (e : Same H H1) : RetV x H1 Q := fun H' e' => k H' (e.trans e')
/-! ### lists that are read -/
/-- a list of the shapes at an address -/
theorem pL_at {rs : List RP} {H : Hp} {v : V} (h : (pL rs).p H v) : ∃ a vs, v = .ref a ∧ H a = some (.lst vs) ∧ All2 rs H vs := h
theorem pT_at {rs : List RP} {H : Hp} {v : V} (h : (pT rs).p H v) : ∃ a vs, v = .ref a ∧ H a = some (.tup vs) ∧ All2 rs H vs := h
/-- xs[i] of a list of shapes, i from 0 on -/
theorem All2.at {H : Hp} {rs : List RP} {vs : List V} {i : Nat} {r : RP} (h : All2 rs H vs) (e : rs[i]? = some r) : ∃ v, atI vs (i : Int) = some v ∧ r.p H v := by
  obtain ⟨v, h1, h2⟩ := h.get e
  exact ⟨v, atI_nat h1, h2⟩
theorem atI_neg1 {α : Type} {xs : List α} {v : α} (h : xs[xs.length - 1]? = some v) : atI xs (-1) = some v := by
  have hl : 0 < xs.length := by
    cases xs with
    | nil => simp at h
    | cons _ _ => simp
  unfold atI ixN
  rw [if_neg (by decide), if_pos (by omega)]
  show xs[((-1 : Int) + xs.length).toNat]? = some v
  rw [show ((-1 : Int) + xs.length).toNat = xs.length - 1 by omega]
  exact h
theorem ixN_nat {n j : Nat} (h : j < n) : ixN n (j : Int) = some j := by
  unfold ixN
  rw [if_pos (by omega), if_pos (by omega), Int.toNat_natCast]
/-- a row of whole numbers, a plan -/
abbrev nV (x : Nat) : V := .int (x : Int)
abbrev nI (x : Nat) : RP := pI (x : Int)
def pRow (l : List Nat) : RP := pL (l.map nI)
def pPlan (t : List (List Nat)) : RP := pL (t.map pRow)
theorem nats_all {H : Hp} : ∀ {ns : List Nat} {vs : List V}, All2 (ns.map nI) H vs → vs = ns.map nV
  | [], [], _ => rfl
  | n :: r, v :: vs, h => by
    have e1 : v = V.int n := h.1
    rw [e1, nats_all (ns := r) (vs := vs) h.2]
    rfl
  | [], _ :: _, h => h.elim
  | _ :: _, [], h => h.elim
theorem all_nats {H : Hp} : ∀ ns : List Nat, All2 (ns.map nI) H (ns.map nV)
  | [] => trivial
  | _ :: r => ⟨rfl, all_nats r⟩
theorem pRow_at {l : List Nat} {H : Hp} {v : V} (h : (pRow l).p H v) : ∃ a, v = .ref a ∧ H a = some (.lst (l.map nV)) := by
  obtain ⟨a, vs, rfl, h2, h3⟩ := h
  rw [nats_all h3] at h2
  exact ⟨a, rfl, h2⟩
theorem pRow_mk {l : List Nat} {H : Hp} {a : Addr} (h : H a = some (.lst (l.map nV))) : (pRow l).p H (.ref a) := ⟨a, _, rfl, h, all_nats l⟩
theorem at_nats {l : List Nat} {i : Nat} (h : i < l.length) : atI (l.map nV) (i : Int) = some (.int ((l.getD i 0 : Nat) : Int)) := by
  refine atI_nat ?_
  rw [List.getElem?_map, List.getElem?_eq_getElem h, List.getD_eq_getElem?_getD, List.getElem?_eq_getElem h]
  rfl
/-- plan[n], plan[n][s] -/
theorem plan_row {t : List (List Nat)} {H : Hp} {vs : List V} {n : Nat} (h : All2 (t.map pRow) H vs) (hn : n < t.length) : ∃ b, atI vs (n : Int) = some (.ref b) ∧ H b = some (.lst ((t.getD n []).map nV)) := by
  obtain ⟨v, h1, h2⟩ := h.at (i := n) (r := pRow (t.getD n [])) (by rw [List.getElem?_map, List.getElem?_eq_getElem hn, List.getD_eq_getElem?_getD, List.getElem?_eq_getElem hn]; rfl)
  obtain ⟨b, rfl, h3⟩ := pRow_at h2
  exact ⟨b, h1, h3⟩
/-! ### one object left out: what is filled in a loop -/
def wo (f : Addr) (H : Hp) : Hp := fun b => if b = f then none else H b
theorem wo_ne {f b : Addr} {H : Hp} (h : b ≠ f) : wo f H b = H b := if_neg h
theorem wo_self {f : Addr} {H : Hp} : wo f H f = none := if_pos rfl
theorem of_wo {f b : Addr} {H : Hp} {o : HO} (h : wo f H b = some o) : b ≠ f ∧ H b = some o := by
  unfold wo at h
  by_cases e : b = f
  · rw [if_pos e] at h; cases h
  · rw [if_neg e] at h; exact ⟨e, h⟩
theorem wo_upd {f : Addr} {H : Hp} {o : HO} : wo f (upd H f o) = wo f H := by
  funext b
  by_cases e : b = f
  · rw [e, wo_self, wo_self]
  · rw [wo_ne e, wo_ne e, upd_ne e]
theorem wo_le {f : Addr} {H : Hp} : Same (wo f H) H := fun _ _ e => (of_wo e).2
theorem _root_.L2.Same.wo {H H' : Hp} (e : Same H H') (f : Addr) : Same (SE.wo f H) (SE.wo f H') := fun b o q => by
  obtain ⟨h1, h2⟩ := of_wo q
  rw [wo_ne h1]
  exact e _ _ h2
/-- what does not know f stands without f -/
theorem _root_.L2.Same.in_wo {H H' : Hp} (e : Same H H') {f : Addr} (h : H f = none) : Same H (SE.wo f H') := fun b o q => by
  rw [wo_ne (ne_of_none q h)]
  exact e _ _ q
/-- what is new over a heap that knows f is not f -/
theorem nw_wo {A G C : Hp} {f : Addr} (d : Dm A G) (h : G f ≠ none) : Same (nw G C) (nw A (wo f C)) := fun b o e => by
  obtain ⟨h1, h2⟩ := of_nw e
  rw [nw_of (d b h1), wo_ne (fun z : b = f => h (by rw [← z]; exact h1))]
  exact h2
theorem nw_in_wo {G C : Hp} {f : Addr} (h : G f ≠ none) : Same (nw G C) (wo f C) := fun b o e => by
  obtain ⟨h1, h2⟩ := of_nw e
  rw [wo_ne (fun z : b = f => h (by rw [← z]; exact h1))]
  exact h2
theorem some_ne {H : Hp} {f : Addr} {o : HO} (h : H f = some o) : H f ≠ none := by rw [h]; exact fun q => nomatch q
/-- a list that is filled: at f, its items new over the ground and none of them f -/
structure Fill (H : Hp) (f : Addr) (B : Hp) (rs : List RP) (H' : Hp) : Prop where
  new : H f = none
  same : Same B (wo f H')
  it : ∃ us, H' f = some (.lst us) ∧ All2 rs (nw H (wo f H')) us
theorem Fill.start {H : Hp} {f : Addr} (h : H f = none) : Fill H f H [] (upd H f (.lst [])) :=
  ⟨h, by rw [wo_upd]; exact (Same.refl H).in_wo h, [], upd_same, trivial⟩
theorem Fill.of {H H1 B : Hp} {f : Addr} {rs : List RP} (F : Fill H f B rs H1) (B' : Hp) (e : Same B' (wo f H1)) : Fill H f B' rs H1 := ⟨F.new, e, F.it⟩
/-- more is made beside -/
theorem Fill.more {H H1 H2 B : Hp} {f : Addr} {rs : List RP} (F : Fill H f B rs H1) (e : Same H1 H2) : Fill H f B rs H2 := by
  obtain ⟨us, h1, h2⟩ := F.it
  exact ⟨F.new, F.same.trans (e.wo f), us, e _ _ h1, h2.mono (nw_more (e.wo f))⟩
/-- one item more -/
theorem Fill.push {H H1 H2 B : Hp} {f : Addr} {rs : List RP} {r : RP} {v : V} {us : List V} (F : Fill H f B rs H1) (e : Same H1 H2) (hu : H1 f = some (.lst us)) (hd : Dm H H1) (h : r.p (nw H1 H2) v) :
    Fill H f B (rs ++ [r]) (upd H2 f (.lst (us ++ [v]))) := by
  obtain ⟨us', h1, h2⟩ := F.it
  rw [hu] at h1
  cases h1
  refine ⟨F.new, by rw [wo_upd]; exact F.same.trans (e.wo f), us ++ [v], upd_same, ?_⟩
  rw [wo_upd]
  exact All2.snoc (r.mono (nw_wo hd (some_ne hu)) h) (h2.mono (nw_more (e.wo f)))
theorem Fill.done {H H1 B : Hp} {f : Addr} {rs : List RP} (F : Fill H f B rs H1) : (pL rs).p (nw H H1) (.ref f) := by
  obtain ⟨us, h1, h2⟩ := F.it
  exact ⟨f, us, rfl, by rw [nw_of F.new]; exact h1, h2.mono (nw_more wo_le)⟩
theorem Fill.up {H H1 B : Hp} {f : Addr} {rs : List RP} (F : Fill H f B rs H1) : Same B H1 := F.same.trans wo_le
theorem new_at {H : Hp} {p : Addr} {o : HO} (h : H p = none) : nw H (upd H p o) p = some o := by rw [nw_of h, upd_same]
theorem pT_mk {rs : List RP} {H : Hp} {a : Addr} {vs : List V} (h : H a = some (.tup vs)) (q : All2 rs H vs) : (pT rs).p H (.ref a) := ⟨a, vs, rfl, h, q⟩
theorem pL_mk {rs : List RP} {H : Hp} {a : Addr} {vs : List V} (h : H a = some (.lst vs)) (q : All2 rs H vs) : (pL rs).p H (.ref a) := ⟨a, vs, rfl, h, q⟩
theorem ne_f {a b : Int} (h : a = b) : (!decide (a = b)) = false := by rw [decide_eq_true h]; rfl
theorem ne_t {a b : Int} (h : a ≠ b) : (!decide (a = b)) = true := by rw [decide_eq_false h]; rfl
end SE
/-! ## plans -/
namespace SE
open PySem PySem.Spec PyProof.Rows L2
def sp_horizon_of : Sp := fun vs H Q _ => ∃ (v : V) (t : List (List Nat)), vs = [v] ∧ (pPlan t).p H v ∧ Q (.int ((t.length : Int) - 1)) H
theorem sc_horizon_of : FnScope ["plan"] ["plan"] (defScope (topS 4)) := C8.fnScope_by (by decide +kernel)
theorem c_horizon_of {P : Program} {w : World} {K : PySem.W.Frag} {mg : Str → Option Value} {base : Heap} (T : Txt K mg) : C8.Cal P w K mg base 1 "horizon_of" sp_horizon_of [] := by
  refine T.cal 0 0 rfl rfl sc_horizon_of (fun _ _ _ _ _ _ us hl => match us, hl with | [_], _ => rfl) (fun vs H Q E h => ?_) (fun cdv A outer s H vs Q E hr h => ⟨_, pss_one (ps_ret (pe_op op_sub (pe_callB call_len_seq (by rfl) (T.free 83) PySem.boot_len (pa_cons (pv 0) pa_nil)) pe_int)), ?_⟩)
  · obtain ⟨v, t, rfl, _⟩ := h
    rfl
  · obtain ⟨v, t, rfl, ⟨a, vs, rfl, ha, hv⟩, k⟩ := h
    have hl : vs.length = t.length := by rw [hv.len, List.length_map]
    refine ⟨_, rfl, a, vs, rfl, .inl (SqL.of ha), _, _, rfl, rfl, ?_⟩
    rw [hl]
    exact k
def sp_has_point : Sp := fun vs H Q _ => ∃ (v : V) (p : Kxd7.Plan) (n s : Nat), vs = [v, .int (n : Int), .int (s : Int)] ∧ p.table.length = p.horizon + 1 ∧ (pPlan p.table).p H v ∧ Q (.bl (Kxd7.isPoint p n s)) H
theorem sc_has_point : FnScope ["plan", "n", "s"] ["plan", "n", "s"] (defScope (topS 5)) := C8.fnScope_by (by decide +kernel)
theorem c_has_point {P : Program} {w : World} {K : PySem.W.Frag} {mg : Str → Option Value} {base : Heap} (T : Txt K mg) : C8.Cal P w K mg base 2 "has_point" sp_has_point [] := by
  refine T.cal 1 1 rfl rfl sc_has_point (fun _ _ _ _ _ _ us hl => match us, hl with | [_, _, _], _ => rfl) (fun vs H Q E h => ?_) (fun cdv A outer s H vs Q E hr h => ⟨_, pss_one (ps_ret (pe_and (pe_cmp (pc_le (pv 1) (C8.pe_c (c_horizon_of T) hr (by decide) rfl (pa_cons (pv 0) pa_nil)))) (pe_one (pe_cmp (pc_le (pv 2) (pv 1)))))), ?_⟩)
  · obtain ⟨v, p, n, s, rfl, _⟩ := h
    rfl
  · obtain ⟨v, p, n, s, rfl, hl, hp, k⟩ := h
    refine ⟨_, rfl, _, rfl, v, _, rfl, hp, _, _, rfl, rfl, _, rfl, ?_⟩
    unfold Kxd7.isPoint at k
    by_cases c : n ≤ p.horizon
    · rw [decide_eq_true c] at k
      refine if_true_of (decide_eq_true (by omega)) ⟨_, rfl, _, rfl, _, _, rfl, rfl, ?_⟩
      have e2 : decide ((s : Int) ≤ (n : Int)) = decide (s ≤ n) := decide_eq_decide.mpr (by omega)
      show Q (.bl (decide ((s : Int) ≤ (n : Int)))) H
      rw [e2]
      exact k
    · rw [decide_eq_false c] at k
      exact if_false_of (decide_eq_false (by omega)) k
def sp_last_row : Sp := fun vs H Q _ => ∃ h c : Nat, vs = [.int (h : Int), .int (c : Int)] ∧ h ≤ 20 ∧ Ret (pRow (lastRow h c)) H Q
theorem sc_last_row : FnScope ["horizon", "limit", "s"] ["horizon", "limit"] (defScope (topS 8)) := C8.fnScope_by (by decide +kernel)
theorem c_last_row {P : Program} {w : World} {K : PySem.W.Frag} {mg : Str → Option Value} {base : Heap} (T : Txt K mg) : C8.Cal P w K mg base 1 "last_row" sp_last_row [] := by
  refine T.cal 4 4 rfl rfl sc_last_row (fun _ _ _ _ _ _ us hl => match us, hl with | [_, _], _ => rfl) (fun vs H Q E h => ?_) (fun cdv A outer s H vs Q E hr h => ⟨_, pss_one (ps_ret (pe_lc (own := [("s", 2)]) rfl sc_last_row.nd (pi_range1 (by rfl) (T.free 84) (pa_cons (pe_op op_add (pv 0) pe_int) pa_nil)) (blkOk_by (N := ["horizon", "limit", "s"]) (sc := defScope (topS 8)) (by decide +kernel)) (fun _ _ _ _ _ => by exact pg_name (i := 2) sc_last_row.nd rfl (Or.inl rfl)) (fun _ _ _ _ _ => pts_nil) (fun _ _ _ _ _ => by exact pe_ifExp (pt_cmp (pc_gt (pv 2) (pv 1))) (C8.pe_gc rfl (T.int 96)) (C8.pe_gc rfl (T.int 95))))), ?_⟩)
  · obtain ⟨h, c, rfl, _⟩ := h
    rfl
  · obtain ⟨h, c, rfl, hh, k⟩ := h
    refine ⟨_, rfl, _, _, rfl, rfl, _, rfl, by omega, by omega, ?_⟩
    rw [show ((h : Int) + 1).toNat = h + 1 by omega]
    refine lc_new walk_range (fun s => nI (if c < s then 2 else 1)) _ (by omega) rfl (fun _ _ => trivial) ?_ ?_
    · rintro i x Hb H' Q' hi e ⟨rfl, rfl⟩ q
      refine ⟨rfl, ?_⟩
      refine ⟨_, rfl, _, rfl, _, _, rfl, rfl, _, rfl, ?_⟩
      by_cases z : c < i
      · refine if_true_of (decide_eq_true (by omega)) (q _ _ (Same.refl _) ?_)
        rw [if_pos z]
        rfl
      · refine if_false_of (decide_eq_false (by omega)) (q _ _ (Same.refl _) ?_)
        rw [if_neg z]
        rfl
    · have e : (List.range (h + 1)).map (fun s => nI (if c < s then 2 else 1)) = (lastRow h c).map nI := by
        unfold lastRow
        rw [List.map_map]
        rfl
      rw [e]
      exact fun D => k _
def sp_single_plan : Sp := fun vs H Q _ => ∃ h c : Nat, vs = [.int (h : Int), .int (c : Int)] ∧ h ≤ 20 ∧ Ret (pPlan (Kxd7.fromRule h (Kxd7.singleRule h c)).table) H Q
theorem sc_single_plan : FnScope ["horizon", "limit", "found", "n"] ["horizon", "limit"] (defScope (topS 7)) := C8.fnScope_by (by decide +kernel)
theorem c_single_plan {P : Program} {w : World} {K : PySem.W.Frag} {mg : Str → Option Value} {base : Heap} (T : Txt K mg) : C8.Cal P w K mg base 2 "single_plan" sp_single_plan [] := by
  refine T.cal 3 3 rfl rfl sc_single_plan (fun _ _ _ _ _ _ us hl => match us, hl with | [_, _], _ => rfl) (fun vs H Q E h => ?_) (fun cdv A outer s H vs Q E hr h => ⟨_, pss_cons (ps_setLc (i := 2) (own := [("n", 3)]) rfl sc_single_plan.nd rfl rfl (sw_true rfl rfl rfl (by decide +kernel)) (pi_range1 (by rfl) (T.free 84) (pa_cons (pv 0) pa_nil)) (blkOk_by (N := ["horizon", "limit", "found", "n"]) (sc := defScope (topS 7)) (by decide +kernel)) (fun _ _ _ _ _ => by exact pg_name (i := 3) sc_single_plan.nd rfl (Or.inl rfl)) (fun _ _ _ _ _ => pts_nil) (fun _ _ _ _ _ => by exact pe_op op_rep (pe_lst (pa_cons (C8.pe_gc rfl (T.int 94)) pa_nil)) (pe_op op_add (pv 3) pe_int)))
      (pss_one (ps_ret (pe_op op_cat (pv 2) (pe_lst (pa_cons (C8.pe_c (c_last_row T) hr (by decide) rfl (pa_cons (pv 0) (pa_cons (pv 1) pa_nil))) pa_nil))))), ?_⟩)
  · obtain ⟨h, c, rfl, _⟩ := h
    rfl
  · obtain ⟨h, c, rfl, hh, k⟩ := h
    refine ⟨_, rfl, _, rfl, by omega, by omega, ?_⟩
    rw [show ((h : Int)).toNat = h by omega]
    refine lc_new walk_range (fun n => pRow (List.replicate (n + 1) 0)) _ (by omega) rfl (fun _ _ => trivial) ?_ ?_
    · rintro i x Hb H' Q' hi e ⟨rfl, rfl⟩ q
      refine ⟨rfl, (by show 1 ≤ sizeLine; decide), fun p hp => ?_⟩
      refine ⟨_, rfl, _, _, rfl, rfl, _, _, _, rfl, rfl, upd_same, by omega, by omega, ?_, fun r hr => ?_⟩
      · show 1 * _ ≤ _
        rw [Nat.one_mul]
        exact size_le (by omega)
      · refine q _ _ ((same_new hp).trans (same_new hr)) ?_
        have e3 : (List.replicate ((0 : Int) + (i : Int) + 1).toNat [V.int 0]).flatten = (List.replicate (i + 1) 0).map nV := by
          rw [show ((0 : Int) + (i : Int) + 1).toNat = i + 1 by omega, List.map_replicate]
          generalize i + 1 = m
          induction m with
          | zero => rfl
          | succ m ih => rw [List.replicate_succ, List.flatten_cons, ih]; rfl
        have e4 : nw H' (upd (upd H' p (.lst [V.int 0])) r (.lst (List.replicate ((0 : Int) + (i : Int) + 1).toNat [V.int 0]).flatten)) r = some (.lst ((List.replicate (i + 1) 0).map nV)) := by
          rw [nw_of ((same_new hp).free hr), upd_same, e3]
        exact pRow_mk e4
    · rintro D H1 e1 ⟨a, us, ea, ha, hu⟩
      cases ea
      have ha1 := (of_nw ha).2
      refine ⟨_, rfl, _, rfl, _, rfl, _, _, rfl, hh, fun v2 H2 e2 h2 => ?_⟩
      refine ⟨(by show 1 ≤ sizeLine; decide), fun p hp => ?_⟩
      have hl : us.length = h := by rw [hu.len]; simp
      refine ⟨_, _, _, _, rfl, rfl, (same_new hp) _ _ (e2 _ _ ha1), upd_same, ?_, fun r hr => ?_⟩
      · show us.length + 1 ≤ sizeLine
        exact size_le (by omega)
      · have e3 : Same H (upd H2 p (.lst [v2])) := (e1.trans e2).trans (same_new hp)
        refine k _ _ (e3.trans (same_new hr)) ?_
        rw [single_table]
        unfold pPlan
        rw [List.map_append, List.map_map]
        refine new_lst e3 hr (All2.append ?_ (hu.mono ?_))
        · exact ⟨(pRow (lastRow h c)).mono (nw_both e1.dm (same_new hp)) h2, trivial⟩
        · exact nw_more (e2.trans (same_new hp))
def sp_new_plan : Sp := fun vs H Q _ => ∃ h : Nat, vs = [.int (h : Int)] ∧ h ≤ 20 ∧ Ret (pPlan (Kxd7.fromRule h (fun _ _ => 0)).table) H Q
theorem sc_new_plan : FnScope ["horizon"] ["horizon"] (defScope (topS 6)) := C8.fnScope_by (by decide +kernel)
theorem c_new_plan {P : Program} {w : World} {K : PySem.W.Frag} {mg : Str → Option Value} {base : Heap} (T : Txt K mg) : C8.Cal P w K mg base 3 "new_plan" sp_new_plan [] := by
  refine T.cal 2 2 rfl rfl sc_new_plan (fun _ _ _ _ _ _ us hl => match us, hl with | [_], _ => rfl) (fun vs H Q E h => ?_) (fun cdv A outer s H vs Q E hr h => ⟨_, pss_one (ps_ret (C8.pe_c (c_single_plan T) hr (by decide) rfl (pa_cons (pv 0) (pa_cons (pv 0) pa_nil)))), ?_⟩)
  · obtain ⟨h, rfl, _⟩ := h
    rfl
  · obtain ⟨h, rfl, hh, k⟩ := h
    rw [create_single] at k
    exact ⟨_, rfl, _, rfl, _, _, rfl, hh, k⟩
/-! ### numbers of paths -/
/-- plan[n][s] -/
theorem plan_dec {p : Kxd7.Plan} {H : Hp} {vs : List V} (w : Lay p) {n s : Nat} (h : All2 (p.table.map pRow) H vs) (hn : n ≤ p.horizon) (hs : s ≤ n) :
    ∃ b row, atI vs (n : Int) = some (.ref b) ∧ H b = some (.lst row) ∧ atI row (s : Int) = some (.int ((Kxd7.decision p n s : Nat) : Int)) := by
  obtain ⟨b, h1, h2⟩ := plan_row h (n := n) (by rw [w.len]; omega)
  refine ⟨b, _, h1, h2, ?_⟩
  rw [at_nats (by rw [w.row n hn]; omega), dec_getD w hn hs]
def sp_ways_behind : Sp := fun vs H Q _ => ∃ (v u : V) (p : Kxd7.Plan) (n : Nat) (l : List Nat), vs = [v, .int (n : Int), u] ∧ Lay p ∧ (pPlan p.table).p H v ∧ n ≤ p.horizon ∧ (pRow l).p H u ∧ l.length = n + 1 ∧ Ret (pRow (nextRow p n l)) H Q
theorem sc_ways_behind : FnScope ["plan", "n", "ways", "found", "s", "many"] ["plan", "n", "ways"] (defScope (topS 11)) := C8.fnScope_by (by decide +kernel)
theorem c_ways_behind {P : Program} {w : World} {K : PySem.W.Frag} {mg : Str → Option Value} {base : Heap} (T : Txt K mg) : C8.Cal P w K mg base 1 "ways_behind" sp_ways_behind [] := by
  refine T.cal 7 7 rfl rfl sc_ways_behind (fun _ _ _ _ _ _ us hl => match us, hl with | [_, _, _], _ => rfl) (fun vs H Q E h => ?_) (fun cdv A outer s H vs Q E hr h => ⟨_, pss_cons (ps_set (i := 3) sc_ways_behind.nd rfl (Or.inl rfl) (pe_op op_rep (pe_lst (pa_cons pe_int pa_nil)) (pe_op op_add (pv 1) pe_int)))
      (pss_cons (ps_for PassesOwn.never rfl (pi_enum (by rfl) (T.free 85) (pa_cons (pv 2) pa_nil)) (pg_tup rfl (pgs_cons (pg_name (i := 4) sc_ways_behind.nd rfl (Or.inl rfl)) (pgs_cons (pg_name (i := 5) sc_ways_behind.nd rfl (Or.inl rfl)) pgs_nil))) (pss_one (ps_if (pt_cmp (pc_eqI (pe_ix ix_list (pe_ix ix_list (pv 0) (pv 1) (fun _ _ => rfl)) (pv 4) (fun _ _ => rfl)) (C8.pe_gc rfl (T.int 94)))) (pss_cons (ps_asg (pe_op op_add (pe_ix ix_list (pv 3) (pv 4) (fun _ _ => rfl)) (pv 5)) (pg_sub (pv 3) (pv 4) set_list))
      (pss_one (ps_asg (pe_op op_add (pe_ix ix_list (pv 3) (pe_op op_add (pv 4) pe_int) (fun _ _ => rfl)) (pv 5)) (pg_sub (pv 3) (pe_op op_add (pv 4) pe_int) set_list)))) (pss_nil))))
      (pss_one (ps_ret (pv 3)))), ?_⟩)
  · obtain ⟨v, u, p, n, l, rfl, _⟩ := h
    rfl
  · obtain ⟨v, u, p, n, l, rfl, lay, ⟨a, rows, rfl, ha, hrows⟩, hn, hu, hl, k⟩ := h
    obtain ⟨c, rfl, hc⟩ := pRow_at hu
    have h20 := lay.h2
    refine ⟨(by show 1 ≤ sizeLine; decide), fun q hq => ?_⟩
    refine ⟨_, rfl, _, _, rfl, rfl, _, _, _, rfl, rfl, upd_same, by omega, by omega, ?_, fun r hr => ?_⟩
    · show 1 * _ ≤ _
      rw [Nat.one_mul]
      exact size_le (by omega)
    have s1 : Same H (upd H q (.lst [V.int 0])) := same_new hq
    have hrH : H r = none := s1.free hr
    have e0 : (List.replicate ((n : Int) + 2).toNat [V.int 0]).flatten = (fnd (fun s => if Kxd7.decision p n s = 0 then l.getD s 0 else 0) (n + 2) 0).map nV := by
      rw [fnd_zero, show ((n : Int) + 2).toNat = n + 2 by omega, List.map_replicate]
      generalize n + 2 = m
      induction m with
      | zero => rfl
      | succ m ih => rw [List.replicate_succ, List.flatten_cons, ih]; rfl
    rw [e0]
    generalize ho : (fun s => if Kxd7.decision p n s = 0 then l.getD s 0 else 0) = o
    refine ⟨_, rfl, c, _, rfl, SqL.of ((same_new hr) _ _ (s1 _ _ hc)), for_it (walk_enum (K := K) (xs := l.map nV)) (fun i σ H' => Same H H' ∧ H' r = some (.lst ((fnd o (n + 2) i).map nV)) ∧ ∃ x y, σ = [some (.ref a), some (.int (n : Int)), some (.ref c), some (.ref r), x, y])
      ⟨s1.trans (same_new hr), upd_same, none, none, rfl⟩ (fun i σ H' _ p => SqL.of (p.1 _ _ hc)) ?_ ?_⟩
    · rintro i x σ H1 H2 hi ⟨e1, hr1, x0, y0, rfl⟩ ⟨t, x1, y1, rfl, ht, rfl, h1, h2⟩
      cases h1
      rw [List.length_map] at hi
      have h2 : (l.map nV)[i]? = some y1 := h2
      have hy : y1 = .int ((l.getD i 0 : Nat) : Int) := by
        rw [List.getElem?_map, List.getElem?_eq_getElem hi] at h2
        rw [List.getD_eq_getElem?_getD, List.getElem?_eq_getElem hi]
        exact (Option.some.inj h2).symm
      subst hy
      have e2 : Same H1 (upd H1 t (.tup [.int (i : Int), .int ((l.getD i 0 : Nat) : Int)])) := same_new ht
      obtain ⟨b, row, g1, g2, g3⟩ := plan_dec lay (n := n) (s := i) (hrows.mono (e1.trans e2)) hn (by omega)
      have hr2 := e2 _ _ hr1
      refine ⟨t, _, rfl, SqT.of upd_same, rfl, _, _, rfl, _, _, rfl, rfl, ?_⟩
      refine ⟨_, rfl, _, rfl, a, _, _, _, rfl, rfl, SqL.of (e2 _ _ (e1 _ _ ha)), g1, _, rfl, b, _, _, _, rfl, rfl, SqL.of g2, g3, _, _, rfl, rfl, _, rfl, ?_⟩
      have hlen : ((fnd o (n + 2) i).map nV).length = n + 2 := by rw [List.length_map, fnd_len]
      by_cases z : Kxd7.decision p n i = 0
      · have hoi : o i = l.getD i 0 := by rw [← ho]; exact if_pos z
        refine if_true_of (decide_eq_true (by omega)) ?_
        refine ⟨_, rfl, _, rfl, r, _, _, _, rfl, rfl, SqL.of hr2, at_nats (by rw [fnd_len]; omega), _, rfl, _, _, rfl, rfl, _, rfl, _, rfl, r, _, _, i, rfl, rfl, hr2, by rw [hlen]; exact ixN_nat (by omega), ?_⟩
        have m1 : ((fnd o (n + 2) i).map nV).set i (.int (((fnd o (n + 2) i).getD i 0 : Nat) + (l.getD i 0 : Nat))) = ((fnd o (n + 2) i).set i ((fnd o (n + 2) i).getD i 0 + o i)).map nV := by
          rw [List.map_set, hoi]
          rfl
        refine ⟨_, rfl, _, rfl, _, _, rfl, rfl, r, _, _, _, rfl, rfl, SqL.of upd_same, (by rw [m1]; exact at_nats (i := i + 1) (by rw [List.length_set, fnd_len]; omega)), _, rfl, _, _, rfl, rfl, _, rfl, _, rfl, _, _, rfl, rfl, r, _, _, i + 1, rfl, rfl, upd_same, by rw [List.length_set, hlen]; exact ixN_nat (j := i + 1) (n := n + 2) (by omega), ?_⟩
        refine ⟨((e1.trans e2).mut hrH).mut hrH, ?_, _, _, rfl⟩
        rw [upd_same, m1, ← fnd_step (by omega : i + 1 < n + 2), hoi]
        generalize (fnd o (n + 2) i).set i ((fnd o (n + 2) i).getD i 0 + l.getD i 0) = A
        rw [List.map_set]
        rfl
      · refine if_false_of (decide_eq_false (by omega)) ?_
        refine ⟨e1.trans e2, ?_, _, _, rfl⟩
        rw [fnd_stay _ (by rw [← ho]; exact if_neg z)]
        exact hr2
    · rintro σ H' ⟨e1, hr1, x0, y0, rfl⟩
      refine ⟨_, rfl, k _ _ e1 ?_⟩
      rw [List.length_map, ← ho] at hr1
      have e3 := fnd_last p n l
      rw [hl] at e3 hr1
      rw [e3] at hr1
      exact pRow_mk (by rw [nw_of hrH]; exact hr1)
/-- ways_from: the first row is the one handed in, the others are new -/
def RowsFrom (p : Kxd7.Plan) (n : Nat) (l : List Nat) (u : V) (H : Hp) (Q : VK) : Prop := ∀ (b : Addr) (H' : Hp) (us : List V), H b = none → Same H H' → H' b = some (.lst (u :: us)) →
  All2 ((List.range (p.horizon - n)).map fun j => pRow (rowAt p n l (j + 1))) (nw H H') us → Q (.ref b) H'
def sp_ways_from : Sp := fun vs H Q _ => ∃ (v u : V) (p : Kxd7.Plan) (n : Nat) (l : List Nat), vs = [v, .int (n : Int), u] ∧ Lay p ∧ (pPlan p.table).p H v ∧ n ≤ p.horizon ∧ (pRow l).p H u ∧ l.length = n + 1 ∧ RowsFrom p n l u H Q
theorem last_of {p : Kxd7.Plan} {n : Nat} {l : List Nat} {u : V} {us : List V} {H : Hp} {i : Nat} (h0 : (pRow l).p H u) (h : All2 ((List.range i).map fun j => pRow (rowAt p n l (j + 1))) H us) : ∃ x, atI (u :: us) (-1) = some x ∧ (pRow (rowAt p n l i)).p H x := by
  have hl : us.length = i := by rw [h.len]; simp
  cases i with
  | zero =>
    have e : us = [] := List.length_eq_zero_iff.mp hl
    subst e
    exact ⟨u, rfl, h0⟩
  | succ i =>
    obtain ⟨x, h1, h2⟩ := h.get (i := i) (r := pRow (rowAt p n l (i + 1))) (by rw [List.getElem?_map, List.getElem?_range (by omega)]; rfl)
    exact ⟨x, atI_neg1 (by rw [List.length_cons, hl]; exact h1), h2⟩
theorem sc_ways_from : FnScope ["plan", "n", "ways", "found", "here"] ["plan", "n", "ways"] (defScope (topS 12)) := C8.fnScope_by (by decide +kernel)
theorem c_ways_from {P : Program} {w : World} {K : PySem.W.Frag} {mg : Str → Option Value} {base : Heap} (T : Txt K mg) : C8.Cal P w K mg base 2 "ways_from" sp_ways_from [] := by
  refine T.cal 8 8 rfl rfl sc_ways_from (fun _ _ _ _ _ _ us hl => match us, hl with | [_, _, _], _ => rfl) (fun vs H Q E h => ?_) (fun cdv A outer s H vs Q E hr h => ⟨_, pss_cons (ps_set (i := 3) sc_ways_from.nd rfl (Or.inl rfl) (pe_lst (pa_cons (pv 2) pa_nil)))
      (pss_cons (ps_for PassesOwn.never rfl (pi_range2 (by rfl) (T.free 84) (pa_cons (pv 1) (pa_cons (C8.pe_c (c_horizon_of T) hr (by decide) rfl (pa_cons (pv 0) pa_nil)) pa_nil))) (pg_name (i := 4) sc_ways_from.nd rfl (Or.inl rfl)) (pss_one (ps_expr (pe_bm PySem.F.plainAttrs_list PySem.F.slot_list_append PySem.F.type_list_append mt_append (pv 3) (pa_cons (C8.pe_c (c_ways_behind T) hr (by decide) rfl (pa_cons (pv 0) (pa_cons (pv 4) (pa_cons (pe_ix ix_list (pv 3) (pe_un un_neg pe_int) (fun _ _ => rfl)) pa_nil)))) pa_nil)))))
      (pss_one (ps_ret (pv 3)))), ?_⟩)
  · obtain ⟨v, u, p, n, l, rfl, _⟩ := h
    rfl
  · obtain ⟨v, u, p, n, l, rfl, lay, hv, hn, hu, hl, k⟩ := h
    have h20 := lay.h2
    have hl2 := lay.len
    refine ⟨_, rfl, (by show 1 ≤ sizeLine; decide), fun b hb => ?_⟩
    have s1 : Same H (upd H b (.lst [u])) := same_new hb
    refine ⟨_, rfl, _, rfl, v, p.table, rfl, (pPlan p.table).mono s1 hv, _, _, rfl, by omega, ?_⟩
    rw [show ((p.table.length : Int) - 1 - (n : Int)).toNat = p.horizon - n by omega]
    refine for_it walk_range (fun i σ H' => Same H H' ∧ (∃ us, H' b = some (.lst (u :: us)) ∧ us.length = i ∧ All2 ((List.range i).map fun j => pRow (rowAt p n l (j + 1))) (nw (upd H b (.lst [u])) H') us) ∧ ∃ x, σ = [some v, some (.int (n : Int)), some u, some (.ref b), x])
      ⟨s1, ⟨[], upd_same, rfl, trivial⟩, none, rfl⟩ (fun _ _ _ _ _ => trivial) ?_ ?_
    · rintro i x σ H1 H2 hi ⟨e1, ⟨us, hb1, hus, hall⟩, x0, rfl⟩ ⟨rfl, rfl⟩
      obtain ⟨y, g1, g2⟩ := last_of ((pRow l).mono e1 hu) (hall.mono nw_same)
      refine ⟨_, rfl, .inl ⟨rfl, _, SqL.of hb1⟩, _, rfl, _, rfl, _, rfl, _, rfl, b, _, _, y, rfl, rfl, SqL.of hb1, g1, ?_⟩
      refine ⟨v, y, p, n + i, rowAt p n l i, ?_, lay, (pPlan p.table).mono e1 hv, by omega, g2, by rw [rowAt_len]; omega, fun z H3 e3 hz => ?_⟩
      · rfl
      · have hb3 := e3 _ _ hb1
        refine ⟨b, _, z, rfl, rfl, hb3, size_lt (by rw [List.length_cons]; omega), ?_⟩
        refine ⟨(e1.trans e3).mut hb, ⟨us ++ [z], upd_same, by rw [List.length_append, hus]; rfl, ?_⟩, _, rfl⟩
        rw [map_range_succ]
        have gD : (upd H b (.lst [u])) b ≠ none := by rw [upd_same]; exact fun q => nomatch q
        have dm : Dm (upd H b (.lst [u])) H2 := fun c hc => by
          have hcb : c ≠ b := fun q => by rw [q, hb1] at hc; cases hc
          rw [upd_ne hcb]
          exact e1.free hc
        refine All2.snoc ?_ (hall.mono fun c o q => nw_mut gD _ _ (nw_more e3 _ _ q))
        exact (pRow _).mono (fun c o q => nw_mut gD _ _ (nw_ground dm _ _ q)) hz
    · rintro σ H1 ⟨e1, ⟨us, hb1, hus, hall⟩, x0, rfl⟩
      exact ⟨_, rfl, k b H1 us hb e1 hb1 (hall.mono (nw_ground dm_upd))⟩
/-- for each n the numbers of paths -/
def pathRows (p : Kxd7.Plan) : List (List Nat) := (List.range (p.horizon + 1)).map (Kxd7.pathRow p)
def sp_all_ways : Sp := fun vs H Q _ => ∃ (v : V) (p : Kxd7.Plan), vs = [v] ∧ Lay p ∧ (pPlan p.table).p H v ∧ Ret (pPlan (pathRows p)) H Q
theorem sc_all_ways : FnScope ["plan"] ["plan"] (defScope (topS 13)) := C8.fnScope_by (by decide +kernel)
theorem c_all_ways {P : Program} {w : World} {K : PySem.W.Frag} {mg : Str → Option Value} {base : Heap} (T : Txt K mg) : C8.Cal P w K mg base 3 "all_ways" sp_all_ways [] := by
  refine T.cal 9 9 rfl rfl sc_all_ways (fun _ _ _ _ _ _ us hl => match us, hl with | [_], _ => rfl) (fun vs H Q E h => ?_) (fun cdv A outer s H vs Q E hr h => ⟨_, pss_one (ps_ret (C8.pe_c (c_ways_from T) hr (by decide) rfl (pa_cons (pv 0) (pa_cons pe_int (pa_cons (pe_lst (pa_cons pe_int pa_nil)) pa_nil))))), ?_⟩)
  · obtain ⟨v, p, rfl, _⟩ := h
    rfl
  · obtain ⟨v, p, rfl, lay, hv, k⟩ := h
    refine ⟨_, rfl, (by show 1 ≤ sizeLine; decide), fun a ha => ?_⟩
    have s1 : Same H (upd H a (.lst [V.int 1])) := same_new ha
    refine ⟨v, .ref a, p, 0, [1], rfl, lay, (pPlan p.table).mono s1 hv, Nat.zero_le _, pRow_mk upd_same, rfl, fun b H2 us hb e2 hb2 hall => ?_⟩
    refine k _ _ (s1.trans e2) ⟨b, _, rfl, by rw [nw_of (s1.free hb)]; exact hb2, ?_⟩
    unfold pathRows
    rw [List.range_succ_eq_map, List.map_cons, List.map_cons, List.map_map, List.map_map]
    refine ⟨pRow_mk (by rw [nw_of ha]; exact e2 _ _ upd_same), ?_⟩
    have e : (List.range (p.horizon - 0)).map (fun j => pRow (rowAt p 0 [1] (j + 1))) = (List.range p.horizon).map ((pRow ∘ Kxd7.pathRow p) ∘ Nat.succ) := List.map_congr_left fun j _ => by
      rw [rowAt_path]
      rfl
    rw [e] at hall
    exact hall.mono (nw_ground s1.dm)
/-- for each n the numbers of paths that begin with a success -/
def luckyRows (p : Kxd7.Plan) : List (List Nat) := [0] :: (List.range p.horizon).map fun j => Kxd7.pathsFromSuccessRow p (j + 1)
def sp_lucky_ways : Sp := fun vs H Q _ => ∃ (v : V) (p : Kxd7.Plan), vs = [v] ∧ Lay p ∧ 1 ≤ p.horizon ∧ (pPlan p.table).p H v ∧ Ret (pPlan (luckyRows p)) H Q
theorem sc_lucky_ways : FnScope ["plan", "first"] ["plan"] (defScope (topS 14)) := C8.fnScope_by (by decide +kernel)
theorem c_lucky_ways {P : Program} {w : World} {K : PySem.W.Frag} {mg : Str → Option Value} {base : Heap} (T : Txt K mg) : C8.Cal P w K mg base 3 "lucky_ways" sp_lucky_ways [] := by
  refine T.cal 10 10 rfl rfl sc_lucky_ways (fun _ _ _ _ _ _ us hl => match us, hl with | [_], _ => rfl) (fun vs H Q E h => ?_) (fun cdv A outer s H vs Q E hr h => ⟨_, pss_cons (ps_set (i := 1) sc_lucky_ways.nd rfl (Or.inl rfl) (pe_ifExp (pt_cmp (pc_eqI (pe_ix ix_list (pe_ix ix_list (pv 0) pe_int (fun _ _ => rfl)) pe_int (fun _ _ => rfl)) (C8.pe_gc rfl (T.int 94)))) (pe_lst (pa_cons pe_int (pa_cons pe_int pa_nil))) (pe_lst (pa_cons pe_int (pa_cons pe_int pa_nil)))))
      (pss_one (ps_ret (pe_op op_cat (pe_lst (pa_cons (pe_lst (pa_cons pe_int pa_nil)) pa_nil)) (C8.pe_c (c_ways_from T) hr (by decide) rfl (pa_cons (pv 0) (pa_cons pe_int (pa_cons (pv 1) pa_nil))))))), ?_⟩)
  · obtain ⟨v, p, rfl, _⟩ := h
    rfl
  · obtain ⟨v, p, rfl, lay, h1, hv, k⟩ := h
    obtain ⟨a, rows, rfl, ha, hrows⟩ := id hv
    obtain ⟨c, row, g1, g2, g3⟩ := plan_dec lay (n := 0) (s := 0) hrows (Nat.zero_le _) (Nat.le_refl _)
    refine ⟨_, rfl, a, _, 0, _, rfl, rfl, SqL.of ha, g1, c, _, 0, _, rfl, rfl, SqL.of g2, g3, _, _, rfl, rfl, _, rfl, ?_⟩
    have rest : ∀ (f : Addr) (H1 : Hp), Same H H1 → H f = none → H1 f = some (.lst ((if Kxd7.decision p 0 0 = 0 then [0, 1] else [0, 0]).map nV)) →
        tRet (tOp rCat (tLst (tCons (tLst (tCons (tC (.int 0)) tNil)) tNil)) (tCall sp_ways_from [] E0 (tCons (tVar 0) (tCons (tC (.int 1)) (tCons (tVar 1) tNil))))) { nx := fun _ H' => Q .non H', rt := Q } [some (.ref a), some (.ref f)] H1 := fun f H1 e1 hf0 hf => by
      refine ⟨(by show 1 ≤ sizeLine; decide), fun q hq => ⟨(by show 1 ≤ sizeLine; decide), fun r hr => ?_⟩⟩
      have e2 : Same H1 (upd (upd H1 q (.lst [V.int 0])) r (.lst [V.ref q])) := (same_new hq).trans (same_new hr)
      refine ⟨_, rfl, _, rfl, .ref a, .ref f, p, 1, _, rfl, lay, (pPlan p.table).mono (e1.trans e2) hv, h1, pRow_mk (e2 _ _ hf), by split <;> rfl, fun b H2 us hb e3 hb2 hall => ?_⟩
      refine ⟨r, b, _, _, rfl, rfl, e3 _ _ upd_same, hb2, ?_, fun s hs => ?_⟩
      · have hl : us.length = p.horizon - 1 := by rw [hall.len]; simp
        have := lay.h2
        show 1 + (us.length + 1) ≤ sizeLine
        exact size_le (by omega)
      · have e4 : Same H H2 := (e1.trans e2).trans e3
        refine k _ _ (e4.trans (same_new hs)) ?_
        refine new_lst e4 hs ?_
        obtain ⟨m, hm⟩ : ∃ m, p.horizon = m + 1 := ⟨p.horizon - 1, by omega⟩
        have hq0 : H q = none := e1.free hq
        refine ⟨pRow_mk (by rw [nw_of hq0]; exact e3 _ _ ((same_new hr) _ _ upd_same)), ?_⟩
        show All2 (((List.range p.horizon).map fun j => Kxd7.pathsFromSuccessRow p (j + 1)).map pRow) _ _
        rw [hm, List.range_succ_eq_map, List.map_cons, List.map_cons, List.map_map, List.map_map]
        refine ⟨pRow_mk (l := Kxd7.pathsFromSuccessRow p 1) (by rw [nw_of hf0]; exact e3 _ _ (e2 _ _ hf)), ?_⟩
        have e : (List.range (p.horizon - 1)).map (fun j => pRow (rowAt p 1 (if Kxd7.decision p 0 0 = 0 then [0, 1] else [0, 0]) (j + 1))) = (List.range m).map (pRow ∘ (fun j => Kxd7.pathsFromSuccessRow p (j + 1)) ∘ Nat.succ) := by
          rw [hm]
          exact List.map_congr_left fun j _ => by
            rw [rowAt_lucky]
            rfl
        rw [e] at hall
        exact hall.mono (nw_ground (e1.trans e2).dm)
    by_cases z : Kxd7.decision p 0 0 = 0
    · refine if_true_of (decide_eq_true (by omega)) ⟨(by show 2 ≤ sizeLine; decide), fun f hf => ?_⟩
      exact rest f _ (same_new hf) hf (by rw [upd_same, if_pos z]; rfl)
    · refine if_false_of (decide_eq_false (by omega)) ⟨(by show 2 ≤ sizeLine; decide), fun f hf => ?_⟩
      exact rest f _ (same_new hf) hf (by rw [upd_same, if_neg z]; rfl)
/-! ### stops -/
def stT (p : Kxd7.Plan) (z : Nat × Nat) : RP := pT [nI z.1, nI z.2, nI (Kxd7.paths p z.1 z.2), nI (Kxd7.decision p z.1 z.2)]
def pStops (p : Kxd7.Plan) : RP := pL ((Kxd7.stops p).map (stT p))
theorem pathRows_at (p : Kxd7.Plan) {n : Nat} (h : n ≤ p.horizon) : ((pathRows p).map pRow)[n]? = some (pRow (Kxd7.pathRow p n)) := by
  unfold pathRows
  rw [List.getElem?_map, List.getElem?_map, List.getElem?_range (by omega)]
  rfl
theorem pathRows_len (p : Kxd7.Plan) : (pathRows p).length = p.horizon + 1 := by simp [pathRows]
def sp_stops_of : Sp := fun vs H Q _ => ∃ (v : V) (p : Kxd7.Plan), vs = [v] ∧ Lay p ∧ (pPlan p.table).p H v ∧ Ret (pStops p) H Q
theorem sc_stops_of : FnScope ["plan", "found", "n", "ways", "s", "many"] ["plan"] (defScope (topS 15)) := C8.fnScope_by (by decide +kernel)
theorem c_stops_of {P : Program} {w : World} {K : PySem.W.Frag} {mg : Str → Option Value} {base : Heap} (T : Txt K mg) : C8.Cal P w K mg base 4 "stops_of" sp_stops_of [] := by
  refine T.cal 11 11 rfl rfl sc_stops_of (fun _ _ _ _ _ _ us hl => match us, hl with | [_], _ => rfl) (fun vs H Q E h => ?_) (fun cdv A outer s H vs Q E hr h => ⟨_, pss_cons (ps_set (i := 1) sc_stops_of.nd rfl (Or.inl rfl) (pe_lst (pa_nil)))
      (pss_cons (ps_for PassesOwn.never rfl (pi_enum (by rfl) (T.free 85) (pa_cons (C8.pe_c (c_all_ways T) hr (by decide) rfl (pa_cons (pv 0) pa_nil)) pa_nil)) (pg_tup rfl (pgs_cons (pg_name (i := 2) sc_stops_of.nd rfl (Or.inl rfl)) (pgs_cons (pg_name (i := 3) sc_stops_of.nd rfl (Or.inl rfl)) pgs_nil))) (pss_one (ps_for PassesOwn.never rfl (pi_enum (by rfl) (T.free 85) (pa_cons (pv 3) pa_nil)) (pg_tup rfl (pgs_cons (pg_name (i := 4) sc_stops_of.nd rfl (Or.inl rfl)) (pgs_cons (pg_name (i := 5) sc_stops_of.nd rfl (Or.inl rfl)) pgs_nil))) (pss_one (ps_if (PW.pt (pw_and (pt_cmp (pc_gt (pv 5) pe_int)) (pw_and1 (pt_cmp (pc_neI (pe_ix ix_list (pe_ix ix_list (pv 0) (pv 2) (fun _ _ => rfl)) (pv 4) (fun _ _ => rfl)) (C8.pe_gc rfl (T.int 94))))))) (pss_one (ps_expr (pe_bm PySem.F.plainAttrs_list PySem.F.slot_list_append PySem.F.type_list_append mt_append (pv 1) (pa_cons (pe_tup (pa_cons (pv 2) (pa_cons (pv 4) (pa_cons (pv 5) (pa_cons (pe_ix ix_list (pe_ix ix_list (pv 0) (pv 2) (fun _ _ => rfl)) (pv 4) (fun _ _ => rfl)) pa_nil))))) pa_nil)))) (pss_nil))))))
      (pss_one (ps_ret (pv 1)))), ?_⟩)
  · obtain ⟨v, p, rfl, _⟩ := h
    rfl
  · obtain ⟨v, p, rfl, lay, hv, k⟩ := h
    have h20 := lay.h2
    obtain ⟨a, rows, rfl, ha, hrows⟩ := id hv
    refine ⟨(by show 0 ≤ sizeLine; decide), fun f hf => ?_⟩
    refine ⟨_, rfl, .ref a, p, rfl, lay, (pPlan p.table).mono (same_new hf) hv, fun wv H1 e1 hw => ?_⟩
    have F1 := (Fill.start hf).more e1
    obtain ⟨b, ws, rfl, hb, hws⟩ := (pPlan (pathRows p)).mono (nw_in_wo (some_ne upd_same)) hw
    have hwl : ws.length = p.horizon + 1 := by rw [hws.len, List.length_map, pathRows_len]
    refine ⟨b, ws, rfl, SqL.of (wo_le _ _ hb), for_it (walk_enum (K := K) (xs := ws)) (fun n σ H' => Fill H f (wo f H1) ((stopsTo p n).map (stT p)) H' ∧ ∃ x1 x2 x3 x4, σ = [some (.ref a), some (.ref f), x1, x2, x3, x4])
      ⟨F1.of _ (Same.refl _), none, none, none, none, rfl⟩ (fun i σ H' _ q => SqL.of (q.1.up _ _ hb)) ?_ ?_⟩
    · rintro n x σ H2 H3 hn ⟨F2, x1, x2, x3, x4, rfl⟩ ⟨t, y1, y2, rfl, ht, rfl, h1, h2⟩
      cases h1
      have h2 : ws[n]? = some y2 := h2
      obtain ⟨r, hr1, hr2⟩ := hws.item h2
      rw [pathRows_at p (by omega)] at hr1
      cases hr1
      obtain ⟨c, rfl, hc1⟩ := pRow_at hr2
      have F3 := F2.more (same_new (o := .tup [.int (n : Int), .ref c]) ht)
      refine ⟨t, _, rfl, SqT.of upd_same, rfl, _, _, rfl, _, _, rfl, rfl, ?_⟩
      refine ⟨_, rfl, c, _, rfl, SqL.of (F3.up _ _ hc1), for_it (walk_enum (K := K) (xs := (Kxd7.pathRow p n).map nV)) (fun i σ H' => Fill H f (wo f H1) ((stopsTo p n ++ rowStops p n i).map (stT p)) H' ∧ ∃ x3 x4, σ = [some (.ref a), some (.ref f), some (.int (n : Int)), some (.ref c), x3, x4])
        ⟨?_, x3, x4, rfl⟩ (fun i σ H' _ q => SqL.of (q.1.up _ _ hc1)) ?_ ?_⟩
      · rw [show rowStops p n 0 = [] from rfl, List.append_nil]
        exact F3
      · rintro i x σ H4 H5 hi ⟨F4, x3, x4, rfl⟩ ⟨t2, y1, y2, rfl, ht2, rfl, h1, h2⟩
        cases h1
        rw [List.length_map, pathRow_len] at hi
        have h2 : ((Kxd7.pathRow p n).map nV)[i]? = some y2 := h2
        have hy : y2 = .int ((Kxd7.paths p n i : Nat) : Int) := by
          have hl : i < (Kxd7.pathRow p n).length := by rw [pathRow_len]; exact hi
          rw [List.getElem?_map, List.getElem?_eq_getElem hl] at h2
          unfold Kxd7.paths
          rw [List.getD_eq_getElem?_getD, List.getElem?_eq_getElem hl]
          exact (Option.some.inj h2).symm
        subst hy
        have e5 : Same H4 (upd H4 t2 (.tup [.int (i : Int), .int ((Kxd7.paths p n i : Nat) : Int)])) := same_new ht2
        have F5 := F4.more e5
        have sH : Same H (wo f H1) := ((same_new hf).trans e1).in_wo hf
        obtain ⟨b2, row, g1, g2, g3⟩ := plan_dec lay (n := n) (s := i) (hrows.mono (sH.trans F5.up)) (by omega) (by omega)
        have ha5 := F5.up _ _ (sH _ _ ha)
        refine ⟨t2, _, rfl, SqT.of upd_same, rfl, _, _, rfl, _, _, rfl, rfl, ?_⟩
        refine ⟨_, rfl, _, _, rfl, rfl, _, rfl, ?_⟩
        rw [rowStops_succ, ← List.append_assoc]
        by_cases z : Kxd7.paths p n i = 0
        · refine if_false_of (decide_eq_false (by omega)) ?_
          refine if_false_of rfl ?_
          rw [if_neg (by simp [z]), List.append_nil]
          exact ⟨F5, _, _, rfl⟩
        · refine if_true_of (decide_eq_true (by omega)) ?_
          refine ⟨_, rfl, _, rfl, a, _, _, _, rfl, rfl, SqL.of ha5, g1, _, rfl, b2, _, _, _, rfl, rfl, SqL.of g2, g3, _, _, rfl, rfl, _, rfl, ?_⟩
          by_cases z2 : Kxd7.decision p n i = 0
          · refine if_false_of (ne_f (by omega)) ?_
            rw [if_neg (by simp [z2]), List.append_nil]
            exact ⟨F5, _, _, rfl⟩
          · refine if_true_of (ne_t (by omega)) ?_
            rw [if_pos (by simp [z, z2])]
            obtain ⟨us, hus, hal⟩ := F5.it
            have hul : us.length ≤ 21 * 20 + 21 := by
              rw [hal.len, List.length_map, List.length_append]
              have q1 := stopsTo_len p n (by omega)
              have q2 := rowStops_len p n i
              have : 21 * n ≤ 21 * 20 := Nat.mul_le_mul_left _ (by omega)
              omega
            refine ⟨_, rfl, .inl ⟨rfl, _, SqL.of hus⟩, _, rfl, _, rfl, _, rfl, _, rfl, _, rfl, a, _, _, _, rfl, rfl, SqL.of ha5, g1, _, rfl, b2, _, _, _, rfl, rfl, SqL.of g2, g3, (by show 4 ≤ sizeLine; decide), fun t3 ht3 => ?_⟩
            have e6 := same_new (o := .tup [V.int (n : Int), V.int (i : Int), V.int ((Kxd7.paths p n i : Nat) : Int), V.int ((Kxd7.decision p n i : Nat) : Int)]) ht3
            refine ⟨f, us, _, rfl, rfl, e6 _ _ hus, size_lt (by omega), ?_⟩
            refine ⟨?_, _, _, rfl⟩
            rw [List.map_append]
            refine F5.push e6 hus (sH.trans F5.up).dm ?_
            exact pT_mk (new_at ht3) ⟨rfl, rfl, rfl, rfl, trivial⟩
      · rintro σ H4 ⟨F4, x3, x4, rfl⟩
        rw [List.length_map, pathRow_len] at F4
        rw [← stopsTo_succ] at F4
        exact ⟨F4, _, _, _, _, rfl⟩
    · rintro σ H2 ⟨F2, x1, x2, x3, x4, rfl⟩
      rw [hwl] at F2
      refine ⟨_, rfl, k _ _ ((((same_new hf).trans e1).in_wo hf).trans F2.up) F2.done⟩
end SE
/-! ## curtailed plans -/
namespace SE
open PySem PySem.Spec PyProof.Rows L2
def sp_is_stop : Sp := fun vs H Q _ => ∃ (v : V) (p : Kxd7.Plan) (n s : Nat), vs = [v, .int (n : Int), .int (s : Int)] ∧ Lay p ∧ (pPlan p.table).p H v ∧ n ≤ p.horizon ∧ s ≤ n ∧ RetV (.bl (Kxd7.decision p n s != 0 && Kxd7.paths p n s != 0)) H Q
theorem sc_is_stop : FnScope ["plan", "n", "s"] ["plan", "n", "s"] (defScope (topS 16)) := C8.fnScope_by (by decide +kernel)
theorem c_is_stop {P : Program} {w : World} {K : PySem.W.Frag} {mg : Str → Option Value} {base : Heap} (T : Txt K mg) : C8.Cal P w K mg base 4 "is_stop" sp_is_stop [] := by
  refine T.cal 12 12 rfl rfl sc_is_stop (fun _ _ _ _ _ _ us hl => match us, hl with | [_, _, _], _ => rfl) (fun vs H Q E h => ?_) (fun cdv A outer s H vs Q E hr h => ⟨_, pss_one (ps_ret (pe_and (pe_cmp (pc_neI (pe_ix ix_list (pe_ix ix_list (pv 0) (pv 1) (fun _ _ => rfl)) (pv 2) (fun _ _ => rfl)) (C8.pe_gc rfl (T.int 94)))) (pe_one (pe_cmp (pc_gt (pe_ix ix_list (pe_ix ix_list (C8.pe_c (c_all_ways T) hr (by decide) rfl (pa_cons (pv 0) pa_nil)) (pv 1) (fun _ _ => rfl)) (pv 2) (fun _ _ => rfl)) pe_int))))), ?_⟩)
  · obtain ⟨v, p, n, s, rfl, _⟩ := h
    rfl
  · obtain ⟨v, p, n, s, rfl, lay, hv, hn, hs, k⟩ := h
    obtain ⟨a, rows, rfl, ha, hrows⟩ := id hv
    obtain ⟨b, row, g1, g2, g3⟩ := plan_dec lay hrows hn hs
    refine ⟨_, rfl, _, rfl, a, _, _, _, rfl, rfl, SqL.of ha, g1, _, rfl, b, _, _, _, rfl, rfl, SqL.of g2, g3, _, _, rfl, rfl, _, rfl, ?_⟩
    by_cases z : Kxd7.decision p n s = 0
    · refine if_false_of (ne_f (by omega)) ?_
      have e : (Kxd7.decision p n s != 0 && Kxd7.paths p n s != 0) = false := by simp [z]
      rw [e] at k
      exact k H (Same.refl H)
    · refine if_true_of (ne_t (by omega)) ?_
      refine ⟨_, rfl, .ref a, p, rfl, lay, hv, fun wv H1 e1 hw => ?_⟩
      obtain ⟨c, ws, rfl, hc, hws⟩ := (pPlan (pathRows p)).mono nw_same hw
      obtain ⟨d, q1, q2⟩ := hws.at (pathRows_at p hn)
      obtain ⟨d, rfl, q3⟩ := pRow_at q2
      refine ⟨_, rfl, c, _, _, _, rfl, rfl, SqL.of hc, q1, _, rfl, d, _, _, _, rfl, rfl, SqL.of q3, at_nats (by rw [pathRow_len]; omega), _, _, rfl, rfl, ?_⟩
      have e : (Kxd7.decision p n s != 0 && Kxd7.paths p n s != 0) = decide (0 < (((Kxd7.pathRow p n).getD s 0 : Nat) : Int)) := by
        rw [pathRow_getD]
        by_cases y : Kxd7.paths p n s = 0
        · rw [y, decide_eq_false (by decide)]
          simp
        · rw [decide_eq_true (by omega)]
          simp [z, y]
      rw [e] at k
      exact k H1 e1
/-- two truth values -/
def pOut (x : Bool × Bool) : RP := pT [pB x.1, pB x.2]
theorem pOut_at {x : Bool × Bool} {H : Hp} {v : V} (h : (pOut x).p H v) : ∃ a, v = .ref a ∧ H a = some (.tup [.bl x.1, .bl x.2]) := by
  obtain ⟨a, vs, rfl, h2, h3⟩ := h
  match vs, h3 with
  | [u, w], h3 =>
    have e1 : u = V.bl _ := h3.1
    have e2 : w = V.bl _ := h3.2.1
    subst e1 e2
    exact ⟨a, rfl, h2⟩
theorem outs_at {l : List (Bool × Bool)} {H : Hp} {vs : List V} {s : Nat} (h : All2 (l.map pOut) H vs) (hs : s < l.length) : ∃ a, atI vs (s : Int) = some (.ref a) ∧ H a = some (.tup [.bl (l.getD s (false, false)).1, .bl (l.getD s (false, false)).2]) := by
  obtain ⟨v, h1, h2⟩ := h.at (i := s) (r := pOut (l.getD s (false, false))) (by rw [List.getElem?_map, List.getElem?_eq_getElem hs, List.getD_eq_getElem?_getD, List.getElem?_eq_getElem hs]; rfl)
  obtain ⟨a, rfl, h3⟩ := pOut_at h2
  exact ⟨a, h1, h3⟩
theorem or_val {ta tb : TE} {σ : L2.St} {H : Hp} {x y : Bool} (ha : ∀ Q : VK, Q (.bl x) H → ta σ H Q) (hb : ∀ Q : VK, Q (.bl y) H → tb σ H Q) (Q : VK) (q : Q (.bl (x || y)) H) : tOrV ta tb σ H Q := by
  refine ha _ ⟨x, rfl, ?_⟩
  cases x with
  | true => exact iteT q
  | false => exact iteF (hb _ q)
def sp_outcomes_of : Sp := fun vs H Q _ => ∃ (v : V) (d s : Nat) (l : List (Bool × Bool)), vs = [.int (d : Int), v, .int (s : Int)] ∧ (pL (l.map pOut)).p H v ∧ s + 1 < l.length ∧ Ret (pOut (outc d l s)) H Q
theorem sc_outcomes_of : FnScope ["decision", "later", "s"] ["decision", "later", "s"] (defScope (topS 17)) := C8.fnScope_by (by decide +kernel)
theorem c_outcomes_of {P : Program} {w : World} {K : PySem.W.Frag} {mg : Str → Option Value} {base : Heap} (T : Txt K mg) : C8.Cal P w K mg base 1 "outcomes_of" sp_outcomes_of [] := by
  refine T.cal 13 13 rfl rfl sc_outcomes_of (fun _ _ _ _ _ _ us hl => match us, hl with | [_, _, _], _ => rfl) (fun vs H Q E h => ?_) (fun cdv A outer s H vs Q E hr h => ⟨_, pss_cons (ps_if (pt_cmp (pc_neI (pv 0) (C8.pe_gc rfl (T.int 94)))) (pss_one (ps_ret (pe_tup (pa_cons (pe_cmp (pc_eqI (pv 0) (C8.pe_gc rfl (T.int 95)))) (pa_cons (pe_cmp (pc_eqI (pv 0) (C8.pe_gc rfl (T.int 96)))) pa_nil))))) (pss_nil))
      (pss_one (ps_ret (pe_tup (pa_cons (pe_or (pe_ix ix_tup (pe_ix ix_list (pv 1) (pv 2) (fun _ _ => rfl)) pe_int (fun _ _ => rfl)) (pe_one (pe_ix ix_tup (pe_ix ix_list (pv 1) (pe_op op_add (pv 2) pe_int) (fun _ _ => rfl)) pe_int (fun _ _ => rfl)))) (pa_cons (pe_or (pe_ix ix_tup (pe_ix ix_list (pv 1) (pv 2) (fun _ _ => rfl)) pe_int (fun _ _ => rfl)) (pe_one (pe_ix ix_tup (pe_ix ix_list (pv 1) (pe_op op_add (pv 2) pe_int) (fun _ _ => rfl)) pe_int (fun _ _ => rfl)))) pa_nil))))), ?_⟩)
  · obtain ⟨v, d, s, l, rfl, _⟩ := h
    rfl
  · obtain ⟨v, d, s, l, rfl, ⟨a, vs, rfl, ha, hvs⟩, hs, k⟩ := h
    refine ⟨_, rfl, _, _, rfl, rfl, _, rfl, ?_⟩
    unfold outc at k
    by_cases z : d = 0
    · refine if_false_of (ne_f (by omega)) ?_
      rw [if_pos z] at k
      obtain ⟨b, g1, g2⟩ := outs_at hvs (s := s) (by omega)
      obtain ⟨c, g3, g4⟩ := outs_at hvs (s := s + 1) hs
      generalize l.getD s (false, false) = x at *
      generalize l.getD (s + 1) (false, false) = y at *
      obtain ⟨x1, x2⟩ := x
      obtain ⟨y1, y2⟩ := y
      cases x1 with
      | true =>
        cases x2 with
        | true => exact ⟨_, rfl, _, rfl, a, _, _, _, rfl, rfl, SqL.of ha, g1, b, _, 0, _, rfl, rfl, SqT.of g2, rfl, _, rfl, iteT ⟨_, rfl, _, rfl, a, _, _, _, rfl, rfl, SqL.of ha, g1, b, _, 1, _, rfl, rfl, SqT.of g2, rfl, _, rfl, iteT ⟨(by show 2 ≤ sizeLine; decide), fun p hp => k _ _ (same_new hp) (pT_mk (new_at hp) ⟨rfl, rfl, trivial⟩)⟩⟩⟩
        | false => exact ⟨_, rfl, _, rfl, a, _, _, _, rfl, rfl, SqL.of ha, g1, b, _, 0, _, rfl, rfl, SqT.of g2, rfl, _, rfl, iteT ⟨_, rfl, _, rfl, a, _, _, _, rfl, rfl, SqL.of ha, g1, b, _, 1, _, rfl, rfl, SqT.of g2, rfl, _, rfl, iteF ⟨_, rfl, _, rfl, _, _, rfl, rfl, a, _, _, _, rfl, rfl, SqL.of ha, g3, c, _, 1, _, rfl, rfl, SqT.of g4, rfl, (by show 2 ≤ sizeLine; decide), fun p hp => k _ _ (same_new hp) (pT_mk (new_at hp) ⟨rfl, rfl, trivial⟩)⟩⟩⟩
      | false =>
        cases x2 with
        | true => exact ⟨_, rfl, _, rfl, a, _, _, _, rfl, rfl, SqL.of ha, g1, b, _, 0, _, rfl, rfl, SqT.of g2, rfl, _, rfl, iteF ⟨_, rfl, _, rfl, _, _, rfl, rfl, a, _, _, _, rfl, rfl, SqL.of ha, g3, c, _, 0, _, rfl, rfl, SqT.of g4, rfl, _, rfl, _, rfl, a, _, _, _, rfl, rfl, SqL.of ha, g1, b, _, 1, _, rfl, rfl, SqT.of g2, rfl, _, rfl, iteT ⟨(by show 2 ≤ sizeLine; decide), fun p hp => k _ _ (same_new hp) (pT_mk (new_at hp) ⟨rfl, rfl, trivial⟩)⟩⟩⟩
        | false => exact ⟨_, rfl, _, rfl, a, _, _, _, rfl, rfl, SqL.of ha, g1, b, _, 0, _, rfl, rfl, SqT.of g2, rfl, _, rfl, iteF ⟨_, rfl, _, rfl, _, _, rfl, rfl, a, _, _, _, rfl, rfl, SqL.of ha, g3, c, _, 0, _, rfl, rfl, SqT.of g4, rfl, _, rfl, _, rfl, a, _, _, _, rfl, rfl, SqL.of ha, g1, b, _, 1, _, rfl, rfl, SqT.of g2, rfl, _, rfl, iteF ⟨_, rfl, _, rfl, _, _, rfl, rfl, a, _, _, _, rfl, rfl, SqL.of ha, g3, c, _, 1, _, rfl, rfl, SqT.of g4, rfl, (by show 2 ≤ sizeLine; decide), fun p hp => k _ _ (same_new hp) (pT_mk (new_at hp) ⟨rfl, rfl, trivial⟩)⟩⟩⟩
    · refine if_true_of (ne_t (by omega)) ?_
      rw [if_neg z] at k
      refine ⟨_, rfl, _, _, rfl, rfl, _, rfl, _, _, rfl, rfl, (by show 2 ≤ sizeLine; decide), fun p hp => ?_⟩
      refine k _ _ (same_new hp) (pT_mk (new_at hp) ⟨?_, ?_, trivial⟩)
      · show V.bl (decide ((d : Int) = 1)) = V.bl (decide (d = 1))
        rw [decide_eq_decide.mpr (show ((d : Int) = 1) ↔ d = 1 by omega)]
      · show V.bl (decide ((d : Int) = 2)) = V.bl (decide (d = 2))
        rw [decide_eq_decide.mpr (show ((d : Int) = 2) ↔ d = 2 by omega)]
def pOuts (l : List (Bool × Bool)) : RP := pL (l.map pOut)
def outRows (p : Kxd7.Plan) (k : Nat) : List (List (Bool × Bool)) := (List.range (k + 1)).map fun j => outRow p (k - j)
theorem outRows_succ (p : Kxd7.Plan) (k : Nat) : outRows p (k + 1) = outRow p (k + 1) :: outRows p k := by
  unfold outRows
  rw [List.range_succ_eq_map, List.map_cons, List.map_map]
  congr 1
  exact List.map_congr_left fun j _ => by
    show outRow p (k + 1 - (j + 1)) = outRow p (k - j)
    rw [Nat.add_sub_add_right]
def sp_outcome_rows : Sp := fun vs H Q _ => ∃ (v : V) (p : Kxd7.Plan), vs = [v] ∧ Lay p ∧ (pPlan p.table).p H v ∧ Ret (pL ((outRows p p.horizon).map pOuts)) H Q
theorem sc_outcome_rows : FnScope ["plan", "found", "decision", "n", "later", "row", "s"] ["plan"] (defScope (topS 18)) := C8.fnScope_by (by decide +kernel)
theorem c_outcome_rows {P : Program} {w : World} {K : PySem.W.Frag} {mg : Str → Option Value} {base : Heap} (T : Txt K mg) : C8.Cal P w K mg base 2 "outcome_rows" sp_outcome_rows [] := by
  refine T.cal 14 14 rfl rfl sc_outcome_rows (fun _ _ _ _ _ _ us hl => match us, hl with | [_], _ => rfl) (fun vs H Q E h => ?_) (fun cdv A outer s H vs Q E hr h => ⟨_, pss_cons (ps_set (i := 1) sc_outcome_rows.nd rfl (Or.inl rfl) (pe_lst (pa_cons (pe_lc (own := [("decision", 2)]) rfl sc_outcome_rows.nd (pi_list (pe_ix ix_list (pv 0) (pe_un un_neg pe_int) (fun _ _ => rfl))) (blkOk_by (N := ["plan", "found", "decision", "n", "later", "row", "s"]) (sc := defScope (topS 18)) (by decide +kernel)) (fun _ _ _ _ _ => by exact pg_name (i := 2) sc_outcome_rows.nd rfl (Or.inl rfl)) (fun _ _ _ _ _ => pts_nil) (fun _ _ _ _ _ => by exact pe_tup (pa_cons (pe_cmp (pc_eqI (pv 2) (C8.pe_gc rfl (T.int 95)))) (pa_cons (pe_cmp (pc_eqI (pv 2) (C8.pe_gc rfl (T.int 96)))) pa_nil)))) pa_nil)))
      (pss_cons (ps_for PassesOwn.never rfl (pi_revR (by rfl) (T.free 86) (prg_1 (by rfl) (T.free 84) (C8.pe_c (c_horizon_of T) hr (by decide) rfl (pa_cons (pv 0) pa_nil)))) (pg_name (i := 3) sc_outcome_rows.nd rfl (Or.inl rfl)) (pss_cons (ps_set (i := 4) sc_outcome_rows.nd rfl (Or.inr rfl) (pe_ix ix_list (pv 1) pe_int (fun _ _ => rfl)))
      (pss_cons (ps_setLc (i := 5) (own := [("s", 6), ("decision", 2)]) (g := gTup K 2 (gCons (gName 6) (gCons (gName 2) gNil))) rfl sc_outcome_rows.nd rfl rfl (sw_true rfl rfl rfl (by decide +kernel)) (pi_enum (by rfl) (T.free 85) (pa_cons (pe_ix ix_list (pv 0) (pv 3) (fun _ _ => rfl)) pa_nil)) (blkOk_by (N := ["plan", "found", "decision", "n", "later", "row", "s"]) (sc := defScope (topS 18)) (by decide +kernel)) (fun _ _ _ _ _ => by exact pg_tup rfl (pgs_cons (pg_name (i := 6) sc_outcome_rows.nd rfl (Or.inl rfl)) (pgs_cons (pg_name (i := 2) sc_outcome_rows.nd rfl (Or.inl rfl)) pgs_nil))) (fun _ _ _ _ _ => pts_nil) (fun _ _ _ _ _ => by exact C8.pe_c (c_outcomes_of T) hr (by decide) rfl (pa_cons (pv 2) (pa_cons (pv 4) (pa_cons (pv 6) pa_nil)))))
      (pss_one (ps_set (i := 1) sc_outcome_rows.nd rfl (Or.inl rfl) (pe_op op_cat (pe_lst (pa_cons (pv 5) pa_nil)) (pv 1)))))))
      (pss_one (ps_ret (pv 1)))), ?_⟩)
  · obtain ⟨v, p, rfl, _⟩ := h
    rfl
  · obtain ⟨v, p, rfl, lay, hv, k⟩ := h
    have h20 := lay.h2
    obtain ⟨a, rows, rfl, ha, hrows⟩ := id hv
    have hrl : rows.length = p.horizon + 1 := by rw [hrows.len, List.length_map, lay.len]
    have row_at : ∀ {H' : Hp}, Same H H' → ∀ n, n ≤ p.horizon → ∃ b, rows[n]? = some (.ref b) ∧ H' b = some (.lst ((p.table.getD n []).map nV)) := fun {H'} e n hn => by
      have hn' : n < p.table.length := by rw [lay.len]; omega
      obtain ⟨x, h1, h2⟩ := hrows.get (i := n) (r := pRow (p.table.getD n [])) (by rw [List.getElem?_map, List.getElem?_eq_getElem hn', List.getD_eq_getElem?_getD, List.getElem?_eq_getElem hn']; rfl)
      obtain ⟨b, rfl, h3⟩ := pRow_at h2
      exact ⟨b, h1, e _ _ h3⟩
    obtain ⟨b, g1, g2⟩ := row_at (Same.refl H) p.horizon (Nat.le_refl _)
    have hlen : ∀ n, n ≤ p.horizon → ((p.table.getD n []).map nV).length = n + 1 := fun n hn => by rw [List.length_map, lay.row n hn]
    have item : ∀ n, n ≤ p.horizon → ∀ s x, ((p.table.getD n []).map nV)[s]? = some x → x = .int ((Kxd7.decision p n s : Nat) : Int) ∧ s ≤ n := fun n hn s x hx => by
      have hs : s < (p.table.getD n []).length := by
        have := (List.getElem?_eq_some_iff.mp hx).1
        rw [List.length_map] at this
        exact this
      have hs2 : s ≤ n := by rw [lay.row n hn] at hs; omega
      refine ⟨?_, hs2⟩
      rw [← dec_getD lay hn hs2 0, List.getD_eq_getElem?_getD, List.getElem?_eq_getElem hs]
      rw [List.getElem?_map, List.getElem?_eq_getElem hs] at hx
      exact (Option.some.inj hx).symm
    refine ⟨_, rfl, _, rfl, a, _, _, _, rfl, rfl, SqL.of ha, atI_neg1 (by rw [hrl]; exact g1), b, rfl, ⟨_, SqL.of g2⟩, ?_⟩
    refine lc_new (walk_list (K := K) (a := b) (xs := (p.table.getD p.horizon []).map nV)) (fun s => pOut (decide (Kxd7.decision p p.horizon s = 1), decide (Kxd7.decision p p.horizon s = 2))) _ (by rw [hlen _ (Nat.le_refl _)]; omega) rfl (fun H' e => SqL.of (e _ _ g2)) ?_ ?_
    · rintro s x Hb H' Q' hs e ⟨rfl, hx⟩ q
      obtain ⟨rfl, hs2⟩ := item _ (Nat.le_refl _) s x hx
      refine ⟨rfl, ?_⟩
      refine ⟨_, rfl, _, _, rfl, rfl, _, rfl, _, _, rfl, rfl, (by show 2 ≤ sizeLine; decide), fun t ht => ?_⟩
      refine q _ _ (same_new ht) (pT_mk (new_at ht) ⟨?_, ?_, trivial⟩)
      · show V.bl (decide (((Kxd7.decision p p.horizon s : Nat) : Int) = 1)) = V.bl (decide (Kxd7.decision p p.horizon s = 1))
        rw [decide_eq_decide.mpr (show (((Kxd7.decision p p.horizon s : Nat) : Int) = 1) ↔ Kxd7.decision p p.horizon s = 1 by omega)]
      · show V.bl (decide (((Kxd7.decision p p.horizon s : Nat) : Int) = 2)) = V.bl (decide (Kxd7.decision p p.horizon s = 2))
        rw [decide_eq_decide.mpr (show (((Kxd7.decision p p.horizon s : Nat) : Int) = 2) ↔ Kxd7.decision p p.horizon s = 2 by omega)]
    · intro c H1 e1 hc
      have hc' : (pOuts (outRow p 0)).p (nw H H1) (.ref c) := by
        unfold pOuts outRow
        rw [hlen _ (Nat.le_refl _)] at hc
        rw [List.map_map]
        exact hc
      refine ⟨(by show 1 ≤ sizeLine; decide), fun f hf => ?_⟩
      have e2 := e1.trans (same_new (o := .lst [.ref c]) hf)
      refine ⟨_, rfl, .ref a, p.table, rfl, (pPlan p.table).mono e2 hv, _, rfl, by decide, by decide, by rw [lay.len]; omega, by rw [lay.len]; omega, ?_⟩
      rw [show ((p.table.length : Int) - 1 - 0).toNat = p.horizon by rw [lay.len]; omega]
      refine for_it walk_rangeC (fun i σ H' => Same H H' ∧ ∃ fv x1 x2 x3 x4 x5, σ = [some (.ref a), some fv, x1, x2, x3, x4, x5] ∧ (pL ((outRows p i).map pOuts)).p (nw H H') fv)
        ⟨e2, _, none, none, none, none, none, rfl, new_lst e1 hf ⟨hc', trivial⟩⟩ (fun _ _ _ _ _ => trivial) ?_ ?_
      · rintro i x σ H2 H3 hi ⟨e3, fv, x1, x2, x3, x4, x5, rfl, hfv⟩ ⟨rfl, hx⟩
        have hx : x = .int ((p.horizon - (i + 1) : Nat) : Int) := hx.trans (congrArg V.int (by omega))
        subst hx
        obtain ⟨d, us, rfl, hd, hus⟩ := id hfv
        have hd' := nw_same _ _ hd
        obtain ⟨o, q1, q2⟩ := hus.at (i := 0) (r := pOuts (outRow p i)) (by unfold outRows; rw [List.range_succ_eq_map, List.map_cons, List.map_cons]; rfl)
        obtain ⟨b2, g3, g4⟩ := row_at e3 (p.horizon - (i + 1)) (by omega)
        refine ⟨_, rfl, d, _, 0, _, rfl, rfl, SqL.of hd', q1, ?_⟩
        refine ⟨_, rfl, _, rfl, a, _, _, _, rfl, rfl, SqL.of (e3 _ _ ha), atI_nat g3, b2, _, rfl, SqL.of g4, ?_⟩
        refine lc_new (walk_enum (K := K) (xs := (p.table.getD (p.horizon - (i + 1)) []).map nV)) (fun s => pOut (outc (Kxd7.decision p (p.horizon - (i + 1)) s) (outRow p i) s)) [some (.ref a), some (.ref d), none, some (.int ((p.horizon - (i + 1) : Nat) : Int)), some o, x4, none] (by rw [hlen _ (by omega)]; omega) rfl (fun H' e => SqL.of (e _ _ g4)) ?_ ?_
        · rintro s x Hb H' Q' hs e ⟨t, y1, y2, rfl, ht, rfl, h1, h2⟩ q
          cases h1
          obtain ⟨rfl, hs2⟩ := item _ (by omega) s y2 h2
          refine ⟨t, _, rfl, SqT.of upd_same, rfl, _, _, rfl, _, _, rfl, rfl, rfl, ?_⟩
          have e5 := same_new (o := .tup [V.int (s : Int), V.int ((Kxd7.decision p (p.horizon - (i + 1)) s : Nat) : Int)]) ht
          refine ⟨_, rfl, _, rfl, _, rfl, o, _, s, outRow p i, rfl, (pOuts (outRow p i)).mono (((nw_same).trans e).trans e5) q2, by rw [outRow_len]; omega, fun v H4 e4 hv4 => ?_⟩
          exact q _ _ (e5.trans e4) ((pOut _).mono (nw_ground e5.dm) hv4)
        · intro c2 H4 e4 hc2
          rw [hlen _ (by omega)] at hc2
          refine ⟨_, rfl, (by show 1 ≤ sizeLine; decide), fun f2 hf2 => ?_⟩
          have e6 := same_new (o := .lst [V.ref c2]) hf2
          have hul : us.length = i + 1 := by rw [hus.len]; simp [outRows]
          refine ⟨_, rfl, f2, d, _, us, rfl, rfl, upd_same, e6 _ _ (e4 _ _ hd'), ?_, fun f3 hf3 => ?_⟩
          · show 1 + us.length ≤ sizeLine
            exact size_le (by omega)
          · have e7 := (e3.trans e4).trans e6
            refine ⟨e7.trans (same_new hf3), _, _, _, _, _, _, rfl, ?_⟩
            rw [outRows_succ, List.map_cons]
            refine new_lst e7 hf3 ⟨?_, hus.mono (nw_more (e4.trans e6))⟩
            have e8 : pOuts (outRow p (i + 1)) = pL ((List.range (p.horizon - (i + 1) + 1)).map fun s => pOut (outc (Kxd7.decision p (p.horizon - (i + 1)) s) (outRow p i) s)) := by
              unfold pOuts
              show pL (((List.range _).map _).map pOut) = _
              rw [List.map_map]
              rfl
            rw [e8]
            exact (pL _).mono (nw_both e3.dm e6) hc2
      · rintro σ H2 ⟨e3, fv, x1, x2, x3, x4, x5, rfl, hfv⟩
        exact ⟨_, rfl, k _ _ e3 hfv⟩
def sp_decided : Sp := fun vs H Q _ => ∃ (v : V) (x : Bool × Bool), vs = [v] ∧ (pOut x).p H v ∧ Q (.int ((decd x : Nat) : Int)) H
theorem sc_decided : FnScope ["outcomes", "accepts", "rejects"] ["outcomes"] (defScope (topS 19)) := C8.fnScope_by (by decide +kernel)
theorem c_decided {P : Program} {w : World} {K : PySem.W.Frag} {mg : Str → Option Value} {base : Heap} (T : Txt K mg) : C8.Cal P w K mg base 1 "decided" sp_decided [] := by
  refine T.cal 15 15 rfl rfl sc_decided (fun _ _ _ _ _ _ us hl => match us, hl with | [_], _ => rfl) (fun vs H Q E h => ?_) (fun cdv A outer s H vs Q E hr h => ⟨_, pss_cons (ps_asg (pv 0) (pg_tup rfl (pgs_cons (pg_name (i := 1) sc_decided.nd rfl (Or.inl rfl)) (pgs_cons (pg_name (i := 2) sc_decided.nd rfl (Or.inl rfl)) pgs_nil))))
      (pss_cons (ps_if (PW.pt (pw_and (pt_val (pv 1)) (pw_and1 (pt_val (pv 2))))) (pss_one (ps_ret (C8.pe_gc rfl (T.int 94)))) (pss_nil))
      (pss_one (ps_ret (pe_ifExp (pt_val (pv 1)) (C8.pe_gc rfl (T.int 95)) (C8.pe_gc rfl (T.int 96)))))), ?_⟩)
  · obtain ⟨v, x, rfl, _⟩ := h
    rfl
  · obtain ⟨v, ⟨x, y⟩, rfl, hv, k⟩ := h
    obtain ⟨a, rfl, ha⟩ := pOut_at hv
    refine ⟨_, rfl, a, _, rfl, SqT.of ha, rfl, _, _, rfl, _, _, rfl, rfl, _, rfl, _, rfl, ?_⟩
    cases x with
    | false => exact iteF (iteF ⟨_, rfl, _, rfl, iteF k⟩)
    | true =>
      cases y with
      | false => exact iteT ⟨_, rfl, _, rfl, iteF ⟨_, rfl, _, rfl, iteT k⟩⟩
      | true => exact iteT ⟨_, rfl, _, rfl, iteT k⟩
/-- the scope of a comprehension that is handed back -/
def lcSc : Stmt → Scope
  | .Return (some (.ListComp _ _ sc _)) _ => sc
  | _ => { kind := .function, names := [], isGenerator := false, isCoroutine := false }
def sp_curtailed : Sp := fun vs H Q _ => ∃ (v : V) (p : Kxd7.Plan), vs = [v] ∧ Wf p ∧ (pPlan p.table).p H v ∧ Ret (pPlan (Kxd7.curtailed p).table) H Q
theorem sc_curtailed : FnScope ["plan", "outcomes", "row"] ["plan"] (defScope (topS 20)) := C8.fnScope_by (by decide +kernel)
theorem c_curtailed {P : Program} {w : World} {K : PySem.W.Frag} {mg : Str → Option Value} {base : Heap} (T : Txt K mg) : C8.Cal P w K mg base 3 "curtailed" sp_curtailed [] := by
  refine T.cal 16 16 rfl rfl sc_curtailed (fun _ _ _ _ _ _ us hl => match us, hl with | [_], _ => rfl) (fun vs H Q E h => ?_) (fun cdv A outer s H vs Q E hr h => ⟨_, pss_one (ps_ret (pe_lc (own := [("row", 2)]) (te := tLc (iList K (tVar 2)) (gName 1) tYes (tCall sp_decided [] E0 (tCons (tVar 1) tNil)) [1]) rfl sc_curtailed.nd (pi_list (C8.pe_c (c_outcome_rows T) hr (by decide) rfl (pa_cons (pv 0) pa_nil))) (blkOk_by (N := ["plan", "outcomes", "row"]) (sc := defScope (topS 20)) (by decide +kernel)) (fun _ _ _ _ _ => by exact pg_name (i := 2) sc_curtailed.nd rfl (Or.inl rfl)) (fun _ _ _ _ _ => pts_nil) (fun _ _ _ _ _ => by exact pe_lc (own := [("outcomes", 1)]) rfl sc_curtailed.nd (pi_list (pv 2)) (blkOk_by (N := ["plan", "outcomes", "row"]) (sc := lcSc ((defBody (topS 20)).getD 0 (.Pass ⟨0, 0, 0, 0⟩))) (by decide +kernel)) (fun _ _ _ _ _ => by exact pg_name (i := 1) sc_curtailed.nd rfl (Or.inl rfl)) (fun _ _ _ _ _ => pts_nil) (fun _ _ _ _ _ => by exact C8.pe_c (c_decided T) hr (by decide) rfl (pa_cons (pv 1) pa_nil))))), ?_⟩)
  · obtain ⟨v, p, rfl, _⟩ := h
    rfl
  · obtain ⟨v, p, rfl, w, hv, k⟩ := h
    have h20 := w.h2
    refine ⟨_, rfl, v, p, rfl, w.lay, hv, fun ov H1 e1 ho => ?_⟩
    obtain ⟨a, us, rfl, ha, hus⟩ := (pL ((outRows p p.horizon).map pOuts)).mono nw_same ho
    have hul : us.length = p.horizon + 1 := by rw [hus.len]; simp [outRows]
    refine ⟨a, rfl, ⟨us, SqL.of ha⟩, ?_⟩
    refine lc_new (walk_list (K := K) (a := a) (xs := us)) (fun n => pRow ((outRow p (p.horizon - n)).map decd)) _ (by omega) rfl (fun H' e => SqL.of (e _ _ ha)) ?_ ?_
    · rintro n x Hb H' Q' hn e ⟨rfl, hx⟩ q
      obtain ⟨r, h1, h2⟩ := hus.item hx
      have er : r = pOuts (outRow p (p.horizon - n)) := by
        unfold outRows at h1
        rw [List.getElem?_map, List.getElem?_map, List.getElem?_range (by omega)] at h1
        exact (Option.some.inj h1).symm
      subst er
      obtain ⟨b, ws, rfl, hb, hws⟩ := (pOuts _).mono e h2
      have hwl : ws.length = n + 1 := by rw [hws.len, List.length_map, outRow_len]; omega
      refine ⟨rfl, _, rfl, b, rfl, ⟨ws, SqL.of hb⟩, ?_⟩
      refine lc_new (walk_list (K := K) (a := b) (xs := ws)) (fun s => nI (decd ((outRow p (p.horizon - n)).getD s (false, false)))) _ (by omega) rfl (fun H' e => SqL.of (e _ _ hb)) ?_ ?_
      · rintro s y Hc H'' Q2 hs e2 ⟨rfl, hy⟩ q2
        obtain ⟨r, h3, h4⟩ := hws.item hy
        have er : r = pOut ((outRow p (p.horizon - n)).getD s (false, false)) := by
          have hsl : s < (outRow p (p.horizon - n)).length := by rw [outRow_len]; omega
          rw [List.getElem?_map, List.getElem?_eq_getElem hsl] at h3
          rw [List.getD_eq_getElem?_getD, List.getElem?_eq_getElem hsl]
          exact (Option.some.inj h3).symm
        subst er
        exact ⟨rfl, _, rfl, _, _, rfl, (pOut _).mono e2 h4, q2 _ _ (Same.refl _) rfl⟩
      · intro c H3 e3 hc
        refine q _ _ e3 ?_
        have e4 : ((outRow p (p.horizon - n)).map decd).map nI = (List.range ws.length).map fun s => nI (decd ((outRow p (p.horizon - n)).getD s (false, false))) := by
          refine List.ext_getElem? fun s => ?_
          by_cases hs : s < ws.length
          · have hsl : s < (outRow p (p.horizon - n)).length := by rw [outRow_len]; omega
            rw [List.getElem?_map, List.getElem?_map, List.getElem?_eq_getElem hsl, List.getElem?_map, List.getElem?_range hs, Option.map_some, Option.map_some, Option.map_some, List.getD_eq_getElem?_getD, List.getElem?_eq_getElem hsl]
            rfl
          · rw [List.getElem?_eq_none (by simp [outRow_len]; omega), List.getElem?_eq_none (by simp; omega)]
        unfold pRow
        rw [e4]
        exact hc
    · intro c H3 e3 hc
      refine k _ _ (e1.trans e3) ?_
      rw [curtailed_table w]
      unfold pPlan
      rw [List.map_map, ← hul]
      exact (pL _).mono (nw_ground e1.dm) hc
end SE
/-! ## plans that are changed while they are made -/
namespace SE
open PySem PySem.Spec PyProof.Rows L2
theorem All2.put {H : Hp} {r : RP} {v : V} (q : r.p H v) : ∀ {rs : List RP} {vs : List V} (i : Nat), All2 rs H vs → All2 (rs.set i r) H (vs.set i v)
  | [], [], _, _ => trivial
  | _ :: _, _ :: _, 0, h => ⟨q, h.2⟩
  | _ :: _, _ :: _, i + 1, h => ⟨h.1, All2.put q i h.2⟩
  | [], _ :: _, _, h => h.elim
  | _ :: _, [], _, h => h.elim
/-- rows of whole numbers are not the list that holds them -/
theorem rows_apart {t : List (List Nat)} {G : Hp} {a : Addr} {us : List V} (ha : G a = some (.lst us)) (hn : 0 < us.length) (h : All2 (t.map pRow) G us) : All2 (t.map pRow) (wo a G) us := by
  have key : ∀ (l : List (List Nat)) (ws : List V), All2 (l.map pRow) G ws → All2 (l.map pRow) (wo a G) ws := by
    intro l
    induction l with
    | nil =>
      intro ws hw
      cases ws with
      | nil => trivial
      | cons _ _ => exact hw.elim
    | cons r l ih =>
      intro ws hw
      cases ws with
      | nil => exact hw.elim
      | cons w ws =>
        refine ⟨?_, ih ws hw.2⟩
        obtain ⟨b, rfl, hb⟩ := pRow_at hw.1
        refine pRow_mk ?_
        rw [wo_ne]
        · exact hb
        · intro e
          subst e
          rw [ha] at hb
          have e2 : us = r.map nV := by injection hb with hb; injection hb
          obtain ⟨x, hx⟩ : ∃ x, us[0]? = some x := ⟨us[0], List.getElem?_eq_getElem hn⟩
          obtain ⟨rp, h1, h2⟩ := h.item hx
          rw [List.getElem?_map] at h1
          cases q : t[0]? with
          | none => rw [q] at h1; cases h1
          | some row =>
            rw [q] at h1
            cases h1
            obtain ⟨c, rfl, _⟩ := pRow_at h2
            rw [e2, List.getElem?_map] at hx
            cases q2 : r[0]? with
            | none => rw [q2] at hx; cases hx
            | some y => rw [q2] at hx; cases hx
  exact key t us h
def sp_two_stage_plan : Sp := fun vs H Q _ => ∃ h n1 r1 r : Nat, vs = [.int (h : Int), .int (n1 : Int), .int (r1 : Int), .int (r : Int)] ∧ h ≤ 20 ∧ n1 < h ∧ Ret (pPlan (Kxd7.fromRule h (Kxd7.twoStageRule n1 r1 h r)).table) H Q
theorem sc_two_stage_plan : FnScope ["horizon", "first", "first_limit", "limit", "found", "s"] ["horizon", "first", "first_limit", "limit"] (defScope (topS 9)) := C8.fnScope_by (by decide +kernel)
theorem c_two_stage_plan {P : Program} {w : World} {K : PySem.W.Frag} {mg : Str → Option Value} {base : Heap} (T : Txt K mg) : C8.Cal P w K mg base 3 "two_stage_plan" sp_two_stage_plan [] := by
  refine T.cal 5 5 rfl rfl sc_two_stage_plan (fun _ _ _ _ _ _ us hl => match us, hl with | [_, _, _, _], _ => rfl) (fun vs H Q E h => ?_) (fun cdv A outer s H vs Q E hr h => ⟨_, pss_cons (ps_set (i := 4) sc_two_stage_plan.nd rfl (Or.inl rfl) (C8.pe_c (c_single_plan T) hr (by decide) rfl (pa_cons (pv 0) (pa_cons (pv 3) pa_nil))))
      (pss_cons (ps_asg (pe_lc (own := [("s", 5)]) rfl sc_two_stage_plan.nd (pi_range1 (by rfl) (T.free 84) (pa_cons (pe_op op_add (pv 1) pe_int) pa_nil)) (blkOk_by (N := ["horizon", "first", "first_limit", "limit", "found", "s"]) (sc := defScope (topS 9)) (by decide +kernel)) (fun _ _ _ _ _ => by exact pg_name (i := 5) sc_two_stage_plan.nd rfl (Or.inl rfl)) (fun _ _ _ _ _ => pts_nil) (fun _ _ _ _ _ => by exact pe_ifExp (pt_cmp (pc_le (pv 5) (pv 2))) (C8.pe_gc rfl (T.int 95)) (C8.pe_gc rfl (T.int 94)))) (pg_sub (pv 4) (pv 1) set_list))
      (pss_one (ps_ret (pv 4)))), ?_⟩)
  · obtain ⟨h, n1, r1, r, rfl, _⟩ := h
    rfl
  · obtain ⟨h, n1, r1, r, rfl, hh, hn, k⟩ := h
    refine ⟨_, rfl, _, rfl, h, r, rfl, hh, fun v H1 e1 hv => ?_⟩
    obtain ⟨a, us, rfl, ha, hus⟩ := id hv
    have hul : us.length = h + 1 := by rw [hus.len]; simp [Kxd7.fromRule]
    have hus2 := rows_apart ha (by omega) hus
    refine ⟨_, rfl, _, _, rfl, rfl, _, rfl, by omega, by omega, ?_⟩
    rw [show ((n1 : Int) + 1).toNat = n1 + 1 by omega]
    refine lc_new walk_range (fun s => nI (if s ≤ r1 then 1 else 0)) _ (by omega) rfl (fun _ _ => trivial) ?_ ?_
    · rintro i x Hb H' Q' hi e ⟨rfl, rfl⟩ q
      refine ⟨rfl, _, rfl, _, rfl, _, _, rfl, rfl, _, rfl, ?_⟩
      by_cases z : i ≤ r1
      · refine if_true_of (decide_eq_true (by omega)) (q _ _ (Same.refl _) ?_)
        rw [if_pos z]
        rfl
      · refine if_false_of (decide_eq_false (by omega)) (q _ _ (Same.refl _) ?_)
        rw [if_neg z]
        rfl
    · intro c H2 e2 hc
      have ha1 := (of_nw ha).2
      refine ⟨_, rfl, _, rfl, a, us, _, n1, rfl, rfl, e2 _ _ ha1, ixN_nat (by omega), ?_⟩
      have ha0 := (of_nw ha).1
      refine ⟨_, rfl, k _ _ ((e1.trans e2).mut ha0) ?_⟩
      rw [two_stage_table hn]
      refine ⟨a, _, rfl, by rw [nw_of ha0, upd_same], ?_⟩
      rw [List.map_set]
      have hw : Same (wo a (nw H H1)) (nw H (upd H2 a (.lst (us.set n1 (.ref c))))) := fun b o q => by
        obtain ⟨q1, q2⟩ := of_wo q
        obtain ⟨q3, q4⟩ := of_nw q2
        rw [nw_of q3, upd_ne q1]
        exact e2 _ _ q4
      refine All2.put ?_ n1 (hus2.mono hw)
      have e3 : pRow ((List.range (n1 + 1)).map fun s => if s ≤ r1 then 1 else 0) = pL ((List.range (n1 + 1)).map fun s => nI (if s ≤ r1 then 1 else 0)) := by
        unfold pRow
        rw [List.map_map]
        rfl
      rw [e3]
      refine (pL _).mono (fun b o q => ?_) hc
      obtain ⟨q1, q2⟩ := of_nw q
      rw [nw_of (e1.free q1), upd_ne (fun z : b = a => by rw [z, ha1] at q1; cases q1)]
      exact q2
def sp_with_decision : Sp := fun vs H Q _ => ∃ (v : V) (p : Kxd7.Plan) (n s d : Nat), vs = [v, .int (n : Int), .int (s : Int), .int (d : Int)] ∧ Lay p ∧ (pPlan p.table).p H v ∧ n ≤ p.horizon ∧ s ≤ n ∧ Ret (pPlan (p.table.set n ((p.table.getD n []).set s d))) H Q
theorem sc_with_decision : FnScope ["plan", "n", "s", "decision", "found", "row"] ["plan", "n", "s", "decision"] (defScope (topS 10)) := C8.fnScope_by (by decide +kernel)
theorem c_with_decision {P : Program} {w : World} {K : PySem.W.Frag} {mg : Str → Option Value} {base : Heap} (T : Txt K mg) : C8.Cal P w K mg base 1 "with_decision" sp_with_decision [] := by
  refine T.cal 6 6 rfl rfl sc_with_decision (fun _ _ _ _ _ _ us hl => match us, hl with | [_, _, _, _], _ => rfl) (fun vs H Q E h => ?_) (fun cdv A outer s H vs Q E hr h => ⟨_, pss_cons (ps_setLc (i := 4) (own := [("row", 5)]) (te := tCB (fun xs H Q => ∃ p ys, xs = [.ref p] ∧ (SqL K H p ys ∨ SqT K H p ys) ∧ ∀ l, H l = none → Q (.ref l) (upd H l (.lst ys))) (tCons (tVar 5) tNil)) rfl sc_with_decision.nd rfl rfl (sw_true rfl rfl rfl (by decide +kernel)) (pi_list (pv 0)) (blkOk_by (N := ["plan", "n", "s", "decision", "found", "row"]) (sc := defScope (topS 10)) (by decide +kernel)) (fun _ _ _ _ _ => by exact pg_name (i := 5) sc_with_decision.nd rfl (Or.inl rfl)) (fun _ _ _ _ _ => pts_nil) (fun _ _ _ _ _ => by exact pe_callTy call_list_of (by rfl) (T.free 91) (by decide +kernel) (pa_cons (pv 5) pa_nil)))
      (pss_cons (ps_asg (pv 3) (pg_sub (pe_ix ix_list (pv 4) (pv 1) (fun _ _ => rfl)) (pv 2) set_list))
      (pss_one (ps_ret (pv 4)))), ?_⟩)
  · obtain ⟨v, p, n, s, d, rfl, _⟩ := h
    rfl
  · obtain ⟨v, p, n, s, d, rfl, lay, ⟨a, rows, rfl, ha, hrows⟩, hn, hs, k⟩ := h
    have h20 := lay.h2
    have hrl : rows.length = p.table.length := by rw [hrows.len, List.length_map]
    have htl := lay.len
    refine ⟨_, rfl, a, rfl, ⟨rows, SqL.of ha⟩, fun D hD => ?_⟩
    refine lc_it (tt := tYes) (walk_list (K := K) (a := a) (xs := rows)) (fun i H' => Same H H' ∧ ∃ bs : List Addr, H' D = some (.lst (bs.map V.ref)) ∧ bs.length = i ∧ bs.Nodup ∧ ∀ j b, bs[j]? = some b → H b = none ∧ b ≠ D ∧ H' b = some (.lst ((p.table.getD j []).map nV)))
      ⟨same_new hD, [], upd_same, rfl, List.nodup_nil, fun j b e => by simp at e⟩ (fun i H' _ q => SqL.of (q.1 _ _ ha)) ?_ ?_
    · rintro i x Hb H' hi ⟨e1, bs, hb, hl, nd, hall⟩ ⟨rfl, hx⟩
      obtain ⟨r, h1, h2⟩ := hrows.item hx
      have er : r = pRow (p.table.getD i []) := by
        rw [List.getElem?_map, List.getElem?_eq_getElem (by omega)] at h1
        rw [List.getD_eq_getElem?_getD, List.getElem?_eq_getElem (by omega)]
        exact (Option.some.inj h1).symm
      subst er
      obtain ⟨c, rfl, hc⟩ := pRow_at h2
      refine ⟨rfl, _, rfl, c, _, rfl, .inl (SqL.of (e1 _ _ hc)), fun l hl2 => ?_⟩
      have e2 := same_new (o := .lst ((p.table.getD i []).map nV)) hl2
      refine ⟨_, e2 _ _ hb, size_lt (by rw [List.length_map]; omega), (e1.trans e2).mut hD, bs ++ [l], ?_, by rw [List.length_append, hl]; rfl, ?_, fun j b e => ?_⟩
      · rw [upd_same, List.map_append]
        rfl
      · rw [List.nodup_append]
        refine ⟨nd, by simp, fun b hb2 c2 hc2 => ?_⟩
        rw [List.mem_singleton] at hc2
        subst hc2
        intro e
        subst e
        obtain ⟨j, hj⟩ := List.mem_iff_getElem?.mp hb2
        obtain ⟨_, _, q⟩ := hall j b hj
        rw [q] at hl2
        cases hl2
      · by_cases hj : j < bs.length
        · rw [List.getElem?_append_left hj] at e
          obtain ⟨q1, q2, q3⟩ := hall j b e
          exact ⟨q1, q2, by rw [upd_ne q2]; exact e2 _ _ q3⟩
        · rw [List.getElem?_append_right (by omega)] at e
          have hj0 : j - bs.length = 0 := by
            have := (List.getElem?_eq_some_iff.mp e).1
            simp at this
            omega
          rw [hj0] at e
          have e' : l = b := Option.some.inj e
          subst e'
          have hlD : l ≠ D := fun z => by rw [z, hb] at hl2; cases hl2
          refine ⟨e1.free hl2, hlD, ?_⟩
          rw [upd_ne hlD, upd_same, show j = i by omega]
    · rintro H1 ⟨e1, bs, hb, hl, nd, hall⟩
      have hbn : n < bs.length := by omega
      obtain ⟨b, hbb⟩ : ∃ b, bs[n]? = some b := ⟨_, List.getElem?_eq_getElem hbn⟩
      obtain ⟨q1, q2, q3⟩ := hall n b hbb
      have hs2 : s < ((p.table.getD n []).map nV).length := by rw [List.length_map, lay.row n hn]; omega
      refine ⟨_, rfl, _, rfl, _, rfl, D, _, _, .ref b, rfl, rfl, SqL.of hb, atI_nat (by rw [List.getElem?_map, hbb]; rfl), _, rfl, b, _, _, s, rfl, rfl, q3, ixN_nat hs2, ?_⟩
      refine ⟨_, rfl, k _ _ (e1.mut q1) ⟨D, bs.map V.ref, rfl, by rw [nw_of hD, upd_ne (Ne.symm q2)]; exact hb, ?_⟩⟩
      have fin : ∀ (m : Nat) (cs : List Addr) (t : List (List Nat)), cs.length = t.length → (∀ j c, cs[j]? = some c → H c = none ∧ (upd H1 b (.lst (((p.table.getD n []).map nV).set s (.int (d : Int))))) c = some (.lst ((t.getD j []).map nV))) → All2 (t.map pRow) (nw H (upd H1 b (.lst (((p.table.getD n []).map nV).set s (.int (d : Int)))))) (cs.map V.ref) := by
        intro m cs
        induction cs with
        | nil =>
          intro t ht _
          cases t with
          | nil => trivial
          | cons _ _ => simp at ht
        | cons c cs ih =>
          intro t ht hc
          cases t with
          | nil => simp at ht
          | cons r t =>
            refine ⟨?_, ih t (by simpa using ht) fun j c2 e => ?_⟩
            · obtain ⟨z1, z2⟩ := hc 0 c rfl
              exact pRow_mk (by rw [nw_of z1]; exact z2)
            · have := hc (j + 1) c2 (by simpa using e)
              simpa using this
      refine fin 0 bs _ (by rw [List.length_set]; omega) fun j c e => ?_
      obtain ⟨z1, z2, z3⟩ := hall j c e
      refine ⟨z1, ?_⟩
      by_cases hj : j = n
      · subst hj
        rw [hbb] at e
        cases e
        rw [upd_same, List.getD_eq_getElem?_getD (l := p.table.set j _), List.getElem?_set_self (by omega)]
        show some (HO.lst _) = some (HO.lst (List.map nV (List.set _ s d)))
        rw [List.map_set]
      · have hcb : c ≠ b := fun z => by
          subst z
          exact hj (nd_ix nd e hbb)
        rw [upd_ne hcb, z3, List.getD_eq_getElem?_getD (l := p.table.set n _), List.getElem?_set_ne (Ne.symm hj), ← List.getD_eq_getElem?_getD]
end SE
/-! ## probabilities of plans -/
namespace SE
open PySem PySem.Spec PyProof.Rows L2
/-- a stop with a weight -/
def wtT (p : Kxd7.Plan) (wt : Nat → Nat → Int) (z : Nat × Nat) : RP := pT [nI z.1, nI z.2, nI (Kxd7.paths p z.1 z.2), pI (wt z.1 z.2)]
theorem pT4_at {a b c d : Int} {H : Hp} {v : V} (h : (pT [pI a, pI b, pI c, pI d]).p H v) : ∃ x, v = .ref x ∧ H x = some (.tup [.int a, .int b, .int c, .int d]) := by
  obtain ⟨x, vs, rfl, h2, h3⟩ := h
  match vs, h3 with
  | [u1, u2, u3, u4], h3 =>
    have e1 : u1 = V.int _ := h3.1
    have e2 : u2 = V.int _ := h3.2.1
    have e3 : u3 = V.int _ := h3.2.2.1
    have e4 : u4 = V.int _ := h3.2.2.2.1
    subst e1 e2 e3 e4
    exact ⟨x, rfl, h2⟩
/-- the sum over the first ones -/
def wTerm (p : Kxd7.Plan) (P d : Int) (wt : Nat → Nat → Int) (z : Nat × Nat) : Int := (Kxd7.paths p z.1 z.2 : Int) * (wt z.1 z.2 * (chn P d z.1 z.2 * d ^ (p.horizon - z.1)))
theorem take_more {α : Type} {l : List α} {i : Nat} {x : α} (h : l[i]? = some x) : l.take (i + 1) = l.take i ++ [x] := by
  rw [List.take_add_one, h]
  rfl
theorem chn_nonneg {P d : Int} (h0 : 0 ≤ P) (h1 : P ≤ d) (n s : Nat) : 0 ≤ chn P d n s := Int.mul_nonneg (Int.pow_nonneg h0) (Int.pow_nonneg (by omega))
theorem wsum_nonneg {p : Kxd7.Plan} {P d : Int} {wt : Nat → Nat → Int} (h0 : 0 ≤ P) (h1 : P ≤ d) (hw : ∀ n s, 0 ≤ wt n s) : 0 ≤ wsum p P d wt := by
  unfold wsum
  generalize Kxd7.stops p = l
  induction l with
  | nil => exact Int.le_refl 0
  | cons z l ih =>
    rw [List.map_cons, List.sum_cons]
    have : 0 ≤ (Kxd7.paths p z.1 z.2 : Int) * (wt z.1 z.2 * (chn P d z.1 z.2 * d ^ (p.horizon - z.1))) :=
      Int.mul_nonneg (by omega) (Int.mul_nonneg (hw _ _) (Int.mul_nonneg (chn_nonneg h0 h1 _ _) (Int.pow_nonneg (by omega))))
    omega
theorem chn_lt {P d : Int} (h0 : 0 ≤ P) (h1 : P ≤ d) (h2 : d ≤ 1000) {n s : Nat} (hs : s ≤ n) (hn : n ≤ 20) : Lt2 900 (chn P d n s) := by
  have a := (Lt2.pow (small_lt h0 (by omega)) s).mul (Lt2.pow (small_lt (by omega : 0 ≤ d - P) (by omega)) (n - s))
  refine a.mono ?_
  have e1 : 20 * s ≤ 20 * 20 := Nat.mul_le_mul_left _ (by omega)
  have e2 : 20 * (n - s) ≤ 20 * 20 := Nat.mul_le_mul_left _ (by omega)
  omega
theorem dpow_lt {d : Int} (h0 : 0 ≤ d) (h2 : d ≤ 1000) {n : Nat} (hn : n ≤ 20) : Lt2 500 (d ^ n) := by
  refine (Lt2.pow (small_lt h0 h2) n).mono ?_
  have e1 : 20 * n ≤ 20 * 20 := Nat.mul_le_mul_left _ (by omega)
  omega
theorem paths_lt (p : Kxd7.Plan) {n : Nat} (s : Nat) (hn : n ≤ 20) : Lt2 21 ((Kxd7.paths p n s : Nat) : Int) := by
  have h := paths_le p n s
  have h2 : 2 ^ n ≤ 2 ^ 20 := Nat.pow_le_pow_right (by decide) hn
  unfold Lt2
  rw [Int.natAbs_natCast]
  exact Nat.lt_of_le_of_lt (Nat.le_trans h h2) (by decide)
def sp_weighted : Sp := fun vs H Q _ => ∃ (v u : V) (p : Kxd7.Plan) (P d : Int) (wt : Nat → Nat → Int), vs = [v, .int P, .int d, u] ∧ Lay p ∧ (pPlan p.table).p H v ∧ 0 ≤ P ∧ P ≤ d ∧ 0 < d ∧ d ≤ 1000 ∧
  (∀ n s, n ≤ 20 → 0 ≤ wt n s ∧ wt n s ≤ 1000) ∧ (∀ n s, 0 ≤ wt n s) ∧ (pL ((Kxd7.stops p).map (wtT p wt))).p H u ∧ Ret (pF (Kxd7.fraction (wsum p P d wt) (d ^ p.horizon))) H Q
theorem sc_weighted : FnScope ["plan", "p", "divisor", "stops", "total", "most", "n", "s", "many", "weight"] ["plan", "p", "divisor", "stops"] (defScope (topS 29)) := C8.fnScope_by (by decide +kernel)
theorem c_weighted {P : Program} {w : World} {K : PySem.W.Frag} {mg : Str → Option Value} {base : Heap} (T : Txt K mg) : C8.Cal P w K mg base 3 "weighted" sp_weighted [] := by
  refine T.cal 23 23 rfl rfl sc_weighted (fun _ _ _ _ _ _ us hl => match us, hl with | [_, _, _, _], _ => rfl) (fun vs H Q E h => ?_) (fun cdv A outer s H vs Q E hr h => ⟨_, pss_cons (ps_par (i := 4) (j := 5) rfl sc_weighted.nd rfl rfl (by decide) rfl rfl (pa_cons pe_int (pa_cons (C8.pe_c (c_horizon_of T) hr (by decide) rfl (pa_cons (pv 0) pa_nil)) pa_nil)) (by rfl))
      (pss_cons (ps_for PassesOwn.never rfl (pi_list (pv 3)) (pg_tup rfl (pgs_cons (pg_name (i := 6) sc_weighted.nd rfl (Or.inl rfl)) (pgs_cons (pg_name (i := 7) sc_weighted.nd rfl (Or.inl rfl)) (pgs_cons (pg_name (i := 8) sc_weighted.nd rfl (Or.inl rfl)) (pgs_cons (pg_name (i := 9) sc_weighted.nd rfl (Or.inl rfl)) pgs_nil))))) (pss_one (ps_set (i := 4) sc_weighted.nd rfl (Or.inl rfl) (pe_op op_add (pv 4) (pe_op op_mulW (pe_op op_mulW (pe_op op_mulW (pv 9) (pv 8)) (C8.pe_c (c_chance T) hr (by decide) rfl (pa_cons (pv 1) (pa_cons (pv 2) (pa_cons (pv 6) (pa_cons (pv 7) pa_nil)))))) (C8.pe_c (c_power T) hr (by decide) rfl (pa_cons (pv 2) (pa_cons (pe_op op_sub (pv 5) (pv 6)) pa_nil))))))))
      (pss_one (ps_ret (C8.pe_c (c_ratio T) hr (by decide) rfl (pa_cons (pv 4) (pa_cons (C8.pe_c (c_power T) hr (by decide) rfl (pa_cons (pv 2) (pa_cons (pv 5) pa_nil))) pa_nil)))))), ?_⟩)
  · obtain ⟨v, u, p, P, d, wt, rfl, _⟩ := h
    rfl
  · obtain ⟨v, u, p, P, d, wt, rfl, lay, hv, h0, h1, h2, h3, hw, hw0, ⟨b, us, rfl, hb, hus⟩, k⟩ := h
    have h20 := lay.h2
    have htl := lay.len
    refine ⟨_, rfl, v, p.table, rfl, hv, _, _, rfl, ?_⟩
    refine ⟨_, rfl, b, rfl, ⟨us, SqL.of hb⟩, for_it (walk_list (K := K) (a := b) (xs := us)) (fun i σ H' => H' = H ∧ ∃ x1 x2 x3 x4, σ = [some v, some (.int P), some (.int d), some (.ref b), some (.int (((Kxd7.stops p).take i).map (wTerm p P d wt)).sum), some (.int ((p.table.length : Int) - 1)), x1, x2, x3, x4])
      ⟨rfl, none, none, none, none, rfl⟩ (fun i σ H' _ q => by rw [q.1]; exact SqL.of hb) ?_ ?_⟩
    · rintro i x σ H1 H2 hi ⟨rfl, x1, x2, x3, x4, rfl⟩ ⟨rfl, hx⟩
      obtain ⟨r, g1, g2⟩ := hus.item hx
      rw [List.getElem?_map] at g1
      cases hz : (Kxd7.stops p)[i]? with
      | none => rw [hz] at g1; cases g1
      | some z =>
        rw [hz] at g1
        cases g1
        obtain ⟨t, rfl, ht⟩ := pT4_at g2
        obtain ⟨m1, m2, _, _⟩ := mem_stops (List.mem_of_getElem? hz)
        obtain ⟨w0, w1⟩ := hw z.1 z.2 (by omega)
        have c1 := chn_lt h0 h1 h3 m2 (by omega : z.1 ≤ 20)
        have c2 := dpow_lt (Int.le_of_lt h2) h3 (by omega : p.horizon - z.1 ≤ 20)
        have c3 := paths_lt p z.2 (by omega : z.1 ≤ 20)
        have c4 := small_lt w0 w1
        refine ⟨t, _, rfl, SqT.of ht, rfl, _, _, rfl, _, _, rfl, _, _, rfl, _, _, rfl, rfl, ?_⟩
        refine ⟨_, rfl, _, rfl, _, rfl, _, _, rfl, rfl, c4.mulW c3 (by decide), ?_⟩
        refine ⟨_, rfl, _, rfl, _, rfl, _, rfl, P, d, z.1, z.2, rfl, h0, h1, h3, m2, by omega, ?_⟩
        refine ⟨_, _, rfl, rfl, (c4.mul c3).mulW c1 (by decide), ?_⟩
        refine ⟨_, rfl, _, rfl, _, rfl, _, _, rfl, rfl, d, p.horizon - z.1, ?_, small_lt (Int.le_of_lt h2) h3, by omega, ?_⟩
        · exact congrArg (fun y : Int => [V.int d, V.int y]) (show (p.table.length : Int) - 1 - (z.1 : Int) = ((p.horizon - z.1 : Nat) : Int) by omega)
        · refine ⟨_, _, rfl, rfl, ((c4.mul c3).mul c1).mulW c2 (by decide), _, _, rfl, rfl, rfl, some (.int z.1), some (.int z.2), some (.int (Kxd7.paths p z.1 z.2 : Nat)), some (.int (wt z.1 z.2)), ?_⟩
          rw [take_more hz, List.map_append, List.sum_append]
          have e : wt z.1 z.2 * ((Kxd7.paths p z.1 z.2 : Nat) : Int) * (P ^ z.2 * (d - P) ^ (z.1 - z.2)) * d ^ (p.horizon - z.1) = ([z].map (wTerm p P d wt)).sum := by
            show _ = wTerm p P d wt z + 0
            unfold wTerm chn
            grind
          rw [← e]
          rfl
    · rintro σ H1 ⟨rfl, x1, x2, x3, x4, rfl⟩
      have hl : us.length = (Kxd7.stops p).length := by rw [hus.len, List.length_map]
      rw [hl, List.take_length]
      refine ⟨_, rfl, _, rfl, _, rfl, d, p.horizon, ?_, small_lt (Int.le_of_lt h2) h3, by omega, ?_⟩
      · rw [show (p.table.length : Int) - 1 = (p.horizon : Int) by omega]
        rfl
      · exact ⟨_, _, rfl, wsum_nonneg h0 h1 hw0, Int.pow_pos h2, (dpow_lt (Int.le_of_lt h2) h3 h20).mono (by decide), k⟩
/-- a share and a plan as arguments -/
structure Share (P d : Nat) : Prop where
  le : P ≤ d
  pos : 1 ≤ d
  most : d ≤ 1000
def sp_acceptance : Sp := fun vs H Q _ => ∃ (v : V) (p : Kxd7.Plan) (P d : Nat), vs = [v, .int (P : Int), .int (d : Int)] ∧ Lay p ∧ (pPlan p.table).p H v ∧ Share P d ∧ Ret (pF (Kxd7.acceptance p (Kxd7.share P d))) H Q
theorem stops_item {p : Kxd7.Plan} {H : Hp} {us : List V} {i : Nat} {x : V} (h : All2 ((Kxd7.stops p).map (stT p)) H us) (hx : us[i]? = some x) :
    ∃ z, (Kxd7.stops p)[i]? = some z ∧ ∃ t, x = .ref t ∧ H t = some (.tup [.int (z.1 : Int), .int (z.2 : Int), .int ((Kxd7.paths p z.1 z.2 : Nat) : Int), .int ((Kxd7.decision p z.1 z.2 : Nat) : Int)]) := by
  obtain ⟨r, g1, g2⟩ := h.item hx
  rw [List.getElem?_map] at g1
  cases hz : (Kxd7.stops p)[i]? with
  | none => rw [hz] at g1; cases g1
  | some z =>
    rw [hz] at g1
    cases g1
    obtain ⟨t, h1, h2⟩ := pT4_at g2
    exact ⟨z, rfl, t, h1, h2⟩
/-- a list of shapes told by place is the list of them -/
theorem map_getD {α β : Type} [Inhabited α] (f : α → β) (l : List α) : (List.range l.length).map (fun i => f (l.getD i default)) = l.map f := by
  refine List.ext_getElem? fun i => ?_
  by_cases h : i < l.length
  · rw [List.getElem?_map, List.getElem?_range h, List.getElem?_map, List.getElem?_eq_getElem h, Option.map_some, Option.map_some, List.getD_eq_getElem?_getD, List.getElem?_eq_getElem h]
    rfl
  · rw [List.getElem?_eq_none (by simp; omega), List.getElem?_eq_none (by simp; omega)]
theorem share_frac {P d : Nat} (h : 1 ≤ d) : Is (Kxd7.share P d) (P : Int) (d : Int) := is_share h
theorem int_bool {a b : Nat} : decide ((a : Int) = (b : Int)) = decide (a = b) := decide_eq_decide.mpr (by omega)
theorem sc_acceptance : FnScope ["plan", "p", "divisor", "rows", "n", "s", "many", "decision"] ["plan", "p", "divisor"] (defScope (topS 30)) := C8.fnScope_by (by decide +kernel)
theorem c_acceptance {P : Program} {w : World} {K : PySem.W.Frag} {mg : Str → Option Value} {base : Heap} (T : Txt K mg) : C8.Cal P w K mg base 5 "acceptance" sp_acceptance [] := by
  refine T.cal 24 24 rfl rfl sc_acceptance (fun _ _ _ _ _ _ us hl => match us, hl with | [_, _, _], _ => rfl) (fun vs H Q E h => ?_) (fun cdv A outer s H vs Q E hr h => ⟨_, pss_cons (ps_setLc (i := 3) (own := [("n", 4), ("s", 5), ("many", 6), ("decision", 7)]) (g := gTup K 4 (gCons (gName 4) (gCons (gName 5) (gCons (gName 6) (gCons (gName 7) gNil))))) rfl sc_acceptance.nd rfl rfl (sw_true rfl rfl rfl (by decide +kernel)) (pi_list (C8.pe_c (c_stops_of T) hr (by decide) rfl (pa_cons (pv 0) pa_nil))) (blkOk_by (N := ["plan", "p", "divisor", "rows", "n", "s", "many", "decision"]) (sc := defScope (topS 30)) (by decide +kernel)) (fun _ _ _ _ _ => by exact pg_tup rfl (pgs_cons (pg_name (i := 4) sc_acceptance.nd rfl (Or.inl rfl)) (pgs_cons (pg_name (i := 5) sc_acceptance.nd rfl (Or.inl rfl)) (pgs_cons (pg_name (i := 6) sc_acceptance.nd rfl (Or.inl rfl)) (pgs_cons (pg_name (i := 7) sc_acceptance.nd rfl (Or.inl rfl)) pgs_nil))))) (fun _ _ _ _ _ => pts_nil) (fun _ _ _ _ _ => by exact pe_tup (pa_cons (pv 4) (pa_cons (pv 5) (pa_cons (pv 6) (pa_cons (pe_callTy call_int1 (by rfl) (T.free 87) (by decide +kernel) (pa_cons (pe_cmp (pc_eqI (pv 7) (C8.pe_gc rfl (T.int 95)))) pa_nil)) pa_nil))))))
      (pss_one (ps_ret (C8.pe_c (c_weighted T) hr (by decide) rfl (pa_cons (pv 0) (pa_cons (pv 1) (pa_cons (pv 2) (pa_cons (pv 3) pa_nil))))))), ?_⟩)
  · obtain ⟨v, p, P, d, rfl, _⟩ := h
    rfl
  · obtain ⟨v, p, P, d, rfl, lay, hv, sh, k⟩ := h
    have hsl := stops_len lay.h2
    rw [(acceptance_is (share_frac sh.pos) p).frac] at k
    refine ⟨_, rfl, v, p, rfl, lay, hv, fun sv H1 e1 hsv => ?_⟩
    obtain ⟨b, us, rfl, hb, hus⟩ := (pStops p).mono nw_same hsv
    have hl : us.length = (Kxd7.stops p).length := by rw [hus.len, List.length_map]
    refine ⟨b, rfl, ⟨us, SqL.of hb⟩, ?_⟩
    refine lc_new (walk_list (K := K) (a := b) (xs := us)) (fun i => wtT p (fun n s => if Kxd7.decision p n s = 1 then 1 else 0) ((Kxd7.stops p).getD i default)) [some v, some (.int (P : Int)), some (.int (d : Int)), none, none, none, none, none] (by omega) rfl (fun H' e => SqL.of (e _ _ hb)) ?_ ?_
    · rintro i x Hb H' Q' hi e ⟨rfl, hx⟩ q
      obtain ⟨z, hz, t, rfl, ht⟩ := stops_item hus hx
      refine ⟨t, _, rfl, SqT.of (e _ _ ht), rfl, _, _, rfl, _, _, rfl, _, _, rfl, _, _, rfl, rfl, rfl, ?_⟩
      refine ⟨_, rfl, _, rfl, _, rfl, _, rfl, _, _, rfl, rfl, .inr ⟨_, rfl, (by show 4 ≤ sizeLine; decide), fun r hr => ?_⟩⟩
      refine q _ _ (same_new hr) ?_
      rw [List.getD_eq_getElem?_getD, hz]
      refine pT_mk (new_at hr) ⟨rfl, rfl, rfl, ?_, trivial⟩
      show V.int (if decide (((Kxd7.decision p z.1 z.2 : Nat) : Int) = 1) = true then 1 else 0) = V.int (if Kxd7.decision p z.1 z.2 = 1 then 1 else 0)
      by_cases c : Kxd7.decision p z.1 z.2 = 1
      · rw [if_pos c, if_pos (decide_eq_true (by omega))]
      · rw [if_neg c, if_neg (by rw [decide_eq_false (by omega)]; decide)]
    · intro c H2 e2 hc
      rw [hl, map_getD] at hc
      have h0 := sh.le
      have h1 := sh.pos
      have h3 := sh.most
      refine ⟨_, rfl, _, rfl, _, rfl, _, rfl, v, .ref c, p, P, d, _, rfl, lay, (pPlan p.table).mono (e1.trans e2) hv, by omega, by omega, by omega, by omega, fun n s _ => ?_, fun n s => ?_, (pL _).mono nw_same hc, k.from (e1.trans e2)⟩
      · split <;> omega
      · split <;> omega
def sp_expected_size : Sp := fun vs H Q _ => ∃ (v : V) (p : Kxd7.Plan) (P d : Nat), vs = [v, .int (P : Int), .int (d : Int)] ∧ Lay p ∧ (pPlan p.table).p H v ∧ Share P d ∧ Ret (pF (Kxd7.expectedSize p (Kxd7.share P d))) H Q
theorem sc_expected_size : FnScope ["plan", "p", "divisor", "rows", "n", "s", "many", "decision"] ["plan", "p", "divisor"] (defScope (topS 32)) := C8.fnScope_by (by decide +kernel)
theorem c_expected_size {P : Program} {w : World} {K : PySem.W.Frag} {mg : Str → Option Value} {base : Heap} (T : Txt K mg) : C8.Cal P w K mg base 5 "expected_size" sp_expected_size [] := by
  refine T.cal 26 26 rfl rfl sc_expected_size (fun _ _ _ _ _ _ us hl => match us, hl with | [_, _, _], _ => rfl) (fun vs H Q E h => ?_) (fun cdv A outer s H vs Q E hr h => ⟨_, pss_cons (ps_setLc (i := 3) (own := [("n", 4), ("s", 5), ("many", 6), ("decision", 7)]) (g := gTup K 4 (gCons (gName 4) (gCons (gName 5) (gCons (gName 6) (gCons (gName 7) gNil))))) rfl sc_expected_size.nd rfl rfl (sw_true rfl rfl rfl (by decide +kernel)) (pi_list (C8.pe_c (c_stops_of T) hr (by decide) rfl (pa_cons (pv 0) pa_nil))) (blkOk_by (N := ["plan", "p", "divisor", "rows", "n", "s", "many", "decision"]) (sc := defScope (topS 32)) (by decide +kernel)) (fun _ _ _ _ _ => by exact pg_tup rfl (pgs_cons (pg_name (i := 4) sc_expected_size.nd rfl (Or.inl rfl)) (pgs_cons (pg_name (i := 5) sc_expected_size.nd rfl (Or.inl rfl)) (pgs_cons (pg_name (i := 6) sc_expected_size.nd rfl (Or.inl rfl)) (pgs_cons (pg_name (i := 7) sc_expected_size.nd rfl (Or.inl rfl)) pgs_nil))))) (fun _ _ _ _ _ => pts_nil) (fun _ _ _ _ _ => by exact pe_tup (pa_cons (pv 4) (pa_cons (pv 5) (pa_cons (pv 6) (pa_cons (pv 4) pa_nil))))))
      (pss_one (ps_ret (C8.pe_c (c_weighted T) hr (by decide) rfl (pa_cons (pv 0) (pa_cons (pv 1) (pa_cons (pv 2) (pa_cons (pv 3) pa_nil))))))), ?_⟩)
  · obtain ⟨v, p, P, d, rfl, _⟩ := h
    rfl
  · obtain ⟨v, p, P, d, rfl, lay, hv, sh, k⟩ := h
    have hsl := stops_len lay.h2
    rw [(expectedSize_is (share_frac sh.pos) p).frac] at k
    refine ⟨_, rfl, v, p, rfl, lay, hv, fun sv H1 e1 hsv => ?_⟩
    obtain ⟨b, us, rfl, hb, hus⟩ := (pStops p).mono nw_same hsv
    have hl : us.length = (Kxd7.stops p).length := by rw [hus.len, List.length_map]
    refine ⟨b, rfl, ⟨us, SqL.of hb⟩, ?_⟩
    refine lc_new (walk_list (K := K) (a := b) (xs := us)) (fun i => wtT p (fun n s => (n : Int)) ((Kxd7.stops p).getD i default)) [some v, some (.int (P : Int)), some (.int (d : Int)), none, none, none, none, none] (by omega) rfl (fun H' e => SqL.of (e _ _ hb)) ?_ ?_
    · rintro i x Hb H' Q' hi e ⟨rfl, hx⟩ q
      obtain ⟨z, hz, t, rfl, ht⟩ := stops_item hus hx
      refine ⟨t, _, rfl, SqT.of (e _ _ ht), rfl, _, _, rfl, _, _, rfl, _, _, rfl, _, _, rfl, rfl, rfl, ?_⟩
      refine ⟨_, rfl, _, rfl, _, rfl, _, rfl, (by show 4 ≤ sizeLine; decide), fun r hr => ?_⟩
      refine q _ _ (same_new hr) ?_
      rw [List.getD_eq_getElem?_getD, hz]
      exact pT_mk (new_at hr) ⟨rfl, rfl, rfl, rfl, trivial⟩
    · intro c H2 e2 hc
      rw [hl, map_getD] at hc
      have h0 := sh.le
      have h1 := sh.pos
      have h3 := sh.most
      exact ⟨_, rfl, _, rfl, _, rfl, _, rfl, v, .ref c, p, P, d, _, rfl, lay, (pPlan p.table).mono (e1.trans e2) hv, by omega, by omega, by omega, by omega, fun n s hn => by omega, fun n s => by omega, (pL _).mono nw_same hc, k.from (e1.trans e2)⟩
def sp_stop_probability : Sp := fun vs H Q _ => ∃ (v : V) (p : Kxd7.Plan) (P d m : Nat), vs = [v, .int (P : Int), .int (d : Int), .int (m : Int)] ∧ Lay p ∧ (pPlan p.table).p H v ∧ Share P d ∧ Ret (pF (Kxd7.stopProbability p (Kxd7.share P d) m)) H Q
theorem sc_stop_probability : FnScope ["plan", "p", "divisor", "size", "rows", "n", "s", "many", "decision"] ["plan", "p", "divisor", "size"] (defScope (topS 33)) := C8.fnScope_by (by decide +kernel)
theorem c_stop_probability {P : Program} {w : World} {K : PySem.W.Frag} {mg : Str → Option Value} {base : Heap} (T : Txt K mg) : C8.Cal P w K mg base 5 "stop_probability" sp_stop_probability [] := by
  refine T.cal 27 27 rfl rfl sc_stop_probability (fun _ _ _ _ _ _ us hl => match us, hl with | [_, _, _, _], _ => rfl) (fun vs H Q E h => ?_) (fun cdv A outer s H vs Q E hr h => ⟨_, pss_cons (ps_setLc (i := 4) (own := [("n", 5), ("s", 6), ("many", 7), ("decision", 8)]) (g := gTup K 4 (gCons (gName 5) (gCons (gName 6) (gCons (gName 7) (gCons (gName 8) gNil))))) rfl sc_stop_probability.nd rfl rfl (sw_true rfl rfl rfl (by decide +kernel)) (pi_list (C8.pe_c (c_stops_of T) hr (by decide) rfl (pa_cons (pv 0) pa_nil))) (blkOk_by (N := ["plan", "p", "divisor", "size", "rows", "n", "s", "many", "decision"]) (sc := defScope (topS 33)) (by decide +kernel)) (fun _ _ _ _ _ => by exact pg_tup rfl (pgs_cons (pg_name (i := 5) sc_stop_probability.nd rfl (Or.inl rfl)) (pgs_cons (pg_name (i := 6) sc_stop_probability.nd rfl (Or.inl rfl)) (pgs_cons (pg_name (i := 7) sc_stop_probability.nd rfl (Or.inl rfl)) (pgs_cons (pg_name (i := 8) sc_stop_probability.nd rfl (Or.inl rfl)) pgs_nil))))) (fun _ _ _ _ _ => pts_nil) (fun _ _ _ _ _ => by exact pe_tup (pa_cons (pv 5) (pa_cons (pv 6) (pa_cons (pv 7) (pa_cons (pe_callTy call_int1 (by rfl) (T.free 87) (by decide +kernel) (pa_cons (pe_cmp (pc_eqI (pv 5) (pv 3))) pa_nil)) pa_nil))))))
      (pss_one (ps_ret (C8.pe_c (c_weighted T) hr (by decide) rfl (pa_cons (pv 0) (pa_cons (pv 1) (pa_cons (pv 2) (pa_cons (pv 4) pa_nil))))))), ?_⟩)
  · obtain ⟨v, p, P, d, m, rfl, _⟩ := h
    rfl
  · obtain ⟨v, p, P, d, m, rfl, lay, hv, sh, k⟩ := h
    have hsl := stops_len lay.h2
    rw [(stopProbability_is (share_frac sh.pos) p m).frac] at k
    refine ⟨_, rfl, v, p, rfl, lay, hv, fun sv H1 e1 hsv => ?_⟩
    obtain ⟨b, us, rfl, hb, hus⟩ := (pStops p).mono nw_same hsv
    have hl : us.length = (Kxd7.stops p).length := by rw [hus.len, List.length_map]
    refine ⟨b, rfl, ⟨us, SqL.of hb⟩, ?_⟩
    refine lc_new (walk_list (K := K) (a := b) (xs := us)) (fun i => wtT p (fun n s => if n = m then 1 else 0) ((Kxd7.stops p).getD i default)) [some v, some (.int (P : Int)), some (.int (d : Int)), some (.int (m : Int)), none, none, none, none, none] (by omega) rfl (fun H' e => SqL.of (e _ _ hb)) ?_ ?_
    · rintro i x Hb H' Q' hi e ⟨rfl, hx⟩ q
      obtain ⟨z, hz, t, rfl, ht⟩ := stops_item hus hx
      refine ⟨t, _, rfl, SqT.of (e _ _ ht), rfl, _, _, rfl, _, _, rfl, _, _, rfl, _, _, rfl, rfl, rfl, ?_⟩
      refine ⟨_, rfl, _, rfl, _, rfl, _, rfl, _, rfl, _, _, rfl, rfl, .inr ⟨_, rfl, (by show 4 ≤ sizeLine; decide), fun r hr => ?_⟩⟩
      refine q _ _ (same_new hr) ?_
      rw [List.getD_eq_getElem?_getD, hz]
      refine pT_mk (new_at hr) ⟨rfl, rfl, rfl, ?_, trivial⟩
      show V.int (if decide ((z.1 : Int) = (m : Int)) = true then 1 else 0) = V.int (if z.1 = m then 1 else 0)
      by_cases c : z.1 = m
      · rw [if_pos c, if_pos (decide_eq_true (by omega))]
      · rw [if_neg c, if_neg (by rw [decide_eq_false (by omega)]; decide)]
    · intro c H2 e2 hc
      rw [hl, map_getD] at hc
      have h0 := sh.le
      have h1 := sh.pos
      have h3 := sh.most
      refine ⟨_, rfl, _, rfl, _, rfl, _, rfl, v, .ref c, p, P, d, _, rfl, lay, (pPlan p.table).mono (e1.trans e2) hv, by omega, by omega, by omega, by omega, fun n s _ => ?_, fun n s => ?_, (pL _).mono nw_same hc, k.from (e1.trans e2)⟩
      · split <;> omega
      · split <;> omega
end SE
/-! ## plans by likelihood ratios -/
namespace SE
open PySem PySem.Spec PyProof.Rows L2
def sp_rejection : Sp := fun vs H Q _ => ∃ (v : V) (p : Kxd7.Plan) (P d : Nat), vs = [v, .int (P : Int), .int (d : Int)] ∧ Wf p ∧ (pPlan p.table).p H v ∧ Share P d ∧ Ret (pF (Kxd7.minus (Kxd7.ofInt 1) (Kxd7.acceptance p (Kxd7.share P d)))) H Q
theorem frac_den_lt {n d : Int} (h : 0 < d) {b : Nat} (hd : Lt2 b d) : Lt2 b ((Kxd7.fraction n d).denominator : Int) := by
  rw [show Kxd7.fraction n d = _ from SE.fraction_pos h]
  show Lt2 b (((d / (Int.gcd n d : Int)).toNat : Nat) : Int)
  rw [Int.toNat_of_nonneg (Int.ediv_nonneg (by omega) (by omega))]
  exact hd.le (Int.ediv_nonneg (by omega) (by omega)) (Int.ediv_le_self _ (by omega))
theorem sc_rejection : FnScope ["plan", "p", "divisor", "num", "den"] ["plan", "p", "divisor"] (defScope (topS 31)) := C8.fnScope_by (by decide +kernel)
theorem c_rejection {P : Program} {w : World} {K : PySem.W.Frag} {mg : Str → Option Value} {base : Heap} (T : Txt K mg) : C8.Cal P w K mg base 6 "rejection" sp_rejection [] := by
  refine T.cal 25 25 rfl rfl sc_rejection (fun _ _ _ _ _ _ us hl => match us, hl with | [_, _, _], _ => rfl) (fun vs H Q E h => ?_) (fun cdv A outer s H vs Q E hr h => ⟨_, pss_cons (ps_asg (C8.pe_c (c_acceptance T) hr (by decide) rfl (pa_cons (pv 0) (pa_cons (pv 1) (pa_cons (pv 2) pa_nil)))) (pg_tup rfl (pgs_cons (pg_name (i := 3) sc_rejection.nd rfl (Or.inl rfl)) (pgs_cons (pg_name (i := 4) sc_rejection.nd rfl (Or.inl rfl)) pgs_nil))))
      (pss_one (ps_ret (C8.pe_c (c_ratio T) hr (by decide) rfl (pa_cons (pe_op op_sub (pv 4) (pv 3)) (pa_cons (pv 4) pa_nil))))), ?_⟩)
  · obtain ⟨v, p, P, d, rfl, _⟩ := h
    rfl
  · obtain ⟨v, p, P, d, rfl, w, hv, sh, k⟩ := h
    have h0 := sh.le
    have h1 := sh.pos
    have h3 := sh.most
    have is := share_frac (P := P) sh.pos
    have a := acceptance_is is p
    have le := acc_le w is (by omega) (by omega)
    have hd : Lt2 8000 ((Kxd7.acceptance p (Kxd7.share P d)).denominator : Int) := by
      rw [a.frac]
      exact frac_den_lt a.pos ((dpow_lt (by omega) (by omega) w.h2).mono (by decide))
    rw [minus_one] at k
    refine ⟨_, rfl, _, rfl, _, rfl, v, p, P, d, rfl, w.lay, hv, sh, fun fv H1 e1 hf => ?_⟩
    obtain ⟨t, rfl, ht⟩ := pF_at hf
    refine ⟨t, _, rfl, SqT.of (nw_same _ _ ht), rfl, _, _, rfl, _, _, rfl, rfl, ?_⟩
    exact ⟨_, rfl, _, rfl, _, _, rfl, rfl, _, rfl, _, _, rfl, (by omega), a.dpos, hd, k.from e1⟩
def sp_is_at_least : Sp := fun vs H Q _ => ∃ (v : V) (A B n d : Int), vs = [v, .int n, .int d] ∧ (pT [pI A, pI B]).p H v ∧ Lt2 900 A ∧ Lt2 900 B ∧ Lt2 21 n ∧ Lt2 21 d ∧ Q (.bl (decide (n * B ≤ A * d))) H
def sp_is_at_most : Sp := fun vs H Q _ => ∃ (v : V) (A B n d : Int), vs = [v, .int n, .int d] ∧ (pT [pI A, pI B]).p H v ∧ Lt2 900 A ∧ Lt2 900 B ∧ Lt2 21 n ∧ Lt2 21 d ∧ Q (.bl (decide (A * d ≤ n * B))) H
theorem pT2_at {a b : Int} {H : Hp} {v : V} (h : (pT [pI a, pI b]).p H v) : ∃ x, v = .ref x ∧ H x = some (.tup [.int a, .int b]) := by
  obtain ⟨x, vs, rfl, h2, h3⟩ := h
  match vs, h3 with
  | [u1, u2], h3 =>
    have e1 : u1 = V.int _ := h3.1
    have e2 : u2 = V.int _ := h3.2.1
    subst e1 e2
    exact ⟨x, rfl, h2⟩
theorem sc_is_at_least : FnScope ["chances", "num", "den"] ["chances", "num", "den"] (defScope (topS 34)) := C8.fnScope_by (by decide +kernel)
theorem c_is_at_least {P : Program} {w : World} {K : PySem.W.Frag} {mg : Str → Option Value} {base : Heap} (T : Txt K mg) : C8.Cal P w K mg base 1 "is_at_least" sp_is_at_least [] := by
  refine T.cal 28 28 rfl rfl sc_is_at_least (fun _ _ _ _ _ _ us hl => match us, hl with | [_, _, _], _ => rfl) (fun vs H Q E h => ?_) (fun cdv A outer s H vs Q E hr h => ⟨_, pss_one (ps_ret (pe_cmp (pc_ge (pe_op op_mulW (pe_ix ix_tup (pv 0) pe_int (fun _ _ => rfl)) (pv 2)) (pe_op op_mulW (pv 1) (pe_ix ix_tup (pv 0) pe_int (fun _ _ => rfl)))))), ?_⟩)
  · obtain ⟨v, A, B, n, d, rfl, _⟩ := h
    rfl
  · obtain ⟨v, A, B, n, d, rfl, hv, a1, a2, a3, a4, k⟩ := h
    obtain ⟨t, rfl, ht⟩ := pT2_at hv
    exact ⟨_, rfl, t, _, 0, _, rfl, rfl, SqT.of ht, rfl, _, rfl, _, _, rfl, rfl, a1.mulW a4 (by decide), _, rfl, _, rfl, t, _, 1, _, rfl, rfl, SqT.of ht, rfl, _, _, rfl, rfl, a3.mulW a2 (by decide), _, _, rfl, rfl, k⟩
theorem sc_is_at_most : FnScope ["chances", "num", "den"] ["chances", "num", "den"] (defScope (topS 35)) := C8.fnScope_by (by decide +kernel)
theorem c_is_at_most {P : Program} {w : World} {K : PySem.W.Frag} {mg : Str → Option Value} {base : Heap} (T : Txt K mg) : C8.Cal P w K mg base 1 "is_at_most" sp_is_at_most [] := by
  refine T.cal 29 29 rfl rfl sc_is_at_most (fun _ _ _ _ _ _ us hl => match us, hl with | [_, _, _], _ => rfl) (fun vs H Q E h => ?_) (fun cdv A outer s H vs Q E hr h => ⟨_, pss_one (ps_ret (pe_cmp (pc_le (pe_op op_mulW (pe_ix ix_tup (pv 0) pe_int (fun _ _ => rfl)) (pv 2)) (pe_op op_mulW (pv 1) (pe_ix ix_tup (pv 0) pe_int (fun _ _ => rfl)))))), ?_⟩)
  · obtain ⟨v, A, B, n, d, rfl, _⟩ := h
    rfl
  · obtain ⟨v, A, B, n, d, rfl, hv, a1, a2, a3, a4, k⟩ := h
    obtain ⟨t, rfl, ht⟩ := pT2_at hv
    exact ⟨_, rfl, t, _, 0, _, rfl, rfl, SqT.of ht, rfl, _, rfl, _, _, rfl, rfl, a1.mulW a4 (by decide), _, rfl, _, rfl, t, _, 1, _, rfl, rfl, SqT.of ht, rfl, _, _, rfl, rfl, a3.mulW a2 (by decide), _, _, rfl, rfl, k⟩
def sp_likely : Sp := fun vs H Q _ => ∃ (v u : V) (A B lo ld hi hd : Int) (last : Bool), vs = [v, u, .bl last] ∧ (pT [pI A, pI B]).p H v ∧ (pT [pI lo, pI ld, pI hi, pI hd]).p H u ∧ Lt2 900 A ∧ Lt2 900 B ∧ Lt2 21 lo ∧ Lt2 21 ld ∧ Lt2 21 hi ∧ Lt2 21 hd ∧ Q (.int ((likelyN A B lo ld hi hd last : Nat) : Int)) H
theorem sc_likely : FnScope ["chances", "bounds", "is_last", "low", "low_divisor", "high", "high_divisor"] ["chances", "bounds", "is_last"] (defScope (topS 36)) := C8.fnScope_by (by decide +kernel)
theorem c_likely {P : Program} {w : World} {K : PySem.W.Frag} {mg : Str → Option Value} {base : Heap} (T : Txt K mg) : C8.Cal P w K mg base 2 "likely" sp_likely [] := by
  refine T.cal 30 30 rfl rfl sc_likely (fun _ _ _ _ _ _ us hl => match us, hl with | [_, _, _], _ => rfl) (fun vs H Q E h => ?_) (fun cdv A outer s H vs Q E hr h => ⟨_, pss_cons (ps_asg (pv 1) (pg_tup rfl (pgs_cons (pg_name (i := 3) sc_likely.nd rfl (Or.inl rfl)) (pgs_cons (pg_name (i := 4) sc_likely.nd rfl (Or.inl rfl)) (pgs_cons (pg_name (i := 5) sc_likely.nd rfl (Or.inl rfl)) (pgs_cons (pg_name (i := 6) sc_likely.nd rfl (Or.inl rfl)) pgs_nil))))))
      (pss_cons (ps_if (pt_val (C8.pe_c (c_is_at_least T) hr (by decide) rfl (pa_cons (pv 0) (pa_cons (pv 5) (pa_cons (pv 6) pa_nil))))) (pss_one (ps_ret (C8.pe_gc rfl (T.int 96)))) (pss_nil))
      (pss_cons (ps_if (PW.pt (pw_or (pt_val (C8.pe_c (c_is_at_most T) hr (by decide) rfl (pa_cons (pv 0) (pa_cons (pv 3) (pa_cons (pv 4) pa_nil))))) (pw_or1 (pt_val (pv 2))))) (pss_one (ps_ret (C8.pe_gc rfl (T.int 95)))) (pss_nil))
      (pss_one (ps_ret (C8.pe_gc rfl (T.int 94)))))), ?_⟩)
  · obtain ⟨v, u, A, B, lo, ld, hi, hd, last, rfl, _⟩ := h
    rfl
  · obtain ⟨v, u, A, B, lo, ld, hi, hd, last, rfl, hv, hu, a1, a2, a3, a4, a5, a6, k⟩ := h
    obtain ⟨b, rfl, hb⟩ := pT4_at hu
    refine ⟨_, rfl, b, _, rfl, SqT.of hb, rfl, _, _, rfl, _, _, rfl, _, _, rfl, _, _, rfl, rfl, ?_⟩
    refine ⟨_, rfl, _, rfl, _, rfl, v, A, B, hi, hd, rfl, hv, a1, a2, a5, a6, _, rfl, ?_⟩
    unfold likelyN at k
    by_cases c1 : hi * B ≤ A * hd
    · rw [if_pos c1] at k
      exact if_true_of (decide_eq_true c1) k
    · rw [if_neg c1] at k
      refine if_false_of (decide_eq_false c1) ⟨_, rfl, _, rfl, _, rfl, v, A, B, lo, ld, rfl, hv, a1, a2, a3, a4, _, rfl, ?_⟩
      by_cases c2 : A * ld ≤ lo * B
      · rw [if_pos (.inl c2)] at k
        exact if_true_of (decide_eq_true c2) (iteT k)
      · refine if_false_of (decide_eq_false c2) ⟨_, rfl, _, rfl, ?_⟩
        cases last with
        | true =>
          rw [if_pos (.inr rfl)] at k
          exact iteT k
        | false =>
          rw [if_neg (fun z => z.elim c2 fun y => nomatch y)] at k
          exact iteF k
/-- two success probabilities and bounds as arguments -/
structure Pair (p0 p1 d : Nat) : Prop where
  pos : 1 ≤ p0
  lt : p0 < p1
  top : p1 < d
  most : d ≤ 1000
structure Bnd (lo ld hi hd : Nat) : Prop where
  lo : lo ≤ 1000000
  hi : hi ≤ 1000000
  ld1 : 1 ≤ ld
  ld2 : ld ≤ 1000
  hd1 : 1 ≤ hd
  hd2 : hd ≤ 1000
def likeRow (h p0 p1 d lo ld hi hd n m : Nat) : List Nat := (List.range m).map fun s => likelyN (chn p1 d n s) (chn p0 d n s) lo ld hi hd (decide (n = h))
theorem like_table {h p0 p1 d lo ld hi hd : Nat} (q : Pair p0 p1 d) (b : Bnd lo ld hi hd) (h1 : 1 ≤ h) :
    (Kxd7.fromRule h (Kxd7.likelihoodRule (Kxd7.share p0 d) (Kxd7.share p1 d) (Kxd7.share lo ld) (Kxd7.share hi hd))).table = [0] :: (List.range h).map fun j => likeRow h p0 p1 d lo ld hi hd (j + 1) (j + 2) := by
  unfold Kxd7.fromRule
  show (List.range (h + 1)).map _ = _
  rw [List.range_succ_eq_map, List.map_cons, List.map_map]
  congr 1
  · show [if 0 = h ∧ Kxd7.likelihoodRule _ _ _ _ 0 0 = 0 then 1 else Kxd7.likelihoodRule _ _ _ _ 0 0] = [0]
    rw [if_neg (by omega)]
    rfl
  · refine List.map_congr_left fun j _ => ?_
    show (List.range (j + 1 + 1)).map _ = likeRow h p0 p1 d lo ld hi hd (j + 1) (j + 2)
    unfold likeRow
    refine List.map_congr_left fun s _ => ?_
    exact likelihood_dec q.pos q.top q.lt b.ld1 b.hd1 (by omega) s h _ (by rw [decide_eq_true_eq])
def sp_likelihood_plan : Sp := fun vs H Q _ => ∃ (v u : V) (h p0 p1 d lo ld hi hd : Nat), vs = [.int (h : Int), v, .int (d : Int), u] ∧ 1 ≤ h ∧ h ≤ 20 ∧ Pair p0 p1 d ∧ Bnd lo ld hi hd ∧ (pT [nI p0, nI p1]).p H v ∧ (pT [nI lo, nI ld, nI hi, nI hd]).p H u ∧
  Ret (pPlan (Kxd7.fromRule h (Kxd7.likelihoodRule (Kxd7.share p0 d) (Kxd7.share p1 d) (Kxd7.share lo ld) (Kxd7.share hi hd))).table) H Q
theorem nat_lt2 {x b : Nat} (h : x < 2 ^ b) : Lt2 b (x : Int) := by
  unfold Lt2
  rw [Int.natAbs_natCast]
  exact h
theorem sc_likelihood_plan : FnScope ["horizon", "pair", "divisor", "bounds", "found", "n", "row", "s", "chances"] ["horizon", "pair", "divisor", "bounds"] (defScope (topS 37)) := C8.fnScope_by (by decide +kernel)
theorem c_likelihood_plan {P : Program} {w : World} {K : PySem.W.Frag} {mg : Str → Option Value} {base : Heap} (T : Txt K mg) : C8.Cal P w K mg base 3 "likelihood_plan" sp_likelihood_plan [] := by
  refine T.cal 31 31 rfl rfl sc_likelihood_plan (fun _ _ _ _ _ _ us hl => match us, hl with | [_, _, _, _], _ => rfl) (fun vs H Q E h => ?_) (fun cdv A outer s H vs Q E hr h => ⟨_, pss_cons (ps_set (i := 4) sc_likelihood_plan.nd rfl (Or.inl rfl) (pe_lst (pa_cons (pe_lst (pa_cons (C8.pe_gc rfl (T.int 94)) pa_nil)) pa_nil)))
      (pss_cons (ps_for PassesOwn.never rfl (pi_range2 (by rfl) (T.free 84) (pa_cons pe_int (pa_cons (pe_op op_add (pv 0) pe_int) pa_nil))) (pg_name (i := 5) sc_likelihood_plan.nd rfl (Or.inl rfl)) (pss_cons (ps_set (i := 6) sc_likelihood_plan.nd rfl (Or.inl rfl) (pe_lst (pa_nil)))
      (pss_cons (ps_for PassesOwn.never rfl (pi_range1 (by rfl) (T.free 84) (pa_cons (pe_op op_add (pv 5) pe_int) pa_nil)) (pg_name (i := 7) sc_likelihood_plan.nd rfl (Or.inl rfl)) (pss_cons (ps_set (i := 8) sc_likelihood_plan.nd rfl (Or.inl rfl) (pe_tup (pa_cons (C8.pe_c (c_chance T) hr (by decide) rfl (pa_cons (pe_ix ix_tup (pv 1) pe_int (fun _ _ => rfl)) (pa_cons (pv 2) (pa_cons (pv 5) (pa_cons (pv 7) pa_nil))))) (pa_cons (C8.pe_c (c_chance T) hr (by decide) rfl (pa_cons (pe_ix ix_tup (pv 1) pe_int (fun _ _ => rfl)) (pa_cons (pv 2) (pa_cons (pv 5) (pa_cons (pv 7) pa_nil))))) pa_nil))))
      (pss_one (ps_expr (pe_bm PySem.F.plainAttrs_list PySem.F.slot_list_append PySem.F.type_list_append mt_append (pv 6) (pa_cons (C8.pe_c (c_likely T) hr (by decide) rfl (pa_cons (pv 8) (pa_cons (pv 3) (pa_cons (pe_cmp (pc_eqI (pv 5) (pv 0))) pa_nil)))) pa_nil))))))
      (pss_one (ps_expr (pe_bm PySem.F.plainAttrs_list PySem.F.slot_list_append PySem.F.type_list_append mt_append (pv 4) (pa_cons (pv 6) pa_nil)))))))
      (pss_one (ps_ret (pv 4)))), ?_⟩)
  · obtain ⟨v, u, h, p0, p1, d, lo, ld, hi, hd, rfl, _⟩ := h
    rfl
  · obtain ⟨v, u, h, p0, p1, d, lo, ld, hi, hd, rfl, h1, h20, q, bd, hv, hu, k⟩ := h
    rw [like_table q bd h1] at k
    have q1 := q.pos
    have q2 := q.lt
    have q3 := q.top
    have q4 := q.most
    have b1 := bd.lo
    have b2 := bd.hi
    have b3 := bd.ld2
    have b4 := bd.hd2
    obtain ⟨pv, rfl, hpv⟩ := pT2_at hv
    refine ⟨(by show 1 ≤ sizeLine; decide), fun z hz => ⟨(by show 1 ≤ sizeLine; decide), fun f hf => ?_⟩⟩
    have hfH : H f = none := (same_new hz).free hf
    have F1 : Fill H f H ([pRow [0]]) (upd (upd H z (.lst [V.int 0])) f (.lst [V.ref z])) := by
      have s1 := (same_new (o := .lst [V.int 0]) hz).trans (same_new (o := .lst [V.ref z]) hf)
      have hzf : z ≠ f := fun e => by rw [← e, upd_same] at hf; cases hf
      exact ⟨hfH, s1.in_wo hfH, [V.ref z], upd_same, pRow_mk (l := [0]) (by rw [nw_of hz, wo_ne hzf, upd_ne hzf, upd_same]; rfl), trivial⟩
    refine ⟨_, rfl, _, _, rfl, rfl, _, _, rfl, by omega, ?_⟩
    rw [show ((h : Int) + 1 - 1).toNat = h by omega]
    refine for_it walk_range (fun i σ H' => Fill H f H (([0] :: (List.range i).map fun j => likeRow h p0 p1 d lo ld hi hd (j + 1) (j + 2)).map pRow) H' ∧ ∃ x1 x2 x3 x4, σ = [some (.int (h : Int)), some (.ref pv), some (.int (d : Int)), some u, some (.ref f), x1, x2, x3, x4])
      ⟨F1, none, none, none, none, rfl⟩ (fun _ _ _ _ _ => trivial) ?_ ?_
    · rintro i x σ H1 H2 hi2 ⟨F2, x1, x2, x3, x4, rfl⟩ ⟨rfl, hx⟩
      have hx : x = .int ((i + 1 : Nat) : Int) := hx.trans (congrArg V.int (by omega))
      subst hx
      refine ⟨(by show 0 ≤ sizeLine; decide), fun g hg => ?_⟩
      have eg := same_new (o := .lst []) hg
      have F3 := F2.more eg
      refine ⟨_, rfl, _, _, rfl, rfl, _, rfl, by omega, by omega, ?_⟩
      rw [show (((i + 1 : Nat) : Int) + 1).toNat = i + 2 by omega]
      refine for_it walk_range (fun m σ H' => Same H2 (wo g H') ∧ H' g = some (.lst ((likeRow h p0 p1 d lo ld hi hd (i + 1) m).map nV)) ∧ ∃ x3 x4, σ = [some (.int (h : Int)), some (.ref pv), some (.int (d : Int)), some u, some (.ref f), some (.int ((i + 1 : Nat) : Int)), some (.ref g), x3, x4])
        ⟨eg.in_wo hg, upd_same, x3, x4, rfl⟩ (fun _ _ _ _ _ => trivial) ?_ ?_
      · rintro m x σ H3 H4 hm ⟨e3, hg3, x3, x4, rfl⟩ ⟨rfl, hx⟩
        have hx : x = .int (m : Int) := hx.trans (congrArg V.int (by omega))
        subst hx
        have sH : Same H H4 := F2.up.trans (e3.trans wo_le)
        have hpv4 := sH _ _ hpv
        have c1 := chn_lt (P := (p1 : Int)) (d := (d : Int)) (n := i + 1) (s := m) (by omega) (by omega) (by omega) (by omega) (by omega)
        have c0 := chn_lt (P := (p0 : Int)) (d := (d : Int)) (n := i + 1) (s := m) (by omega) (by omega) (by omega) (by omega) (by omega)
        refine ⟨_, rfl, pv, _, 1, _, rfl, rfl, SqT.of hpv4, rfl, _, rfl, _, rfl, _, rfl, p1, d, i + 1, m, rfl, by omega, by omega, by omega, by omega, by omega, ?_⟩
        refine ⟨_, rfl, pv, _, 0, _, rfl, rfl, SqT.of hpv4, rfl, _, rfl, _, rfl, _, rfl, p0, d, i + 1, m, rfl, by omega, by omega, by omega, by omega, by omega, (by show 2 ≤ sizeLine; decide), fun t ht => ?_⟩
        have et := same_new (o := .tup [V.int ((p1 : Int) ^ m * ((d : Int) - (p1 : Int)) ^ (i + 1 - m)), V.int ((p0 : Int) ^ m * ((d : Int) - (p0 : Int)) ^ (i + 1 - m))]) ht
        refine ⟨_, rfl, .inl ⟨rfl, _, SqL.of (et _ _ hg3)⟩, _, rfl, _, rfl, _, rfl, _, rfl, _, _, rfl, rfl, ?_⟩
        refine ⟨.ref t, u, chn p1 d (i + 1) m, chn p0 d (i + 1) m, lo, ld, hi, hd, _, rfl, pT_mk upd_same ⟨rfl, rfl, trivial⟩, (pT _).mono (sH.trans et) hu, c1, c0, nat_lt2 (by omega), nat_lt2 (by omega), nat_lt2 (by omega), nat_lt2 (by omega), ?_⟩
        refine ⟨g, _, _, rfl, rfl, et _ _ hg3, ?_, ?_, ?_, _, _, rfl⟩
        · rw [List.length_map]
          unfold likeRow
          rw [List.length_map, List.length_range]
          exact size_lt (by omega)
        · rw [wo_upd]
          exact e3.trans (et.wo g)
        · rw [upd_same]
          unfold likeRow
          rw [map_range_succ, List.map_append, ← int_bool (a := i + 1) (b := h)]
          rfl
      · rintro σ H3 ⟨e3, hg3, x3, x4, rfl⟩
        have F4 := F2.more (e3.trans wo_le)
        obtain ⟨us, hus, hal⟩ := F4.it
        have hul : us.length ≤ 21 := by rw [hal.len]; simp; omega
        refine ⟨_, rfl, .inl ⟨rfl, us, SqL.of hus⟩, _, rfl, f, us, _, rfl, rfl, hus, size_lt (by omega), ?_⟩
        refine ⟨?_, _, _, _, _, rfl⟩
        rw [map_range_succ, ← List.cons_append, List.map_append]
        obtain ⟨us2, hus2, hal2⟩ := F2.it
        have ee : us = us2 := by
          have := (e3.trans wo_le) _ _ hus2
          rw [hus] at this
          injection this with this
          injection this
        subst ee
        refine F2.push (e3.trans wo_le) hus2 F2.up.dm ?_
        exact pRow_mk (by rw [nw_of hg]; exact hg3)
    · rintro σ H1 ⟨F2, x1, x2, x3, x4, rfl⟩
      exact ⟨_, rfl, k _ _ F2.up F2.done⟩
end SE
/-! ## objects: attributes as targets; sum of a tuple; methods by their class -/
namespace SE
open PySem PySem.Spec PyProof.Rows L2
theorem new_at2 {H H1 : Hp} {p : Addr} {o : HO} (e : Same H H1) (h : H1 p = none) : nw H (upd H1 p o) p = some o := by rw [nw_of (e.free h), upd_same]
section
variable {X : Cx} {o : Expr} {f : Str} {pos : Pos} {ta : TE}
def gFld (K : PySem.W.Frag) (ta : TE) (f : Str) : TG := fun v σ H Q => ta σ H fun x H1 => ∃ a C dx fs, x = .ref a ∧ H1 a = some (.ins C dx fs) ∧ Cls K C ∧ NoAttr K C f ∧ fs.length < 1000 ∧ Q σ (upd H1 a (.ins C dx (putF f v fs)))
theorem pg_fld (ha : PE X o ta) : PG X (.Attribute o f pos) (gFld X.K ta f) := by
  refine ⟨fun pins s σ H v u Q I r h => ?_⟩
  rw [assign_Attribute]
  refine wpAny_bind (wpAny_holding (thn (ha.run pins s σ H _ I h) fun ov s1 ⟨x, H1, I1, rx, a, C, dx, fs, ex, ea, c, n, l, q⟩ => ?_))
  subst ex
  obtain rfl : ov = Value.ref a := rx
  refine wpAny_bind (wpAny_standAt (wpAny_bind (wpAny_holding (setattr_ok I1 ea c n l r fun s3 I3 => ?_))))
  exact wpAny_release ⟨σ, _, I3, q⟩
end
section
variable {X : Cx}
def rSumT (K : PySem.W.Frag) : List V → Hp → VK → Prop := fun vs H Q => ∃ (a : Addr) (ns : List Int), vs = [V.ref a] ∧ SqT K H a (ns.map V.int) ∧ Q (.int ns.sum) H
theorem cr_sumT (hc : X.calm = true) : CallR X (.builtin "sum") (rSumT X.K) := by
  intro pins s σ H vs us Q I r h
  obtain ⟨a, ns, rfl, hs, q⟩ := h
  obtain ⟨its, rv, hl, _⟩ := I.tuple hs
  rw [Vals.ref1 r]
  have hi := rv.ints
  obtain ⟨xs, e⟩ := hi.allInts.items
  have hn : numsOf (intItems xs).toList = ns := by rw [← e]; exact hi.numsOf
  rw [nums_intItems] at hn
  rw [e] at hl
  refine PySem.W.ktm_sumG (I.ok.hd hc) hl fun h' tk t' hk => ?_
  rw [preSum_eq, List.take_of_length_le (by simp), hn]
  exact ⟨.int _, H, I.kept hk, ⟨_, rfl⟩, q⟩
end
section
variable {P : Program} {w : World} {K : PySem.W.Frag} {mg : Str → Option Value} {base : Heap}
theorem Txt.met (T : Txt K mg) {C m : Str} {k : Nat} {ps : List Str} {sp : Sp} (ic im : Nat) (h : ∃ fd, FnOk P w K mg base CX0 k (He.ma K (He.ga K C) m) fd ps sp ∧ Binds K fd ps [])
    (ec : faD[ic]? = some (.cls C) := by rfl) (em : faD[im]? = some (.meth C m) := by rfl) : C8.Met P w K mg base k (He.ga K C) m sp [] := by
  obtain ⟨fd, F, B⟩ := h
  exact ⟨_, fd, ps, [], He.cls_ok (T.f ic _ ec), He.meth_ok (T.f im _ em), F, B, .nil⟩
theorem Txt.mak (T : Txt K mg) {C : Str} {k : Nat} {ps : List Str} {sp : Sp} (ig im : Nat) (h : ∃ fd, FnOk P w K mg base CX0 k (He.ma K (He.ga K C) "__init__") fd ps sp ∧ Binds K fd ps [])
    (eg : faD[ig]? = some (.glo C) := by rfl) (em : faD[im]? = some (.mkr C) := by rfl) : C8.Mak P w K mg base k C (He.ga K C) sp [] := by
  obtain ⟨fd, F, B⟩ := h
  exact ⟨_, fd, ps, [], He.mkr_ok (T.f im _ em), F, T.g C (T.f ig _ eg), B, .nil⟩
theorem Txt.clsOf (T : Txt K mg) {C : Str} (i : Nat) (e : faD[i]? = some (.cls C) := by rfl) : Cls K (He.ga K C) := He.cls_ok (T.f i _ e)
theorem Txt.noat (T : Txt K mg) {C f : Str} (i : Nat) (e : faD[i]? = some (.noat C f) := by rfl) : NoAttr K (He.ga K C) f := He.noat_ok (T.f i _ e)
end
end SE
/-! ## problems -/
namespace SE
open PySem PySem.Spec PyProof.Rows L2
/-- the object of a problem -/
def prF (b : PB) : List (Str × V) := [("most", nV b.h), ("p0", nV b.p0), ("p1", nV b.p1), ("divisor", nV b.d), ("prior", nV b.a), ("prior_divisor", nV b.ad), ("cost", nV b.c), ("loss0", nV b.l0), ("loss1", nV b.l1)]
def Pro (K : PySem.W.Frag) (b : PB) (H : Hp) (x : V) : Prop := ∃ a dx, x = .ref a ∧ H a = some (.ins (He.ga K "Problem") dx (prF b))
theorem Pro.mono {K : PySem.W.Frag} {b : PB} {H H' : Hp} {x : V} (h : Pro K b H x) (e : Same H H') : Pro K b H' x := by
  obtain ⟨a, dx, h1, h2⟩ := h
  exact ⟨a, dx, h1, e _ _ h2⟩
def sp_Problem_init (K : PySem.W.Frag) : Sp := fun vs H Q _ => ∃ (a dx g : Addr) (b : PB), vs = [.ref a, nV b.h, .ref g] ∧ H a = some (.ins (He.ga K "Problem") dx []) ∧ H g = some (.lst ([b.p0, b.p1, b.d, b.a, b.ad, b.c, b.l0, b.l1].map nV)) ∧ Q .non (upd H a (.ins (He.ga K "Problem") dx (prF b)))
theorem upd_upd {H : Hp} {a : Addr} {x y : HO} : upd (upd H a x) a y = upd H a y := by
  funext b
  by_cases h : b = a
  · rw [h, upd_same, upd_same]
  · rw [upd_ne h, upd_ne h, upd_ne h]
theorem sc_Problem_init : FnScope ["self", "horizon", "given"] ["self", "horizon", "given"] (defScope (inClass (topS 39) 0)) := C8.fnScope_by (by decide +kernel)
theorem f_Problem_init {P : Program} {w : World} {K : PySem.W.Frag} {mg : Str → Option Value} {base : Heap} (T : Txt K mg) : ∃ fd, FnOk P w K mg base CX0 1 (He.ma K (He.ga K "Problem") "__init__") fd ["self", "horizon", "given"] (sp_Problem_init K) ∧ Binds K fd ["self", "horizon", "given"] [] := by
  obtain ⟨fd, F, B⟩ := T.fnM 0 (ps := ["self", "horizon", "given"]) rfl (fun _ _ _ _ _ _ us hl => match us, hl with | [_, _, _], _ => rfl)
  refine ⟨fd, F.ok sc_Problem_init (fun vs H Q E h => ?_) (fun cdv A outer s H vs Q E hr h => ⟨_, PSs.nox (pss_cons (ps_fld (pv 0) (pv 1) rfl)
      (pss_one (ps_asg (pv 2) (pg_unl rfl (pgs_cons (pg_fld (pv 0)) (pgs_cons (pg_fld (pv 0)) (pgs_cons (pg_fld (pv 0)) (pgs_cons (pg_fld (pv 0)) (pgs_cons (pg_fld (pv 0)) (pgs_cons (pg_fld (pv 0)) (pgs_cons (pg_fld (pv 0)) (pgs_cons (pg_fld (pv 0)) pgs_nil)))))))))))), ?_⟩), B⟩
  · obtain ⟨a, dx, g, b, rfl, _⟩ := h
    rfl
  · obtain ⟨a, dx, g, b, rfl, ha, hg, k⟩ := h
    have c := T.clsOf (C := "Problem") 105
    have ne : g ≠ a := fun e => by rw [e, ha] at hg; cases hg
    refine ⟨_, rfl, _, rfl, a, _, dx, _, rfl, ha, c, T.noat 109, by decide, ?_⟩
    refine ⟨_, rfl, g, _, rfl, SqL.of (by rw [upd_ne ne]; exact hg), rfl, ?_⟩
    refine ⟨_, _, rfl, _, rfl, a, _, dx, _, rfl, upd_same, c, T.noat 110, (by show 1 < 1000; decide), ?_⟩
    refine ⟨_, _, rfl, _, rfl, a, _, dx, _, rfl, upd_same, c, T.noat 111, (by show 2 < 1000; decide), ?_⟩
    refine ⟨_, _, rfl, _, rfl, a, _, dx, _, rfl, upd_same, c, T.noat 112, (by show 3 < 1000; decide), ?_⟩
    refine ⟨_, _, rfl, _, rfl, a, _, dx, _, rfl, upd_same, c, T.noat 113, (by show 4 < 1000; decide), ?_⟩
    refine ⟨_, _, rfl, _, rfl, a, _, dx, _, rfl, upd_same, c, T.noat 114, (by show 5 < 1000; decide), ?_⟩
    refine ⟨_, _, rfl, _, rfl, a, _, dx, _, rfl, upd_same, c, T.noat 115, (by show 6 < 1000; decide), ?_⟩
    refine ⟨_, _, rfl, _, rfl, a, _, dx, _, rfl, upd_same, c, T.noat 116, (by show 7 < 1000; decide), ?_⟩
    refine ⟨_, _, rfl, _, rfl, a, _, dx, _, rfl, upd_same, c, T.noat 117, (by show 8 < 1000; decide), ?_⟩
    refine ⟨rfl, ?_⟩
    simp only [upd_upd]
    exact k
theorem c_Problem_init {P : Program} {w : World} {K : PySem.W.Frag} {mg : Str → Option Value} {base : Heap} (T : Txt K mg) : C8.Mak P w K mg base 1 "Problem" (He.ga K "Problem") (sp_Problem_init K) [] := T.mak 32 106 (f_Problem_init T)
def sp_Problem_whole (K : PySem.W.Frag) : Sp := fun vs H Q _ => ∃ (x : V) (b : PB), vs = [x] ∧ b.Ok ∧ Pro K b H x ∧ Q (.int b.D) H
theorem sc_Problem_whole : FnScope ["self"] ["self"] (defScope (inClass (topS 39) 1)) := C8.fnScope_by (by decide +kernel)
theorem f_Problem_whole {P : Program} {w : World} {K : PySem.W.Frag} {mg : Str → Option Value} {base : Heap} (T : Txt K mg) : ∃ fd, FnOk P w K mg base CX0 2 (He.ma K (He.ga K "Problem") "whole") fd ["self"] (sp_Problem_whole K) ∧ Binds K fd ["self"] [] := by
  obtain ⟨fd, F, B⟩ := T.fnM 1 (ps := ["self"]) rfl (fun _ _ _ _ _ _ us hl => match us, hl with | [_], _ => rfl)
  refine ⟨fd, F.ok sc_Problem_whole (fun vs H Q E h => ?_) (fun cdv A outer s H vs Q E hr h => ⟨_, PSs.nox (pss_one (ps_ret (pe_op op_mulW (pe_fld (pv 0) rfl) (C8.pe_c (c_power T) hr (by decide) rfl (pa_cons (pe_fld (pv 0) rfl) (pa_cons (pe_fld (pv 0) rfl) pa_nil)))))), ?_⟩), B⟩
  · obtain ⟨x, b, rfl, _⟩ := h
    rfl
  · obtain ⟨x, b, rfl, o, ⟨a, dx, rfl, ha⟩, k⟩ := h
    have h1 := o.adm
    have h2 := o.dm
    have h3 := o.h2
    have c := T.clsOf (C := "Problem") 105
    refine ⟨_, rfl, a, _, dx, _, _, rfl, ha, c, T.noat 114, rfl, _, rfl, a, _, dx, _, _, rfl, ha, c, T.noat 112, rfl, _, rfl, a, _, dx, _, _, rfl, ha, c, T.noat 109, rfl, ?_⟩
    exact ⟨(b.d : Int), b.h, rfl, small_lt (by omega) (by omega), by omega, _, _, rfl, rfl, (small_lt (by omega) (by omega)).mulW (dpow_lt (by omega) (by omega) h3) (by decide), k⟩
theorem c_Problem_whole {P : Program} {w : World} {K : PySem.W.Frag} {mg : Str → Option Value} {base : Heap} (T : Txt K mg) : C8.Met P w K mg base 2 (He.ga K "Problem") "whole" (sp_Problem_whole K) [] := T.met 105 119 (f_Problem_whole T)
theorem wgt_lt {b : PB} (o : b.Ok) {n s : Nat} (hn : n ≤ b.h) (hs : s ≤ n) : Lt2 1420 (wgt0 b n s) ∧ Lt2 1420 (wgt1 b n s) := by
  have h1 := o.al
  have h2 := o.p0b
  have h3 := o.p1b
  have h4 := o.dm
  have h5 := o.adm
  have h6 := o.h2
  have c2 := dpow_lt (d := (b.d : Int)) (by omega) (by omega) (by omega : b.h - n ≤ 20)
  have c0 := chn_lt (P := (b.p0 : Int)) (d := (b.d : Int)) (by omega) (by omega) (by omega) hs (by omega : n ≤ 20)
  have c1 := chn_lt (P := (b.p1 : Int)) (d := (b.d : Int)) (by omega) (by omega) (by omega) hs (by omega : n ≤ 20)
  exact ⟨((small_lt (by omega : 0 ≤ (b.ad : Int) - b.a) (by omega)).mul c0).mul c2, ((small_lt (by omega : 0 ≤ (b.a : Int)) (by omega)).mul c1).mul c2⟩
def sp_Problem_weights (K : PySem.W.Frag) : Sp := fun vs H Q _ => ∃ (x : V) (b : PB) (n s : Nat), vs = [x, nV n, nV s] ∧ b.Ok ∧ Pro K b H x ∧ n ≤ b.h ∧ s ≤ n ∧ Ret (pT [pI (wgt0 b n s), pI (wgt1 b n s)]) H Q
theorem sc_Problem_weights : FnScope ["self", "n", "s", "more", "first"] ["self", "n", "s"] (defScope (inClass (topS 39) 2)) := C8.fnScope_by (by decide +kernel)
theorem f_Problem_weights {P : Program} {w : World} {K : PySem.W.Frag} {mg : Str → Option Value} {base : Heap} (T : Txt K mg) : ∃ fd, FnOk P w K mg base CX0 3 (He.ma K (He.ga K "Problem") "weights") fd ["self", "n", "s"] (sp_Problem_weights K) ∧ Binds K fd ["self", "n", "s"] [] := by
  obtain ⟨fd, F, B⟩ := T.fnM 2 (ps := ["self", "n", "s"]) rfl (fun _ _ _ _ _ _ us hl => match us, hl with | [_, _, _], _ => rfl)
  refine ⟨fd, F.ok sc_Problem_weights (fun vs H Q E h => ?_) (fun cdv A outer s H vs Q E hr h => ⟨_, PSs.nox (pss_cons (ps_set (i := 3) sc_Problem_weights.nd rfl (Or.inl rfl) (C8.pe_c (c_power T) hr (by decide) rfl (pa_cons (pe_fld (pv 0) rfl) (pa_cons (pe_op op_sub (pe_fld (pv 0) rfl) (pv 1)) pa_nil))))
      (pss_cons (ps_set (i := 4) sc_Problem_weights.nd rfl (Or.inl rfl) (pe_op op_mulW (pe_op op_sub (pe_fld (pv 0) rfl) (pe_fld (pv 0) rfl)) (C8.pe_c (c_chance T) hr (by decide) rfl (pa_cons (pe_fld (pv 0) rfl) (pa_cons (pe_fld (pv 0) rfl) (pa_cons (pv 1) (pa_cons (pv 2) pa_nil)))))))
      (pss_one (ps_ret (pe_tup (pa_cons (pe_op op_mulW (pv 4) (pv 3)) (pa_cons (pe_op op_mulW (pe_op op_mulW (pe_fld (pv 0) rfl) (C8.pe_c (c_chance T) hr (by decide) rfl (pa_cons (pe_fld (pv 0) rfl) (pa_cons (pe_fld (pv 0) rfl) (pa_cons (pv 1) (pa_cons (pv 2) pa_nil)))))) (pv 3)) pa_nil))))))), ?_⟩), B⟩
  · obtain ⟨x, b, n, s, rfl, _⟩ := h
    rfl
  · obtain ⟨x, b, n, s, rfl, o, ⟨a, dx, rfl, ha⟩, hn, hs, k⟩ := h
    have c := T.clsOf (C := "Problem") 105
    have h1 := o.al
    have h2 := o.p0b
    have h3 := o.p1b
    have h4 := o.dm
    have h5 := o.adm
    have h6 := o.h2
    have c2 := dpow_lt (d := (b.d : Int)) (by omega) (by omega) (by omega : b.h - n ≤ 20)
    have c0 := chn_lt (P := (b.p0 : Int)) (d := (b.d : Int)) (by omega) (by omega) (by omega) hs (by omega : n ≤ 20)
    have c1 := chn_lt (P := (b.p1 : Int)) (d := (b.d : Int)) (by omega) (by omega) (by omega) hs (by omega : n ≤ 20)
    have s0 := small_lt (by omega : 0 ≤ (b.ad : Int) - b.a) (by omega)
    have s1 := small_lt (by omega : 0 ≤ (b.a : Int)) (by omega)
    refine ⟨_, rfl, a, _, dx, _, _, rfl, ha, c, T.noat 112, rfl, _, rfl, a, _, dx, _, _, rfl, ha, c, T.noat 109, rfl, _, rfl, _, _, rfl, rfl, (b.d : Int), b.h - n, ?_, small_lt (by omega) (by omega), by omega, ?_⟩
    · rw [show ((b.h - n : Nat) : Int) = (b.h : Int) - (n : Int) by omega]
      rfl
    refine ⟨_, rfl, a, _, dx, _, _, rfl, ha, c, T.noat 114, rfl, _, rfl, a, _, dx, _, _, rfl, ha, c, T.noat 113, rfl, _, _, rfl, rfl, _, rfl, a, _, dx, _, _, rfl, ha, c, T.noat 110, rfl, _, rfl, a, _, dx, _, _, rfl, ha, c, T.noat 112, rfl, _, rfl, _, rfl, (b.p0 : Int), (b.d : Int), n, s, rfl, by omega, by omega, by omega, hs, by omega, ?_⟩
    refine ⟨_, _, rfl, rfl, s0.mulW c0 (by decide), ?_⟩
    refine ⟨_, rfl, _, rfl, _, _, rfl, rfl, (s0.mul c0).mulW c2 (by decide), ?_⟩
    refine ⟨_, rfl, a, _, dx, _, _, rfl, ha, c, T.noat 113, rfl, _, rfl, a, _, dx, _, _, rfl, ha, c, T.noat 111, rfl, _, rfl, a, _, dx, _, _, rfl, ha, c, T.noat 112, rfl, _, rfl, _, rfl, (b.p1 : Int), (b.d : Int), n, s, rfl, by omega, by omega, by omega, hs, by omega, ?_⟩
    refine ⟨_, _, rfl, rfl, s1.mulW c1 (by decide), _, rfl, _, _, rfl, rfl, (s1.mul c1).mulW c2 (by decide), (by show 2 ≤ sizeLine; decide), fun p hp => ?_⟩
    exact k _ _ (same_new hp) (pT_mk (new_at hp) ⟨rfl, rfl, trivial⟩)
theorem c_Problem_weights {P : Program} {w : World} {K : PySem.W.Frag} {mg : Str → Option Value} {base : Heap} (T : Txt K mg) : C8.Met P w K mg base 3 (He.ga K "Problem") "weights" (sp_Problem_weights K) [] := T.met 105 120 (f_Problem_weights T)
def sp_Problem_stop_cost (K : PySem.W.Frag) : Sp := fun vs H Q _ => ∃ (x : V) (b : PB) (n s dec : Nat), vs = [x, nV n, nV s, nV dec] ∧ b.Ok ∧ Pro K b H x ∧ n ≤ b.h ∧ s ≤ n ∧ RetV (.int (stopI b n s dec)) H Q
theorem sc_Problem_stop_cost : FnScope ["self", "n", "s", "decision", "w0", "w1"] ["self", "n", "s", "decision"] (defScope (inClass (topS 39) 3)) := C8.fnScope_by (by decide +kernel)
theorem f_Problem_stop_cost {P : Program} {w : World} {K : PySem.W.Frag} {mg : Str → Option Value} {base : Heap} (T : Txt K mg) : ∃ fd, FnOk P w K mg base CX0 4 (He.ma K (He.ga K "Problem") "stop_cost") fd ["self", "n", "s", "decision"] (sp_Problem_stop_cost K) ∧ Binds K fd ["self", "n", "s", "decision"] [] := by
  obtain ⟨fd, F, B⟩ := T.fnM 3 (ps := ["self", "n", "s", "decision"]) rfl (fun _ _ _ _ _ _ us hl => match us, hl with | [_, _, _, _], _ => rfl)
  refine ⟨fd, F.ok sc_Problem_stop_cost (fun vs H Q E h => ?_) (fun cdv A outer s H vs Q E hr h => ⟨_, PSs.nox (pss_cons (ps_asg (C8.pe_mt (c_Problem_weights T) hr (by decide) (pv 0) (pa_cons (pv 1) (pa_cons (pv 2) pa_nil))) (pg_tup rfl (pgs_cons (pg_name (i := 4) sc_Problem_stop_cost.nd rfl (Or.inl rfl)) (pgs_cons (pg_name (i := 5) sc_Problem_stop_cost.nd rfl (Or.inl rfl)) pgs_nil))))
      (pss_one (ps_ret (pe_ifExp (pt_cmp (pc_eqI (pv 3) (C8.pe_gc rfl (T.int 95)))) (pe_op op_mulW (pe_fld (pv 0) rfl) (pv 5)) (pe_op op_mulW (pe_fld (pv 0) rfl) (pv 4)))))), ?_⟩), B⟩
  · obtain ⟨x, b, n, s, dec, rfl, _⟩ := h
    rfl
  · obtain ⟨x, b, n, s, dec, rfl, o, ⟨a, dx, rfl, ha⟩, hn, hs, k⟩ := h
    have c := T.clsOf (C := "Problem") 105
    have m0 := o.m0
    have m1 := o.m1
    obtain ⟨b0, b1⟩ := wgt_lt o hn hs
    have s0 : Lt2 20 (b.l0 : Int) := by unfold Lt2; omega
    have s1 : Lt2 20 (b.l1 : Int) := by unfold Lt2; omega
    refine ⟨_, rfl, a, dx, _, rfl, ha, rfl, _, rfl, _, rfl, .ref a, b, n, s, rfl, o, ⟨a, dx, rfl, ha⟩, hn, hs, fun v H1 e1 hv => ?_⟩
    obtain ⟨t, rfl, ht⟩ := pT2_at (nw_same |> fun q => (pT _).mono q hv)
    have ha1 := e1 _ _ ha
    have hax := ha1
    refine ⟨t, _, rfl, SqT.of ht, rfl, _, _, rfl, _, _, rfl, rfl, _, rfl, _, _, rfl, rfl, _, rfl, ?_⟩
    unfold stopI at k
    by_cases z : dec = 1
    · rw [if_pos z] at k
      refine if_true_of (decide_eq_true (by omega)) ⟨_, rfl, a, _, dx, _, _, rfl, hax, c, T.noat 117, rfl, _, rfl, _, _, rfl, rfl, s1.mulW b1 (by decide), k _ e1⟩
    · rw [if_neg z] at k
      refine if_false_of (decide_eq_false (by omega)) ⟨_, rfl, a, _, dx, _, _, rfl, hax, c, T.noat 116, rfl, _, rfl, _, _, rfl, rfl, s0.mulW b0 (by decide), k _ e1⟩
theorem c_Problem_stop_cost {P : Program} {w : World} {K : PySem.W.Frag} {mg : Str → Option Value} {base : Heap} (T : Txt K mg) : C8.Met P w K mg base 4 (He.ga K "Problem") "stop_cost" (sp_Problem_stop_cost K) [] := T.met 105 121 (f_Problem_stop_cost T)
def sp_Problem_step_cost (K : PySem.W.Frag) : Sp := fun vs H Q _ => ∃ (x : V) (b : PB) (n s : Nat), vs = [x, nV n, nV s] ∧ b.Ok ∧ Pro K b H x ∧ n ≤ b.h ∧ s ≤ n ∧ RetV (.int (stepI b n s)) H Q
theorem sc_Problem_step_cost : FnScope ["self", "n", "s"] ["self", "n", "s"] (defScope (inClass (topS 39) 4)) := C8.fnScope_by (by decide +kernel)
theorem f_Problem_step_cost {P : Program} {w : World} {K : PySem.W.Frag} {mg : Str → Option Value} {base : Heap} (T : Txt K mg) : ∃ fd, FnOk P w K mg base CX0 4 (He.ma K (He.ga K "Problem") "step_cost") fd ["self", "n", "s"] (sp_Problem_step_cost K) ∧ Binds K fd ["self", "n", "s"] [] := by
  obtain ⟨fd, F, B⟩ := T.fnM 4 (ps := ["self", "n", "s"]) rfl (fun _ _ _ _ _ _ us hl => match us, hl with | [_, _, _], _ => rfl)
  refine ⟨fd, F.ok sc_Problem_step_cost (fun vs H Q E h => ?_) (fun cdv A outer s H vs Q E hr h => ⟨_, PSs.nox (pss_one (ps_ret (pe_op op_mulW (pe_fld (pv 0) rfl) (pe_callB (cr_sumT rfl) (by rfl) (T.free 88) (by decide +kernel) (pa_cons (C8.pe_mt (c_Problem_weights T) hr (by decide) (pv 0) (pa_cons (pv 1) (pa_cons (pv 2) pa_nil))) pa_nil))))), ?_⟩), B⟩
  · obtain ⟨x, b, n, s, rfl, _⟩ := h
    rfl
  · obtain ⟨x, b, n, s, rfl, o, ⟨a, dx, rfl, ha⟩, hn, hs, k⟩ := h
    have c := T.clsOf (C := "Problem") 105
    have m0 := o.cm
    obtain ⟨b0, b1⟩ := wgt_lt o hn hs
    refine ⟨_, rfl, a, _, dx, _, _, rfl, ha, c, T.noat 115, rfl, _, rfl, a, dx, _, rfl, ha, rfl, _, rfl, _, rfl, .ref a, b, n, s, rfl, o, ⟨a, dx, rfl, ha⟩, hn, hs, fun v H1 e1 hv => ?_⟩
    obtain ⟨t, rfl, ht⟩ := pT2_at ((pT _).mono nw_same hv)
    refine ⟨t, [wgt0 b n s, wgt1 b n s], rfl, SqT.of ht, ?_⟩
    have e : [wgt0 b n s, wgt1 b n s].sum = wgt0 b n s + wgt1 b n s := by simp
    rw [e]
    exact ⟨_, _, rfl, rfl, (small_lt (by omega : 0 ≤ (b.c : Int)) (by omega)).mulW (b0.add b1) (by decide), k _ e1⟩
theorem c_Problem_step_cost {P : Program} {w : World} {K : PySem.W.Frag} {mg : Str → Option Value} {base : Heap} (T : Txt K mg) : C8.Met P w K mg base 4 (He.ga K "Problem") "step_cost" (sp_Problem_step_cost K) [] := T.met 105 122 (f_Problem_step_cost T)
/-- a cost with a decision -/
def pCD (x : Int × Nat) : RP := pT [pI x.1, nI x.2]
def sp_Problem_best_stop (K : PySem.W.Frag) : Sp := fun vs H Q _ => ∃ (x : V) (b : PB) (n s : Nat), vs = [x, nV n, nV s] ∧ b.Ok ∧ Pro K b H x ∧ n ≤ b.h ∧ s ≤ n ∧ Ret (pCD (bestI b n s)) H Q
theorem sc_Problem_best_stop : FnScope ["self", "n", "s", "accept", "reject"] ["self", "n", "s"] (defScope (inClass (topS 39) 5)) := C8.fnScope_by (by decide +kernel)
theorem f_Problem_best_stop {P : Program} {w : World} {K : PySem.W.Frag} {mg : Str → Option Value} {base : Heap} (T : Txt K mg) : ∃ fd, FnOk P w K mg base CX0 5 (He.ma K (He.ga K "Problem") "best_stop") fd ["self", "n", "s"] (sp_Problem_best_stop K) ∧ Binds K fd ["self", "n", "s"] [] := by
  obtain ⟨fd, F, B⟩ := T.fnM 5 (ps := ["self", "n", "s"]) rfl (fun _ _ _ _ _ _ us hl => match us, hl with | [_, _, _], _ => rfl)
  refine ⟨fd, F.ok sc_Problem_best_stop (fun vs H Q E h => ?_) (fun cdv A outer s H vs Q E hr h => ⟨_, PSs.nox (pss_cons (ps_par (i := 3) (j := 4) rfl sc_Problem_best_stop.nd rfl rfl (by decide) rfl rfl (pa_cons (C8.pe_mt (c_Problem_stop_cost T) hr (by decide) (pv 0) (pa_cons (pv 1) (pa_cons (pv 2) (pa_cons (C8.pe_gc rfl (T.int 95)) pa_nil)))) (pa_cons (C8.pe_mt (c_Problem_stop_cost T) hr (by decide) (pv 0) (pa_cons (pv 1) (pa_cons (pv 2) (pa_cons (C8.pe_gc rfl (T.int 96)) pa_nil)))) pa_nil)) (by rfl))
      (pss_one (ps_ret (pe_ifExp (pt_cmp (pc_le (pv 3) (pv 4))) (pe_tup (pa_cons (pv 3) (pa_cons (C8.pe_gc rfl (T.int 95)) pa_nil))) (pe_tup (pa_cons (pv 4) (pa_cons (C8.pe_gc rfl (T.int 96)) pa_nil))))))), ?_⟩), B⟩
  · obtain ⟨x, b, n, s, rfl, _⟩ := h
    rfl
  · obtain ⟨x, b, n, s, rfl, o, ⟨a, dx, rfl, ha⟩, hn, hs, k⟩ := h
    refine ⟨_, rfl, a, dx, _, rfl, ha, rfl, _, rfl, _, rfl, .ref a, b, n, s, 1, rfl, o, ⟨a, dx, rfl, ha⟩, hn, hs, fun H1 e1 => ?_⟩
    have ha1 := e1 _ _ ha
    have hax := ha1
    refine ⟨_, rfl, a, dx, _, rfl, ha1, rfl, _, rfl, _, rfl, .ref a, b, n, s, 2, rfl, o, ⟨a, dx, rfl, ha1⟩, hn, hs, fun H2 e2 => ?_⟩
    refine ⟨_, _, rfl, _, rfl, _, rfl, _, _, rfl, rfl, _, rfl, ?_⟩
    unfold bestI at k
    by_cases z : stopI b n s 1 ≤ stopI b n s 2
    · rw [if_pos z] at k
      refine if_true_of (decide_eq_true z) ⟨_, rfl, (by show 2 ≤ sizeLine; decide), fun p hp => ?_⟩
      exact k _ _ ((e1.trans e2).trans (same_new hp)) (pT_mk (new_at2 (e1.trans e2) hp) ⟨rfl, rfl, trivial⟩)
    · rw [if_neg z] at k
      refine if_false_of (decide_eq_false z) ⟨_, rfl, (by show 2 ≤ sizeLine; decide), fun p hp => ?_⟩
      exact k _ _ ((e1.trans e2).trans (same_new hp)) (pT_mk (new_at2 (e1.trans e2) hp) ⟨rfl, rfl, trivial⟩)
theorem c_Problem_best_stop {P : Program} {w : World} {K : PySem.W.Frag} {mg : Str → Option Value} {base : Heap} (T : Txt K mg) : C8.Met P w K mg base 5 (He.ga K "Problem") "best_stop" (sp_Problem_best_stop K) [] := T.met 105 123 (f_Problem_best_stop T)
end SE
/-! ## problems: rows of best decisions -/
namespace SE
open PySem PySem.Spec PyProof.Rows L2
theorem pCD_at {x : Int × Nat} {H : Hp} {v : V} (h : (pCD x).p H v) : ∃ a, v = .ref a ∧ H a = some (.tup [.int x.1, .int (x.2 : Int)]) := pT2_at h
def pCDs (l : List (Int × Nat)) : RP := pL (l.map pCD)
theorem cds_at {l : List (Int × Nat)} {H : Hp} {vs : List V} {s : Nat} (h : All2 (l.map pCD) H vs) (hs : s < l.length) : ∃ a, atI vs (s : Int) = some (.ref a) ∧ H a = some (.tup [.int (l.getD s (0, 0)).1, .int ((l.getD s (0, 0)).2 : Int)]) := by
  obtain ⟨v, h1, h2⟩ := h.at (i := s) (r := pCD (l.getD s (0, 0))) (by rw [List.getElem?_map, List.getElem?_eq_getElem hs, List.getD_eq_getElem?_getD, List.getElem?_eq_getElem hs]; rfl)
  obtain ⟨a, rfl, h3⟩ := pCD_at h2
  exact ⟨a, h1, h3⟩
def sp_Problem_best_row (K : PySem.W.Frag) : Sp := fun vs H Q _ => ∃ (x u : V) (b : PB) (n : Nat) (l : List (Int × Nat)), vs = [x, nV n, u] ∧ b.Ok ∧ Pro K b H x ∧ n ≤ b.h ∧ (pCDs l).p H u ∧ l.length = n + 2 ∧ Ret (pCDs (rowI b n l)) H Q
theorem sc_Problem_best_row : FnScope ["self", "n", "later", "found", "s", "stop", "on"] ["self", "n", "later"] (defScope (inClass (topS 39) 6)) := C8.fnScope_by (by decide +kernel)
theorem f_Problem_best_row {P : Program} {w : World} {K : PySem.W.Frag} {mg : Str → Option Value} {base : Heap} (T : Txt K mg) : ∃ fd, FnOk P w K mg base CX0 6 (He.ma K (He.ga K "Problem") "best_row") fd ["self", "n", "later"] (sp_Problem_best_row K) ∧ Binds K fd ["self", "n", "later"] [] := by
  obtain ⟨fd, F, B⟩ := T.fnM 6 (ps := ["self", "n", "later"]) rfl (fun _ _ _ _ _ _ us hl => match us, hl with | [_, _, _], _ => rfl)
  refine ⟨fd, F.ok sc_Problem_best_row (fun vs H Q E h => ?_) (fun cdv A outer s H vs Q E hr h => ⟨_, PSs.nox (pss_cons (ps_set (i := 3) sc_Problem_best_row.nd rfl (Or.inl rfl) (pe_lst (pa_nil)))
      (pss_cons (ps_for PassesOwn.never rfl (pi_range1 (by rfl) (T.free 84) (pa_cons (pe_op op_add (pv 1) pe_int) pa_nil)) (pg_name (i := 4) sc_Problem_best_row.nd rfl (Or.inl rfl)) (pss_cons (ps_set (i := 5) sc_Problem_best_row.nd rfl (Or.inl rfl) (C8.pe_mt (c_Problem_best_stop T) hr (by decide) (pv 0) (pa_cons (pv 1) (pa_cons (pv 4) pa_nil))))
      (pss_cons (ps_set (i := 6) sc_Problem_best_row.nd rfl (Or.inl rfl) (pe_op op_add (pe_op op_add (C8.pe_mt (c_Problem_step_cost T) hr (by decide) (pv 0) (pa_cons (pv 1) (pa_cons (pv 4) pa_nil))) (pe_ix ix_tup (pe_ix ix_list (pv 2) (pv 4) (fun _ _ => rfl)) pe_int (fun _ _ => rfl))) (pe_ix ix_tup (pe_ix ix_list (pv 2) (pe_op op_add (pv 4) pe_int) (fun _ _ => rfl)) pe_int (fun _ _ => rfl))))
      (pss_one (ps_expr (pe_bm PySem.F.plainAttrs_list PySem.F.slot_list_append PySem.F.type_list_append mt_append (pv 3) (pa_cons (pe_ifExp (pt_cmp (pc_le (pe_ix ix_tup (pv 5) pe_int (fun _ _ => rfl)) (pv 6))) (pv 5) (pe_tup (pa_cons (pv 6) (pa_cons (C8.pe_gc rfl (T.int 94)) pa_nil)))) pa_nil)))))))
      (pss_one (ps_ret (pv 3))))), ?_⟩), B⟩
  · obtain ⟨x, u, b, n, l, rfl, _⟩ := h
    rfl
  · obtain ⟨x, u, b, n, l, rfl, o, ⟨a, dx, rfl, ha⟩, hn, ⟨q, us, rfl, hq, hus⟩, hl, k⟩ := h
    have h20 := o.h2
    refine ⟨(by show 0 ≤ sizeLine; decide), fun f hf => ?_⟩
    refine ⟨_, rfl, _, _, rfl, rfl, _, rfl, by omega, by omega, ?_⟩
    rw [show ((n : Int) + 1).toNat = n + 1 by omega]
    refine for_it walk_range (fun i σ H' => Fill H f H (((List.range i).map fun s => betterI b n s l).map pCD) H' ∧ ∃ x1 x2 x3, σ = [some (.ref a), some (nV n), some (.ref q), some (.ref f), x1, x2, x3])
      ⟨Fill.start hf, none, none, none, rfl⟩ (fun _ _ _ _ _ => trivial) ?_ ?_
    · rintro s x σ H1 H2 hs ⟨F1, x1, x2, x3, rfl⟩ ⟨rfl, hx⟩
      have hx : x = .int (s : Int) := hx.trans (congrArg V.int (by omega))
      subst hx
      have ha1 := F1.up _ _ ha
      refine ⟨_, rfl, a, dx, _, rfl, ha1, rfl, _, rfl, _, rfl, .ref a, b, n, s, rfl, o, ⟨a, dx, rfl, ha1⟩, hn, by omega, fun sv H3 e3 hsv => ?_⟩
      obtain ⟨t, rfl, ht⟩ := pCD_at ((pCD _).mono nw_same hsv)
      have ha3 := e3 _ _ ha1
      refine ⟨_, rfl, a, dx, _, rfl, ha3, rfl, _, rfl, _, rfl, .ref a, b, n, s, rfl, o, ⟨a, dx, rfl, ha3⟩, hn, by omega, fun H4 e4 => ?_⟩
      have sH := F1.up.trans (e3.trans e4)
      have hus4 := hus.mono sH
      obtain ⟨t1, g1, g2⟩ := cds_at hus4 (s := s) (by omega)
      obtain ⟨t2, g3, g4⟩ := cds_at hus4 (s := s + 1) (by omega)
      have hq4 := sH _ _ hq
      refine ⟨_, rfl, _, rfl, q, _, _, _, rfl, rfl, SqL.of hq4, g1, t1, _, 0, _, rfl, rfl, SqT.of g2, rfl, _, _, rfl, rfl, ?_⟩
      refine ⟨_, rfl, _, rfl, _, _, rfl, rfl, q, _, _, _, rfl, rfl, SqL.of hq4, g3, t2, _, 0, _, rfl, rfl, SqT.of g4, rfl, _, _, rfl, rfl, ?_⟩
      obtain ⟨ws, hw1, hw2⟩ := F1.it
      have hw4 := (e3.trans e4) _ _ hw1
      have hwl : ws.length = s := by rw [hw2.len]; simp
      refine ⟨_, rfl, .inl ⟨rfl, _, SqL.of hw4⟩, _, rfl, t, _, 0, _, rfl, rfl, SqT.of (e4 _ _ ht), rfl, _, rfl, _, _, rfl, rfl, _, rfl, ?_⟩
      by_cases z : (bestI b n s).1 ≤ onI b n s l
      · refine if_true_of (decide_eq_true z) ⟨_, rfl, f, ws, _, rfl, rfl, hw4, size_lt (by omega), ?_⟩
        refine ⟨?_, _, _, _, rfl⟩
        rw [map_range_succ, List.map_append]
        refine F1.push (e3.trans e4) hw1 F1.up.dm ?_
        show (pCD (betterI b n s l)).p _ _
        unfold betterI
        rw [if_pos z]
        exact (pCD _).mono (nw_more e4) hsv
      · refine if_false_of (decide_eq_false z) ⟨_, rfl, (by show 2 ≤ sizeLine; decide), fun p hp => ?_⟩
        have e5 := same_new (o := .tup [V.int (onI b n s l), V.int 0]) hp
        refine ⟨f, ws, _, rfl, rfl, e5 _ _ hw4, size_lt (by omega), ?_⟩
        refine ⟨?_, _, _, _, rfl⟩
        rw [map_range_succ, List.map_append]
        refine F1.push ((e3.trans e4).trans e5) hw1 F1.up.dm ?_
        show (pCD (betterI b n s l)).p _ _
        unfold betterI
        rw [if_neg z]
        exact pT_mk (new_at2 (e3.trans e4) hp) ⟨rfl, rfl, trivial⟩
    · rintro σ H1 ⟨F1, x1, x2, x3, rfl⟩
      exact ⟨_, rfl, k _ _ F1.up F1.done⟩
theorem c_Problem_best_row {P : Program} {w : World} {K : PySem.W.Frag} {mg : Str → Option Value} {base : Heap} (T : Txt K mg) : C8.Met P w K mg base 6 (He.ga K "Problem") "best_row" (sp_Problem_best_row K) [] := T.met 105 124 (f_Problem_best_row T)
def pRows (ls : List (List (Int × Nat))) : RP := pL (ls.map pCDs)
theorem rows_first {b : PB} {k : Nat} {H : Hp} {vs : List V} (h : All2 ((rowsI b k).map pCDs) H vs) : ∃ v, atI vs 0 = some v ∧ (pCDs (leastI b k)).p H v :=
  h.at (i := 0) (r := pCDs (leastI b k)) (by rw [List.getElem?_map, rowsI_get b k 0 (Nat.zero_le _)]; rfl)
def sp_Problem_best_rows (K : PySem.W.Frag) : Sp := fun vs H Q _ => ∃ (x : V) (b : PB), vs = [x] ∧ b.Ok ∧ Pro K b H x ∧ Ret (pRows (rowsI b b.h)) H Q
theorem sc_Problem_best_rows : FnScope ["self", "found", "s", "n"] ["self"] (defScope (inClass (topS 39) 7)) := C8.fnScope_by (by decide +kernel)
theorem f_Problem_best_rows {P : Program} {w : World} {K : PySem.W.Frag} {mg : Str → Option Value} {base : Heap} (T : Txt K mg) : ∃ fd, FnOk P w K mg base CX0 7 (He.ma K (He.ga K "Problem") "best_rows") fd ["self"] (sp_Problem_best_rows K) ∧ Binds K fd ["self"] [] := by
  obtain ⟨fd, F, B⟩ := T.fnM 7 (ps := ["self"]) rfl (fun _ _ _ _ _ _ us hl => match us, hl with | [_], _ => rfl)
  refine ⟨fd, F.ok sc_Problem_best_rows (fun vs H Q E h => ?_) (fun cdv A outer s H vs Q E hr h => ⟨_, PSs.nox (pss_cons (ps_set (i := 1) sc_Problem_best_rows.nd rfl (Or.inl rfl) (pe_lst (pa_cons (pe_lc (own := [("s", 2)]) (te := tMeth (He.ga K "Problem") "best_stop" (sp_Problem_best_stop K) [] C8.E0 (tVar 0) (tCons (tFld K (tVar 0) "most") (tCons (tVar 2) tNil))) rfl sc_Problem_best_rows.nd (pi_range1 (by rfl) (T.free 84) (pa_cons (pe_op op_add (pe_fld (pv 0) rfl) pe_int) pa_nil)) (blkOk_by (N := ["self", "found", "s", "n"]) (sc := defScope (inClass (topS 39) 7)) (by decide +kernel)) (fun _ _ _ _ _ => by exact pg_name (i := 2) sc_Problem_best_rows.nd rfl (Or.inl rfl)) (fun _ _ _ _ _ => pts_nil) (fun _ _ _ _ _ => by exact C8.pe_mt (c_Problem_best_stop T) hr (by decide) (pv 0) (pa_cons (pe_fld (pv 0) rfl) (pa_cons (pv 2) pa_nil)))) pa_nil)))
      (pss_cons (ps_for PassesOwn.never rfl (pi_revR (by rfl) (T.free 86) (prg_1 (by rfl) (T.free 84) (pe_fld (pv 0) rfl))) (pg_name (i := 3) sc_Problem_best_rows.nd rfl (Or.inl rfl)) (pss_one (ps_set (i := 1) sc_Problem_best_rows.nd rfl (Or.inl rfl) (pe_op op_cat (pe_lst (pa_cons (C8.pe_mt (c_Problem_best_row T) hr (by decide) (pv 0) (pa_cons (pv 3) (pa_cons (pe_ix ix_list (pv 1) pe_int (fun _ _ => rfl)) pa_nil))) pa_nil)) (pv 1)))))
      (pss_one (ps_ret (pv 1))))), ?_⟩), B⟩
  · obtain ⟨x, b, rfl, _⟩ := h
    rfl
  · obtain ⟨x, b, rfl, o, ⟨a, dx, rfl, ha⟩, k⟩ := h
    have c := T.clsOf (C := "Problem") 105
    have h20 := o.h2
    refine ⟨_, rfl, a, _, dx, _, _, rfl, ha, c, T.noat 109, rfl, _, _, rfl, rfl, _, rfl, by omega, by omega, ?_⟩
    rw [show ((b.h : Int) + 1).toNat = b.h + 1 by omega]
    refine lc_new walk_range (fun s => pCD (bestI b b.h s)) [some (.ref a), none, none, none] (by omega) rfl (fun _ _ => trivial) ?_ ?_
    · rintro s x Hb H' Q' hs e ⟨rfl, hx⟩ q
      have hx : x = .int (s : Int) := hx.trans (congrArg V.int (by omega))
      subst hx
      have hab := e _ _ ha
      exact ⟨rfl, _, rfl, a, dx, _, rfl, hab, rfl, _, rfl, a, _, dx, _, _, rfl, hab, c, T.noat 109, rfl, _, rfl, .ref a, b, b.h, s, rfl, o, ⟨a, dx, rfl, hab⟩, Nat.le_refl _, by omega, q⟩
    · intro r H1 e1 hr
      refine ⟨(by show 1 ≤ sizeLine; decide), fun f hf => ?_⟩
      have e2 := e1.trans (same_new (o := .lst [V.ref r]) hf)
      have e3 : pL ((List.range (b.h + 1)).map fun s => pCD (bestI b b.h s)) = pCDs (leastI b 0) := by
        unfold pCDs leastI
        rw [List.map_map]
        rfl
      rw [e3] at hr
      have haq := e2 _ _ ha
      refine ⟨_, rfl, a, _, dx, _, _, rfl, haq, c, T.noat 109, rfl, _, rfl, by decide, by decide, by omega, by omega, ?_⟩
      rw [show ((b.h : Int) - 0).toNat = b.h by omega]
      refine for_it walk_rangeC (fun i σ H' => Same H H' ∧ ∃ fv x1 x2, σ = [some (.ref a), some fv, x1, x2] ∧ (pRows (rowsI b i)).p (nw H H') fv)
        ⟨e2, _, none, none, rfl, new_lst e1 hf ⟨hr, trivial⟩⟩ (fun _ _ _ _ _ => trivial) ?_ ?_
      · rintro i x σ H2 H3 hi ⟨e3, fv, x1, x2, rfl, hfv⟩ ⟨rfl, hx⟩
        have hi : i < b.h := by omega
        have hx : x = .int ((b.h - (i + 1) : Nat) : Int) := hx.trans (congrArg V.int (by omega))
        subst hx
        obtain ⟨d, us, rfl, hd, hus⟩ := id hfv
        have hd' := nw_same _ _ hd
        have ha3 := e3 _ _ ha
        obtain ⟨v, q1, q2⟩ := rows_first hus
        refine ⟨_, rfl, a, dx, _, rfl, ha3, rfl, _, rfl, _, rfl, d, _, 0, _, rfl, rfl, SqL.of hd', q1, ?_⟩
        refine ⟨.ref a, v, b, b.h - (i + 1), leastI b i, rfl, o, ⟨a, dx, rfl, ha3⟩, by omega, (pCDs _).mono nw_same q2, by rw [leastI_len o (by omega)]; omega, fun z H4 e4 hz => ?_⟩
        refine ⟨(by show 1 ≤ sizeLine; decide), fun f2 hf2 => ?_⟩
        have e6 := same_new (o := .lst [z]) hf2
        have hul : us.length = i + 1 := by rw [hus.len, List.length_map, rowsI_len]
        refine ⟨_, rfl, f2, d, _, us, rfl, rfl, upd_same, e6 _ _ (e4 _ _ hd'), ?_, fun f3 hf3 => ?_⟩
        · show 1 + us.length ≤ sizeLine
          exact size_le (by omega)
        · have e7 := (e3.trans e4).trans e6
          refine ⟨e7.trans (same_new hf3), _, _, _, rfl, ?_⟩
          refine new_lst e7 hf3 ⟨?_, hus.mono (nw_more (e4.trans e6))⟩
          exact (pCDs _).mono (nw_both e3.dm e6) hz
      · rintro σ H2 ⟨e3, fv, x1, x2, rfl, hfv⟩
        exact ⟨_, rfl, k _ _ e3 hfv⟩
theorem c_Problem_best_rows {P : Program} {w : World} {K : PySem.W.Frag} {mg : Str → Option Value} {base : Heap} (T : Txt K mg) : C8.Met P w K mg base 7 (He.ga K "Problem") "best_rows" (sp_Problem_best_rows K) [] := T.met 105 125 (f_Problem_best_rows T)
theorem cds_of {l : List (List (Int × Nat))} {H : Hp} {us : List V} {i : Nat} {x : V} (h : All2 (l.map pCDs) H us) (hx : us[i]? = some x) : (pCDs (l.getD i [])).p H x := by
  obtain ⟨r, g1, g2⟩ := h.item hx
  rw [List.getElem?_map] at g1
  cases hz : l[i]? with
  | none => rw [hz] at g1; cases g1
  | some z =>
    rw [hz] at g1
    cases g1
    rw [List.getD_eq_getElem?_getD, hz]
    exact g2
theorem cd_of {l : List (Int × Nat)} {H : Hp} {us : List V} {i : Nat} {x : V} (h : All2 (l.map pCD) H us) (hx : us[i]? = some x) : (pCD (l.getD i (0, 0))).p H x := by
  obtain ⟨r, g1, g2⟩ := h.item hx
  rw [List.getElem?_map] at g1
  cases hz : l[i]? with
  | none => rw [hz] at g1; cases g1
  | some z =>
    rw [hz] at g1
    cases g1
    rw [List.getD_eq_getElem?_getD, hz]
    exact g2
theorem map_range_of {α β : Type} (f : α → β) (d : α) (l : List α) {n : Nat} (h : n = l.length) : (List.range n).map (fun i => f (l.getD i d)) = l.map f := by
  subst h
  refine List.ext_getElem? fun i => ?_
  by_cases h : i < l.length
  · rw [List.getElem?_map, List.getElem?_range h, List.getElem?_map, List.getElem?_eq_getElem h, Option.map_some, Option.map_some, List.getD_eq_getElem?_getD, List.getElem?_eq_getElem h]
    rfl
  · rw [List.getElem?_eq_none (by simp; omega), List.getElem?_eq_none (by simp; omega)]
def sp_Problem_optimal_plan (K : PySem.W.Frag) : Sp := fun vs H Q _ => ∃ (x : V) (b : PB), vs = [x] ∧ b.Ok ∧ Pro K b H x ∧ Ret (pPlan (Kxd7.optimalPlan b.K b.h).table) H Q
theorem sc_Problem_optimal_plan : FnScope ["self", "cost", "decision", "row"] ["self"] (defScope (inClass (topS 39) 8)) := C8.fnScope_by (by decide +kernel)
theorem f_Problem_optimal_plan {P : Program} {w : World} {K : PySem.W.Frag} {mg : Str → Option Value} {base : Heap} (T : Txt K mg) : ∃ fd, FnOk P w K mg base CX0 8 (He.ma K (He.ga K "Problem") "optimal_plan") fd ["self"] (sp_Problem_optimal_plan K) ∧ Binds K fd ["self"] [] := by
  obtain ⟨fd, F, B⟩ := T.fnM 8 (ps := ["self"]) rfl (fun _ _ _ _ _ _ us hl => match us, hl with | [_], _ => rfl)
  refine ⟨fd, F.ok sc_Problem_optimal_plan (fun vs H Q E h => ?_) (fun cdv A outer s H vs Q E hr h => ⟨_, PSs.nox (pss_one (ps_ret (pe_lc (own := [("row", 3)]) (te := tLc (iList K (tVar 3)) (gTup K 2 (gCons (gName 1) (gCons (gName 2) gNil))) tYes (tVar 2) [1, 2]) rfl sc_Problem_optimal_plan.nd (pi_list (C8.pe_mt0 (c_Problem_best_rows T) hr (by decide) (pv 0))) (blkOk_by (N := ["self", "cost", "decision", "row"]) (sc := defScope (inClass (topS 39) 8)) (by decide +kernel)) (fun _ _ _ _ _ => by exact pg_name (i := 3) sc_Problem_optimal_plan.nd rfl (Or.inl rfl)) (fun _ _ _ _ _ => pts_nil) (fun _ _ _ _ _ => by exact pe_lc (own := [("cost", 1), ("decision", 2)]) (g := gTup K 2 (gCons (gName 1) (gCons (gName 2) gNil))) rfl sc_Problem_optimal_plan.nd (pi_list (pv 3)) (blkOk_by (N := ["self", "cost", "decision", "row"]) (sc := lcSc ((defBody (inClass (topS 39) 8)).getD 0 (.Pass ⟨0, 0, 0, 0⟩))) (by decide +kernel)) (fun _ _ _ _ _ => by exact pg_tup rfl (pgs_cons (pg_name (i := 1) sc_Problem_optimal_plan.nd rfl (Or.inl rfl)) (pgs_cons (pg_name (i := 2) sc_Problem_optimal_plan.nd rfl (Or.inl rfl)) pgs_nil))) (fun _ _ _ _ _ => pts_nil) (fun _ _ _ _ _ => by exact pv 2))))), ?_⟩), B⟩
  · obtain ⟨x, b, rfl, _⟩ := h
    rfl
  · obtain ⟨x, b, rfl, o, ⟨a, dx, rfl, ha⟩, k⟩ := h
    have h20 := o.h2
    refine ⟨_, rfl, a, dx, _, rfl, ha, rfl, .ref a, b, rfl, o, ⟨a, dx, rfl, ha⟩, fun rv H1 e1 hr => ?_⟩
    obtain ⟨q, us, rfl, hq, hus⟩ := (pRows (rowsI b b.h)).mono nw_same hr
    have hul : us.length = b.h + 1 := by rw [hus.len, List.length_map, rowsI_len]
    refine ⟨q, rfl, ⟨us, SqL.of hq⟩, ?_⟩
    refine lc_new (walk_list (K := K) (a := q) (xs := us)) (fun n => pRow (((rowsI b b.h).getD n []).map (·.2))) [some (.ref a), none, none, none] (by omega) rfl (fun H' e => SqL.of (e _ _ hq)) ?_ ?_
    · rintro n x Hb H' Q' hn e ⟨rfl, hx⟩ q2
      obtain ⟨t, ws, rfl, ht, hws⟩ := (pCDs _).mono e (cds_of hus hx)
      have hwl : ws.length ≤ 21 := by
        rw [hws.len, List.length_map, List.getD_eq_getElem?_getD, rowsI_get b b.h n (by omega)]
        show (leastI b (b.h - n)).length ≤ 21
        rw [leastI_len o (by omega)]
        omega
      refine ⟨rfl, _, rfl, t, rfl, ⟨ws, SqL.of ht⟩, ?_⟩
      refine lc_new (walk_list (K := K) (a := t) (xs := ws)) (fun s => nI (((rowsI b b.h).getD n []).getD s (0, 0)).2) [some (.ref a), none, none, some (.ref t)] (by omega) rfl (fun H' e => SqL.of (e _ _ ht)) ?_ ?_
      · rintro s y Hc H'' Q2 hs e2 ⟨rfl, hy⟩ q3
        obtain ⟨z, rfl, hz⟩ := pCD_at ((pCD _).mono e2 (cd_of hws hy))
        exact ⟨z, _, rfl, SqT.of hz, rfl, _, _, rfl, _, _, rfl, rfl, rfl, _, rfl, q3 _ _ (Same.refl _) rfl⟩
      · intro c H3 e3 hc
        refine q2 _ _ e3 ?_
        unfold pRow
        rw [List.map_map, ← map_range_of (nI ∘ fun x : Int × Nat => x.2) (0, 0) ((rowsI b b.h).getD n []) (n := ws.length) (by rw [hws.len, List.length_map])]
        exact hc
    · intro c H3 e3 hc
      refine k _ _ (e1.trans e3) ?_
      rw [optimal_table o]
      unfold pPlan
      rw [List.map_map, ← map_range_of (pRow ∘ fun r : List (Int × Nat) => r.map (·.2)) [] (rowsI b b.h) (n := us.length) (by rw [hus.len, List.length_map])]
      exact (pL _).mono (nw_ground e1.dm) hc
theorem c_Problem_optimal_plan {P : Program} {w : World} {K : PySem.W.Frag} {mg : Str → Option Value} {base : Heap} (T : Txt K mg) : C8.Met P w K mg base 8 (He.ga K "Problem") "optimal_plan" (sp_Problem_optimal_plan K) [] := T.met 105 126 (f_Problem_optimal_plan T)
def sp_Problem_least_cost (K : PySem.W.Frag) : Sp := fun vs H Q _ => ∃ (x : V) (b : PB), vs = [x] ∧ b.Ok ∧ Pro K b H x ∧ Ret (pF (Kxd7.leastCost b.K b.h)) H Q
theorem D_lt {b : PB} (o : b.Ok) : Lt2 8000 b.D := by
  have h1 := o.adm
  have h2 := o.dm
  exact ((small_lt (by omega : 0 ≤ (b.ad : Int)) (by omega)).mul (dpow_lt (by omega : 0 ≤ (b.d : Int)) (by omega) o.h2)).mono (by decide)
theorem sc_Problem_least_cost : FnScope ["self"] ["self"] (defScope (inClass (topS 39) 9)) := C8.fnScope_by (by decide +kernel)
theorem f_Problem_least_cost {P : Program} {w : World} {K : PySem.W.Frag} {mg : Str → Option Value} {base : Heap} (T : Txt K mg) : ∃ fd, FnOk P w K mg base CX0 8 (He.ma K (He.ga K "Problem") "least_cost") fd ["self"] (sp_Problem_least_cost K) ∧ Binds K fd ["self"] [] := by
  obtain ⟨fd, F, B⟩ := T.fnM 9 (ps := ["self"]) rfl (fun _ _ _ _ _ _ us hl => match us, hl with | [_], _ => rfl)
  refine ⟨fd, F.ok sc_Problem_least_cost (fun vs H Q E h => ?_) (fun cdv A outer s H vs Q E hr h => ⟨_, PSs.nox (pss_one (ps_ret (C8.pe_c (c_ratio T) hr (by decide) rfl (pa_cons (pe_ix ix_tup (pe_ix ix_list (pe_ix ix_list (C8.pe_mt0 (c_Problem_best_rows T) hr (by decide) (pv 0)) pe_int (fun _ _ => rfl)) pe_int (fun _ _ => rfl)) pe_int (fun _ _ => rfl)) (pa_cons (C8.pe_mt0 (c_Problem_whole T) hr (by decide) (pv 0)) pa_nil))))), ?_⟩), B⟩
  · obtain ⟨x, b, rfl, _⟩ := h
    rfl
  · obtain ⟨x, b, rfl, o, ⟨a, dx, rfl, ha⟩, k⟩ := h
    rw [(leastCost_is o).frac] at k
    refine ⟨_, rfl, a, dx, _, rfl, ha, rfl, .ref a, b, rfl, o, ⟨a, dx, rfl, ha⟩, fun rv H1 e1 hr => ?_⟩
    obtain ⟨q, us, rfl, hq, hus⟩ := (pRows (rowsI b b.h)).mono nw_same hr
    obtain ⟨v, g1, t, ws, rfl, ht, hws⟩ := rows_first hus
    obtain ⟨u, g2, g3⟩ := cds_at hws (s := 0) (by rw [leastI_len o (Nat.le_refl _)]; omega)
    have ha1 := e1 _ _ ha
    exact ⟨q, _, 0, _, rfl, rfl, SqL.of hq, g1, t, _, 0, _, rfl, rfl, SqL.of ht, g2, u, _, 0, _, rfl, rfl, SqT.of g3, rfl, _, rfl, a, dx, _, rfl, ha1, rfl, .ref a, b, rfl, o, ⟨a, dx, rfl, ha1⟩, _, _, rfl, leastI_pos o _ _, o.D, D_lt o, k.from e1⟩
theorem c_Problem_least_cost {P : Program} {w : World} {K : PySem.W.Frag} {mg : Str → Option Value} {base : Heap} (T : Txt K mg) : C8.Met P w K mg base 8 (He.ga K "Problem") "least_cost" (sp_Problem_least_cost K) [] := T.met 105 127 (f_Problem_least_cost T)
def sp_Problem_cost_of (K : PySem.W.Frag) : Sp := fun vs H Q _ => ∃ (x u : V) (b : PB) (p : Kxd7.Plan), vs = [x, u] ∧ b.Ok ∧ Pro K b H x ∧ Wf p ∧ p.horizon = b.h ∧ (pPlan p.table).p H u ∧ Ret (pF (Kxd7.planCost b.K p)) H Q
theorem planI_pos {b : PB} (o : b.Ok) (p : Kxd7.Plan) : 0 ≤ planI b p := by
  unfold planI
  generalize Kxd7.stops p = l
  induction l with
  | nil => exact Int.le_refl 0
  | cons z l ih =>
    rw [List.map_cons, List.sum_cons]
    have h1 := step_pos o z.1 z.2
    have h2 := stop_pos o z.1 z.2 (Kxd7.decision p z.1 z.2)
    have h3 : 0 ≤ (Kxd7.paths p z.1 z.2 : Int) * ((z.1 : Int) * stepI b z.1 z.2 + stopI b z.1 z.2 (Kxd7.decision p z.1 z.2)) :=
      Int.mul_nonneg (by omega) (Int.add_nonneg (Int.mul_nonneg (by omega) h1) h2)
    omega
theorem cost_lt {b : PB} (o : b.Ok) {n s dec : Nat} (hn : n ≤ b.h) (hs : s ≤ n) : Lt2 1450 (stepI b n s) ∧ Lt2 1450 (stopI b n s dec) := by
  have m0 := o.m0
  have m1 := o.m1
  have m2 := o.cm
  obtain ⟨b0, b1⟩ := wgt_lt o hn hs
  have s0 : Lt2 20 (b.l0 : Int) := by unfold Lt2; omega
  have s1 : Lt2 20 (b.l1 : Int) := by unfold Lt2; omega
  refine ⟨((small_lt (by omega : 0 ≤ (b.c : Int)) (by omega)).mul (b0.add b1)).mono (by decide), ?_⟩
  unfold stopI
  split
  · exact (s1.mul b1).mono (by decide)
  · exact (s0.mul b0).mono (by decide)
theorem sc_Problem_cost_of : FnScope ["self", "plan", "total", "n", "s", "many", "decision"] ["self", "plan"] (defScope (inClass (topS 39) 10)) := C8.fnScope_by (by decide +kernel)
theorem f_Problem_cost_of {P : Program} {w : World} {K : PySem.W.Frag} {mg : Str → Option Value} {base : Heap} (T : Txt K mg) : ∃ fd, FnOk P w K mg base CX0 5 (He.ma K (He.ga K "Problem") "cost_of") fd ["self", "plan"] (sp_Problem_cost_of K) ∧ Binds K fd ["self", "plan"] [] := by
  obtain ⟨fd, F, B⟩ := T.fnM 10 (ps := ["self", "plan"]) rfl (fun _ _ _ _ _ _ us hl => match us, hl with | [_, _], _ => rfl)
  refine ⟨fd, F.ok sc_Problem_cost_of (fun vs H Q E h => ?_) (fun cdv A outer s H vs Q E hr h => ⟨_, PSs.nox (pss_cons (ps_set (i := 2) sc_Problem_cost_of.nd rfl (Or.inl rfl) pe_int)
      (pss_cons (ps_for PassesOwn.never rfl (pi_list (C8.pe_c (c_stops_of T) hr (by decide) rfl (pa_cons (pv 1) pa_nil))) (pg_tup rfl (pgs_cons (pg_name (i := 3) sc_Problem_cost_of.nd rfl (Or.inl rfl)) (pgs_cons (pg_name (i := 4) sc_Problem_cost_of.nd rfl (Or.inl rfl)) (pgs_cons (pg_name (i := 5) sc_Problem_cost_of.nd rfl (Or.inl rfl)) (pgs_cons (pg_name (i := 6) sc_Problem_cost_of.nd rfl (Or.inl rfl)) pgs_nil))))) (pss_one (ps_set (i := 2) sc_Problem_cost_of.nd rfl (Or.inl rfl) (pe_op op_add (pv 2) (pe_op op_mulW (pv 5) (pe_op op_add (pe_op op_mulW (pv 3) (C8.pe_mt (c_Problem_step_cost T) hr (by decide) (pv 0) (pa_cons (pv 3) (pa_cons (pv 4) pa_nil)))) (C8.pe_mt (c_Problem_stop_cost T) hr (by decide) (pv 0) (pa_cons (pv 3) (pa_cons (pv 4) (pa_cons (pv 6) pa_nil))))))))))
      (pss_one (ps_ret (C8.pe_c (c_ratio T) hr (by decide) rfl (pa_cons (pv 2) (pa_cons (C8.pe_mt0 (c_Problem_whole T) hr (by decide) (pv 0)) pa_nil))))))), ?_⟩), B⟩
  · obtain ⟨x, u, b, p, rfl, _⟩ := h
    rfl
  · obtain ⟨x, u, b, p, rfl, o, ⟨a, dx, rfl, ha⟩, wf, hp, hv, k⟩ := h
    rw [(planCost_is o wf hp).frac] at k
    have h20 := o.h2
    refine ⟨_, rfl, u, p, rfl, wf.lay, hv, fun sv H1 e1 hsv => ?_⟩
    obtain ⟨q, us, rfl, hq, hus⟩ := (pStops p).mono nw_same hsv
    have hl : us.length = (Kxd7.stops p).length := by rw [hus.len, List.length_map]
    refine ⟨q, rfl, ⟨us, SqL.of hq⟩, for_it (walk_list (K := K) (a := q) (xs := us)) (fun i σ H' => Same H1 H' ∧ ∃ x1 x2 x3 x4, σ = [some (.ref a), some u, some (.int (((Kxd7.stops p).take i).map fun z => (Kxd7.paths p z.1 z.2 : Int) * ((z.1 : Int) * stepI b z.1 z.2 + stopI b z.1 z.2 (Kxd7.decision p z.1 z.2))).sum), x1, x2, x3, x4])
      ⟨Same.refl _, none, none, none, none, rfl⟩ (fun i σ H' _ z => SqL.of (z.1 _ _ hq)) ?_ ?_⟩
    · rintro i x σ H2 H3 hi ⟨e2, x1, x2, x3, x4, rfl⟩ ⟨rfl, hx⟩
      obtain ⟨z, hz, t, rfl, ht⟩ := stops_item hus hx
      obtain ⟨m1, m2, _, _⟩ := mem_stops (List.mem_of_getElem? hz)
      have ha2 := e2 _ _ (e1 _ _ ha)
      obtain ⟨c1, c2⟩ := cost_lt o (dec := Kxd7.decision p z.1 z.2) (show z.1 ≤ b.h by omega) m2
      refine ⟨t, _, rfl, SqT.of (e2 _ _ ht), rfl, _, _, rfl, _, _, rfl, _, _, rfl, _, _, rfl, rfl, ?_⟩
      refine ⟨_, rfl, _, rfl, _, rfl, _, rfl, a, dx, _, rfl, ha2, rfl, _, rfl, _, rfl, .ref a, b, z.1, z.2, rfl, o, ⟨a, dx, rfl, ha2⟩, by omega, m2, fun H4 e4 => ?_⟩
      have ha4 := e4 _ _ ha2
      refine ⟨_, _, rfl, rfl, (small_lt (by omega : 0 ≤ (z.1 : Int)) (by omega)).mulW c1 (by decide), ?_⟩
      refine ⟨_, rfl, a, dx, _, rfl, ha4, rfl, _, rfl, _, rfl, _, rfl, .ref a, b, z.1, z.2, Kxd7.decision p z.1 z.2, rfl, o, ⟨a, dx, rfl, ha4⟩, by omega, m2, fun H5 e5 => ?_⟩
      refine ⟨_, _, rfl, rfl, _, _, rfl, rfl, (paths_lt p z.2 (by omega : z.1 ≤ 20)).mulW ((((small_lt (by omega : 0 ≤ (z.1 : Int)) (by omega)).mul c1).mono (by decide : 20 + 1450 ≤ 1470)).add (c2.mono (by decide : 1450 ≤ 1470))) (by decide), _, _, rfl, rfl, ?_⟩
      refine ⟨e2.trans (e4.trans e5), some (.int z.1), some (.int z.2), some (.int (Kxd7.paths p z.1 z.2 : Nat)), some (.int (Kxd7.decision p z.1 z.2 : Nat)), ?_⟩
      rw [take_more hz, List.map_append, List.sum_append]
      have e : (Kxd7.paths p z.1 z.2 : Int) * ((z.1 : Int) * stepI b z.1 z.2 + stopI b z.1 z.2 (Kxd7.decision p z.1 z.2)) = ([z].map fun z => (Kxd7.paths p z.1 z.2 : Int) * ((z.1 : Int) * stepI b z.1 z.2 + stopI b z.1 z.2 (Kxd7.decision p z.1 z.2))).sum := by simp
      rw [← e]
      rfl
    · rintro σ H2 ⟨e2, x1, x2, x3, x4, rfl⟩
      rw [hl, List.take_length]
      have ha2 := e2 _ _ (e1 _ _ ha)
      exact ⟨_, rfl, _, rfl, a, dx, _, rfl, ha2, rfl, .ref a, b, rfl, o, ⟨a, dx, rfl, ha2⟩, _, _, rfl, planI_pos o p, o.D, D_lt o, k.from (e1.trans e2)⟩
theorem c_Problem_cost_of {P : Program} {w : World} {K : PySem.W.Frag} {mg : Str → Option Value} {base : Heap} (T : Txt K mg) : C8.Met P w K mg base 5 (He.ga K "Problem") "cost_of" (sp_Problem_cost_of K) [] := T.met 105 128 (f_Problem_cost_of T)
end SE
/-! ## two-stage plans -/
namespace SE
open PySem PySem.Spec PyProof.Rows L2
def sp_choices : Sp := fun vs H Q _ => ∃ n s : Nat, vs = [nV n, nV s] ∧ n ≤ 8 ∧ s ≤ n ∧ Q (.int (cho n s : Nat)) H
theorem hu64 {A : Around} {k : Nat} (hr : Room k A) : A.units + 64 < cLine := by have := hr.un; omega
theorem cho_lt {n i : Nat} (h : n ≤ 8) (hi : i ≤ 9) : Lt2 7 (cho n i : Int) := nat_lt2 (Nat.lt_of_le_of_lt (cho_le n (by omega) i (by omega)) (by decide))
theorem sc_choices : FnScope ["n", "s", "found", "place"] ["n", "s"] (defScope (topS 41)) := C8.fnScope_by (by decide +kernel)
theorem c_choices {P : Program} {w : World} {K : PySem.W.Frag} {mg : Str → Option Value} {base : Heap} (T : Txt K mg) : C8.Cal P w K mg base 1 "choices" sp_choices [] := by
  refine T.cal 32 33 rfl rfl sc_choices (fun _ _ _ _ _ _ us hl => match us, hl with | [_, _], _ => rfl) (fun vs H Q E h => ?_) (fun cdv A outer s H vs Q E hr h => ⟨_, pss_cons (ps_set (i := 2) sc_choices.nd rfl (Or.inl rfl) pe_int)
      (pss_cons (ps_for PassesOwn.never rfl (pi_range1 (by rfl) (T.free 84) (pa_cons (pv 1) pa_nil)) (pg_name (i := 3) sc_choices.nd rfl (Or.inl rfl)) (pss_one (ps_set (i := 2) sc_choices.nd rfl (Or.inl rfl) (pe_op op_fdivW (pe_op op_mulW (pv 2) (pe_op op_sub (pv 0) (pv 3))) (pe_op op_add (pv 3) pe_int)))))
      (pss_one (ps_ret (pv 2)))), ?_⟩)
  · obtain ⟨n, s, rfl, _⟩ := h
    rfl
  · obtain ⟨n, s, rfl, hn, hs, k⟩ := h
    refine ⟨_, rfl, _, rfl, by omega, by omega, ?_⟩
    rw [show ((s : Int)).toNat = s by omega]
    refine for_it walk_range (fun i σ H' => H' = H ∧ ∃ x, σ = [some (nV n), some (nV s), some (nV (cho n i)), x]) ⟨rfl, none, by rw [cho_zero]; rfl⟩ (fun _ _ _ _ _ => trivial) ?_ ?_
    · rintro i x σ H1 H2 hi ⟨rfl, x1, rfl⟩ ⟨rfl, hx⟩
      have hx : x = .int (i : Int) := hx.trans (congrArg V.int (by omega))
      subst hx
      have c1 := cho_lt hn (i := i) (by omega)
      have c2 : Lt2 7 ((n : Int) - (i : Int)) := by unfold Lt2; omega
      have c3 := c1.mul c2
      have e0 := cho_step n (by omega) i (by omega) (by omega)
      have e1 : (cho n i : Int) * ((n : Int) - (i : Int)) = (cho n (i + 1) : Int) * ((i : Int) + 1) := by
        have := congrArg (fun x : Nat => (x : Int)) e0
        simp only [Int.natCast_mul] at this
        rw [show (n : Int) - (i : Int) = ((n - i : Nat) : Int) by omega, this]
        rfl
      refine ⟨_, rfl, _, rfl, _, rfl, _, _, rfl, rfl, _, _, rfl, rfl, c1.mulW c2 (by decide), ?_⟩
      refine ⟨_, rfl, _, _, rfl, rfl, _, _, rfl, rfl, wide_div (b := 14) (by show (0 : Int) < (i : Int) + 1; omega) ?_ (by decide) (by decide), rfl, some (.int (i : Int)), ?_⟩
      · show ((i : Int) + 1).natAbs < 2 ^ 14
        omega
      · have e2 : (cho n i : Int) * ((n : Int) - (i : Int)) / ((i : Int) + 1) = (cho n (i + 1) : Int) := by
          rw [e1]
          exact Int.mul_ediv_cancel _ (by omega)
        show _ = [some (nV n), some (nV s), some (V.int (cho n (i + 1) : Int)), _]
        rw [← e2]
        rfl
    · rintro σ H1 ⟨rfl, x1, rfl⟩
      exact ⟨_, rfl, k⟩
structure PD (p d : Int) : Prop where
  h0 : 0 ≤ p
  h1 : p ≤ d
  h2 : 0 < d
  h3 : d ≤ 1000
def sp_exactly : Sp := fun vs H Q _ => ∃ (p d : Int) (n s : Nat), vs = [.int p, .int d, nV n, nV s] ∧ PD p d ∧ n ≤ 8 ∧ s ≤ n ∧ Q (.int (exI p d n s)) H
theorem exI_lt {p d : Int} (g : PD p d) {n s : Nat} (hn : n ≤ 8) (hs : s ≤ n) : Lt2 907 (exI p d n s) := (cho_lt hn (by omega)).mul (chn_lt g.h0 g.h1 g.h3 hs (by omega))
theorem sc_exactly : FnScope ["p", "divisor", "n", "s"] ["p", "divisor", "n", "s"] (defScope (topS 42)) := C8.fnScope_by (by decide +kernel)
theorem c_exactly {P : Program} {w : World} {K : PySem.W.Frag} {mg : Str → Option Value} {base : Heap} (T : Txt K mg) : C8.Cal P w K mg base 3 "exactly" sp_exactly [] := by
  refine T.cal 33 34 rfl rfl sc_exactly (fun _ _ _ _ _ _ us hl => match us, hl with | [_, _, _, _], _ => rfl) (fun vs H Q E h => ?_) (fun cdv A outer s H vs Q E hr h => ⟨_, pss_one (ps_ret (pe_op op_mulW (C8.pe_c (c_choices T) hr (by decide) rfl (pa_cons (pv 2) (pa_cons (pv 3) pa_nil))) (C8.pe_c (c_chance T) hr (by decide) rfl (pa_cons (pv 0) (pa_cons (pv 1) (pa_cons (pv 2) (pa_cons (pv 3) pa_nil))))))), ?_⟩)
  · obtain ⟨p, d, n, s, rfl, _⟩ := h
    rfl
  · obtain ⟨p, d, n, s, rfl, g, hn, hs, k⟩ := h
    refine ⟨_, rfl, _, rfl, n, s, rfl, hn, hs, _, rfl, _, rfl, _, rfl, _, rfl, p, d, n, s, rfl, g.h0, g.h1, g.h3, hs, by omega, ?_⟩
    exact ⟨_, _, rfl, rfl, (cho_lt hn (by omega)).mulW (chn_lt g.h0 g.h1 g.h3 hs (by omega)) (by decide), k⟩
def sp_at_most : Sp := fun vs H Q _ => ∃ (p d : Int) (n : Nat) (s : Int), vs = [.int p, .int d, nV n, .int s] ∧ PD p d ∧ n ≤ 8 ∧ -100 ≤ s ∧ s ≤ 100 ∧ RetV (.int (atmI p d n s)) H Q
theorem sc_at_most : FnScope ["p", "divisor", "n", "s", "one"] ["p", "divisor", "n", "s"] (defScope (topS 43)) := C8.fnScope_by (by decide +kernel)
theorem c_at_most {P : Program} {w : World} {K : PySem.W.Frag} {mg : Str → Option Value} {base : Heap} (T : Txt K mg) : C8.Cal P w K mg base 4 "at_most" sp_at_most [] := by
  refine T.cal 34 35 rfl rfl sc_at_most (fun _ _ _ _ _ _ us hl => match us, hl with | [_, _, _, _], _ => rfl) (fun vs H Q E h => ?_) (fun cdv A outer s H vs Q E hr h => ⟨_, pss_one (ps_ret (pe_callB (cr_sum rfl) (by rfl) (T.free 88) (by decide +kernel) (pa_cons (pe_lc (own := [("one", 4)]) rfl sc_at_most.nd (pi_range1 (by rfl) (T.free 84) (pa_cons (pe_op op_add (pe_callB (call_min2 rfl) (by rfl) (T.free 89) (by decide +kernel) (pa_cons (pv 2) (pa_cons (pv 3) pa_nil))) pe_int) pa_nil)) (blkOk_by (N := ["p", "divisor", "n", "s", "one"]) (sc := defScope (topS 43)) (by decide +kernel)) (fun _ _ _ _ _ => by exact pg_name (i := 4) sc_at_most.nd rfl (Or.inl rfl)) (fun _ _ _ _ _ => pts_nil) (fun _ _ _ _ _ => by exact C8.pe_c (c_exactly T) hr (by decide) rfl (pa_cons (pv 0) (pa_cons (pv 1) (pa_cons (pv 2) (pa_cons (pv 4) pa_nil)))))) pa_nil))), ?_⟩)
  · obtain ⟨p, d, n, s, rfl, _⟩ := h
    rfl
  · obtain ⟨p, d, n, s, rfl, g, hn, hs1, hs2, k⟩ := h
    have em : (if s < (n : Int) then s else (n : Int)) = min (n : Int) s := by omega
    refine ⟨_, rfl, _, rfl, _, _, rfl, _, _, rfl, rfl, _, rfl, ?_⟩
    rw [em]
    refine ⟨by omega, by omega, ?_⟩
    refine lc_ints walk_range (exI p d n) [some (.int p), some (.int d), some (nV n), some (.int s), none] (by omega) rfl (fun _ _ => trivial) ?_ ?_
    · rintro i x Hb H' Q' hi e ⟨rfl, hx⟩ q
      have hx : x = .int (i : Int) := hx.trans (congrArg V.int (by omega))
      subst hx
      exact ⟨rfl, _, rfl, _, rfl, _, rfl, _, rfl, p, d, n, i, rfl, g, hn, by omega, q _ (Same.refl _)⟩
    · intro D H1 e1 hD
      obtain ⟨a, vs, ea, ha, hv⟩ := hD
      cases ea
      rw [ints_all hv] at ha
      refine ⟨D, _, rfl, SqL.of (of_nw ha).2, ?_⟩
      rw [sum_range, ← atmI_range]
      exact k _ e1
theorem lt2_zero (b : Nat) : Lt2 b 0 := Nat.pow_pos (by decide)
theorem sumR_lt {b : Nat} {f : Nat → Int} : ∀ {n : Nat}, (∀ i, i < n → Lt2 b (f i)) → Lt2 (b + n) (sumR f n)
  | 0, _ => by
    exact lt2_zero _
  | n + 1, h => ((sumR_lt (n := n) fun i hi => h i (by omega)).add ((h n (by omega)).mono (by omega)))
theorem atmI_lt {p d : Int} (g : PD p d) {n : Nat} {j : Int} (hn : n ≤ 8) : Lt2 916 (atmI p d n j) := by
  unfold atmI
  refine Lt2.mono (sumR_lt (b := 907) fun i hi => ?_) (by omega : 907 + (n + 1) ≤ 916)
  split
  · exact exI_lt g hn (by omega)
  · exact lt2_zero _
theorem atmI_pos {p d : Int} (g : PD p d) : ∀ (n : Nat) (j : Int), 0 ≤ atmI p d n j ∧ atmI p d n j ≤ d ^ n
  | 0, j => by
    rw [atmI_zero, Int.pow_zero]
    split <;> omega
  | n + 1, j => by
    obtain ⟨a1, a2⟩ := atmI_pos g n j
    obtain ⟨b1, b2⟩ := atmI_pos g n (j - 1)
    have h0 := g.h0
    have h1 := g.h1
    rw [atmI_succ, Int.pow_succ]
    have c1 : 0 ≤ (d - p) * atmI p d n j := Int.mul_nonneg (by omega) a1
    have c2 : 0 ≤ p * atmI p d n (j - 1) := Int.mul_nonneg h0 b1
    have c3 : (d - p) * atmI p d n j ≤ (d - p) * d ^ n := Int.mul_le_mul_of_nonneg_left a2 (by omega)
    have c4 : p * atmI p d n (j - 1) ≤ p * d ^ n := Int.mul_le_mul_of_nonneg_left b2 h0
    have e : d ^ n * d = (d - p) * d ^ n + p * d ^ n := by grind
    omega
def stgP (z : Nat × Nat × Nat × Nat) : RP := pT [nI z.1, nI z.2.1, nI z.2.2.1, nI z.2.2.2]
def sp_accepted : Sp := fun vs H Q _ => ∃ (p d : Int) (v : V) (z : Nat × Nat × Nat × Nat), vs = [.int p, .int d, v] ∧ PD p d ∧ Stg z ∧ (stgP z).p H v ∧ RetV (.int (accI p d z)) H Q
theorem sc_accepted : FnScope ["p", "divisor", "stages", "first", "first_limit", "size", "limit", "total", "s"] ["p", "divisor", "stages"] (defScope (topS 44)) := C8.fnScope_by (by decide +kernel)
theorem c_accepted {P : Program} {w : World} {K : PySem.W.Frag} {mg : Str → Option Value} {base : Heap} (T : Txt K mg) : C8.Cal P w K mg base 5 "accepted" sp_accepted [] := by
  refine T.cal 35 36 rfl rfl sc_accepted (fun _ _ _ _ _ _ us hl => match us, hl with | [_, _, _], _ => rfl) (fun vs H Q E h => ?_) (fun cdv A outer s H vs Q E hr h => ⟨_, pss_cons (ps_asg (pv 2) (pg_tup rfl (pgs_cons (pg_name (i := 3) sc_accepted.nd rfl (Or.inl rfl)) (pgs_cons (pg_name (i := 4) sc_accepted.nd rfl (Or.inl rfl)) (pgs_cons (pg_name (i := 5) sc_accepted.nd rfl (Or.inl rfl)) (pgs_cons (pg_name (i := 6) sc_accepted.nd rfl (Or.inl rfl)) pgs_nil))))))
      (pss_cons (ps_set (i := 7) sc_accepted.nd rfl (Or.inl rfl) (pe_op op_mulW (C8.pe_c (c_at_most T) hr (by decide) rfl (pa_cons (pv 0) (pa_cons (pv 1) (pa_cons (pv 3) (pa_cons (pv 4) pa_nil))))) (C8.pe_c (c_power T) hr (by decide) rfl (pa_cons (pv 1) (pa_cons (pe_op op_sub (pv 5) (pv 3)) pa_nil)))))
      (pss_cons (ps_for PassesOwn.never rfl (pi_range2 (by rfl) (T.free 84) (pa_cons (pe_op op_add (pv 4) pe_int) (pa_cons (pe_op op_add (pv 3) pe_int) pa_nil))) (pg_name (i := 8) sc_accepted.nd rfl (Or.inl rfl)) (pss_one (ps_set (i := 7) sc_accepted.nd rfl (Or.inl rfl) (pe_op op_add (pv 7) (pe_op op_mulW (C8.pe_c (c_exactly T) hr (by decide) rfl (pa_cons (pv 0) (pa_cons (pv 1) (pa_cons (pv 3) (pa_cons (pv 8) pa_nil))))) (C8.pe_c (c_at_most T) hr (by decide) rfl (pa_cons (pv 0) (pa_cons (pv 1) (pa_cons (pe_op op_sub (pv 5) (pv 3)) (pa_cons (pe_op op_sub (pv 6) (pv 8)) pa_nil))))))))))
      (pss_one (ps_ret (pv 7))))), ?_⟩)
  · obtain ⟨p, d, v, z, rfl, _⟩ := h
    rfl
  · obtain ⟨p, d, v, ⟨n1, r1, n, r⟩, rfl, g, st, hv, k⟩ := h
    have hv : (pT [nI n1, nI r1, nI n, nI r]).p H v := hv
    obtain ⟨t, rfl, ht⟩ := pT4_at hv
    have s1 : n1 < n := st.b
    have s2 : r1 < n1 := st.c
    have s3 : r < n := st.e
    have s4 : r1 ≤ r := st.f
    have s5 : n ≤ 8 := st.m
    have h2 := g.h2
    have h3 := g.h3
    refine ⟨_, rfl, t, _, rfl, SqT.of ht, rfl, _, _, rfl, _, _, rfl, _, _, rfl, _, _, rfl, rfl, ?_⟩
    refine ⟨_, rfl, _, rfl, _, rfl, _, rfl, p, d, n1, (r1 : Int), rfl, g, by omega, by omega, by omega, fun H1 e1 => ?_⟩
    refine ⟨_, rfl, _, rfl, _, rfl, _, _, rfl, rfl, d, n - n1, ?_, small_lt (by omega) h3, by omega, ?_⟩
    · exact congrArg (fun y : Int => [V.int d, V.int y]) (show (n : Int) - (n1 : Int) = ((n - n1 : Nat) : Int) by omega)
    refine ⟨_, _, rfl, rfl, (atmI_lt g (by omega)).mulW (dpow_lt (by omega) h3 (by omega)) (by decide), ?_⟩
    refine ⟨_, rfl, _, _, rfl, rfl, _, rfl, _, _, rfl, rfl, _, _, rfl, by omega, ?_⟩
    rw [show ((n1 : Int) + 1 - ((r1 : Int) + 1)).toNat = n1 - r1 by omega]
    refine for_it walk_range (fun i σ H' => Same H H' ∧ ∃ x, σ = [some (.int p), some (.int d), some (.ref t), some (nV n1), some (nV r1), some (nV n), some (nV r), some (.int (atmI p d n1 r1 * d ^ (n - n1) + sumR (fun i => exI p d n1 (r1 + 1 + i) * atmI p d (n - n1) ((r : Int) - ((r1 + 1 + i : Nat) : Int))) i)), x]) ⟨e1, none, ?_⟩ (fun _ _ _ _ _ => trivial) ?_ ?_
    · rw [sumR, Int.add_zero]
      rfl
    · rintro i x σ H2 H3 hi ⟨e2, x1, rfl⟩ ⟨rfl, hx⟩
      have hx : x = .int ((r1 + 1 + i : Nat) : Int) := hx.trans (congrArg V.int (by omega))
      subst hx
      refine ⟨_, rfl, _, rfl, _, rfl, _, rfl, _, rfl, p, d, n1, r1 + 1 + i, rfl, g, by omega, by omega, ?_⟩
      refine ⟨_, rfl, _, rfl, _, rfl, _, rfl, _, _, rfl, rfl, _, rfl, _, rfl, _, _, rfl, rfl, p, d, n - n1, (r : Int) - ((r1 + 1 + i : Nat) : Int), ?_, g, by omega, by omega, by omega, fun H4 e4 => ?_⟩
      · exact congrArg (fun y : Int => [V.int p, V.int d, V.int y, V.int ((r : Int) - ((r1 + 1 + i : Nat) : Int))]) (show (n : Int) - (n1 : Int) = ((n - n1 : Nat) : Int) by omega)
      refine ⟨_, _, rfl, rfl, (exI_lt g (by omega) (by omega)).mulW (atmI_lt g (by omega)) (by decide), _, _, rfl, rfl, e2.trans e4, some (.int ((r1 + 1 + i : Nat) : Int)), ?_⟩
      rw [sumR, ← Int.add_assoc]
      rfl
    · rintro σ H2 ⟨e2, x1, rfl⟩
      exact ⟨_, rfl, k _ e2⟩
def sp_expected : Sp := fun vs H Q _ => ∃ (p d : Nat) (v : V) (z : Nat × Nat × Nat × Nat), vs = [nV p, nV d, v] ∧ Share p d ∧ Stg z ∧ (stgP z).p H v ∧ Ret (pF (Kxd7.expectedSize (Kxd7.planOf z) (Kxd7.share p d))) H Q
theorem Share.pd {p d : Nat} (h : Share p d) : PD (p : Int) (d : Int) := ⟨by omega, by have := h.le; omega, by have := h.pos; omega, by have := h.most; omega⟩
theorem sc_expected : FnScope ["p", "divisor", "stages", "first", "first_limit", "size", "limit", "whole", "on"] ["p", "divisor", "stages"] (defScope (topS 45)) := C8.fnScope_by (by decide +kernel)
theorem c_expected {P : Program} {w : World} {K : PySem.W.Frag} {mg : Str → Option Value} {base : Heap} (T : Txt K mg) : C8.Cal P w K mg base 5 "expected" sp_expected [] := by
  refine T.cal 36 37 rfl rfl sc_expected (fun _ _ _ _ _ _ us hl => match us, hl with | [_, _, _], _ => rfl) (fun vs H Q E h => ?_) (fun cdv A outer s H vs Q E hr h => ⟨_, pss_cons (ps_asg (pv 2) (pg_tup rfl (pgs_cons (pg_name (i := 3) sc_expected.nd rfl (Or.inl rfl)) (pgs_cons (pg_name (i := 4) sc_expected.nd rfl (Or.inl rfl)) (pgs_cons (pg_name (i := 5) sc_expected.nd rfl (Or.inl rfl)) (pgs_cons (pg_name (i := 6) sc_expected.nd rfl (Or.inl rfl)) pgs_nil))))))
      (pss_cons (ps_set (i := 7) sc_expected.nd rfl (Or.inl rfl) (C8.pe_c (c_power T) hr (by decide) rfl (pa_cons (pv 1) (pa_cons (pv 3) pa_nil))))
      (pss_cons (ps_set (i := 8) sc_expected.nd rfl (Or.inl rfl) (pe_op op_sub (pv 7) (C8.pe_c (c_at_most T) hr (by decide) rfl (pa_cons (pv 0) (pa_cons (pv 1) (pa_cons (pv 3) (pa_cons (pv 4) pa_nil)))))))
      (pss_one (ps_ret (C8.pe_c (c_ratio T) hr (by decide) rfl (pa_cons (pe_op op_add (pe_op op_mulW (pv 3) (pv 7)) (pe_op op_mulW (pe_op op_sub (pv 5) (pv 3)) (pv 8))) (pa_cons (pv 7) pa_nil))))))), ?_⟩)
  · obtain ⟨p, d, v, z, rfl, _⟩ := h
    rfl
  · obtain ⟨p, d, v, ⟨n1, r1, n, r⟩, rfl, sh, st, hv, k⟩ := h
    have hv : (pT [nI n1, nI r1, nI n, nI r]).p H v := hv
    obtain ⟨t, rfl, ht⟩ := pT4_at hv
    have g := sh.pd
    have s1 : n1 < n := st.b
    have s2 : r1 < n1 := st.c
    have s5 : n ≤ 8 := st.m
    have h2 := g.h2
    have h3 := g.h3
    have a := atmI_pos g n1 r1
    have q := dpow_lt (n := n1) (Int.le_of_lt h2) h3 (by omega)
    have q2 := atmI_lt g (j := (r1 : Int)) (show n1 ≤ 8 by omega)
    rw [(size_two st h2 (share_frac (P := p) sh.pos)).frac] at k
    refine ⟨_, rfl, t, _, rfl, SqT.of ht, rfl, _, _, rfl, _, _, rfl, _, _, rfl, _, _, rfl, rfl, ?_⟩
    refine ⟨_, rfl, _, rfl, (d : Int), n1, rfl, small_lt (by omega) h3, by omega, ?_⟩
    refine ⟨_, rfl, _, rfl, _, rfl, _, rfl, _, rfl, (p : Int), (d : Int), n1, (r1 : Int), rfl, g, by omega, by omega, by omega, fun H1 e1 => ?_⟩
    refine ⟨_, _, rfl, rfl, _, rfl, _, rfl, _, _, rfl, rfl, (small_lt (by omega : 0 ≤ (n1 : Int)) (by omega)).mulW q (by decide), ?_⟩
    refine ⟨_, rfl, _, rfl, _, _, rfl, rfl, _, rfl, _, _, rfl, rfl, (small_lt (by omega : 0 ≤ (n : Int) - (n1 : Int)) (by omega)).mulW ((q.mono (by decide : 500 ≤ 916)).sub q2) (by decide), _, _, rfl, rfl, ?_⟩
    refine ⟨_, rfl, _, _, rfl, Int.add_nonneg (Int.mul_nonneg (by omega) (Int.pow_nonneg (by omega))) (Int.mul_nonneg (by omega) (by omega)), Int.pow_pos h2, q.mono (by decide), k.from e1⟩
end SE
/-! ## all two-stage plans, the best one -/
namespace SE
open PySem PySem.Spec PyProof.Rows L2
/-- many items more -/
theorem Fill.app {H H1 H2 B : Hp} {f : Addr} {rs rs2 : List RP} {us vs : List V} (F : Fill H f B rs H1) (e : Same H1 H2) (hu : H1 f = some (.lst us)) (hd : Dm H H1) (h : All2 rs2 (nw H1 H2) vs) :
    Fill H f B (rs ++ rs2) (upd H2 f (.lst (us ++ vs))) := by
  obtain ⟨us', h1, h2⟩ := F.it
  rw [hu] at h1
  cases h1
  refine ⟨F.new, by rw [wo_upd]; exact F.same.trans (e.wo f), us ++ vs, upd_same, ?_⟩
  rw [wo_upd]
  exact All2.append (h.mono (nw_wo hd (some_ne hu))) (h2.mono (nw_more (e.wo f)))
theorem flatMap_range_succ {α : Type} (f : Nat → List α) (k : Nat) : (List.range (k + 1)).flatMap f = (List.range k).flatMap f ++ f k := by
  rw [List.range_succ, List.flatMap_append]
  simp
theorem flatMap_len {α : Type} {f : Nat → List α} {m : Nat} : ∀ {k : Nat}, (∀ i, i < k → (f i).length ≤ m) → ((List.range k).flatMap f).length ≤ m * k
  | 0, _ => by simp
  | k + 1, h => by
    rw [flatMap_range_succ, List.length_append, Nat.mul_succ]
    exact Nat.add_le_add (flatMap_len fun i hi => h i (by omega)) (h k (by omega))
abbrev Z4 := Nat × Nat × Nat × Nat
def segC (a b c : Nat) : List Z4 := (List.range (a + 2 - c)).map fun e => (b + 1, c, a + 2, c + e)
def segB (a b k : Nat) : List Z4 := (List.range k).flatMap (segC a b)
def segA (a k : Nat) : List Z4 := (List.range k).flatMap fun b => segB a b (b + 1)
def segT (k : Nat) : List Z4 := (List.range k).flatMap fun a => segA a (a + 1)
theorem segC_len {a b c : Nat} (h : a ≤ 6) : (segC a b c).length ≤ 8 := by simp [segC]; omega
theorem segB_len {a b k : Nat} (h : a ≤ 6) (hk : k ≤ 8) : (segB a b k).length ≤ 64 := Nat.le_trans (flatMap_len fun i _ => segC_len h) (by omega)
theorem segA_len {a k : Nat} (h : a ≤ 6) (hk : k ≤ 8) : (segA a k).length ≤ 512 := Nat.le_trans (flatMap_len (m := 64) fun i hi => segB_len h (by omega)) (by omega)
theorem segT_len {k : Nat} (hk : k ≤ 7) : (segT k).length ≤ 4096 := Nat.le_trans (flatMap_len (m := 512) fun i hi => segA_len (by omega) (by omega)) (by omega)
theorem segT_eq (m : Nat) : allStg m = segT (m - 1) := rfl
def sp_all_stages : Sp := fun vs H Q _ => ∃ m : Nat, vs = [nV m] ∧ 2 ≤ m ∧ m ≤ 8 ∧ Ret (pL ((allStg m).map stgP)) H Q
theorem sc_all_stages : FnScope ["most", "found", "size", "first", "first_limit", "limit"] ["most"] (defScope (topS 46)) := C8.fnScope_by (by decide +kernel)
theorem c_all_stages {P : Program} {w : World} {K : PySem.W.Frag} {mg : Str → Option Value} {base : Heap} (T : Txt K mg) : C8.Cal P w K mg base 1 "all_stages" sp_all_stages [] := by
  refine T.cal 37 38 rfl rfl sc_all_stages (fun _ _ _ _ _ _ us hl => match us, hl with | [_], _ => rfl) (fun vs H Q E h => ?_) (fun cdv A outer s H vs Q E hr h => ⟨_, pss_cons (ps_set (i := 1) sc_all_stages.nd rfl (Or.inl rfl) (pe_lst (pa_nil)))
      (pss_cons (ps_for PassesOwn.never rfl (pi_range2 (by rfl) (T.free 84) (pa_cons pe_int (pa_cons (pe_op op_add (pv 0) pe_int) pa_nil))) (pg_name (i := 2) sc_all_stages.nd rfl (Or.inr rfl)) (pss_one (ps_for PassesOwn.never rfl (pi_range2 (by rfl) (T.free 84) (pa_cons pe_int (pa_cons (pv 2) pa_nil))) (pg_name (i := 3) sc_all_stages.nd rfl (Or.inr rfl)) (pss_one (ps_for PassesOwn.never rfl (pi_range1 (by rfl) (T.free 84) (pa_cons (pv 3) pa_nil)) (pg_name (i := 4) sc_all_stages.nd rfl (Or.inr rfl)) (pss_one (ps_expr (pe_bm PySem.F.plainAttrs_list PySem.F.slot_list_extend PySem.F.type_list_extend mt_extend (pv 1) (pa_cons (pe_lc (own := [("limit", 5)]) rfl sc_all_stages.nd (pi_range2 (by rfl) (T.free 84) (pa_cons (pv 4) (pa_cons (pv 2) pa_nil))) (blkOk_by (N := ["most", "found", "size", "first", "first_limit", "limit"]) (sc := defScope (topS 46)) (by decide +kernel)) (fun _ _ _ _ _ => by exact pg_name (i := 5) sc_all_stages.nd rfl (Or.inl rfl)) (fun _ _ _ _ _ => pts_nil) (fun _ _ _ _ _ => by exact pe_tup (pa_cons (pv 3) (pa_cons (pv 4) (pa_cons (pv 2) (pa_cons (pv 5) pa_nil)))))) pa_nil)))))))))
      (pss_one (ps_ret (pv 1)))), ?_⟩)
  · obtain ⟨m, rfl, _⟩ := h
    rfl
  · obtain ⟨m, rfl, h2, h8, k⟩ := h
    refine ⟨(by show 0 ≤ sizeLine; decide), fun f hf => ?_⟩
    refine ⟨_, rfl, _, _, rfl, rfl, _, _, rfl, by omega, ?_⟩
    rw [show ((m : Int) + 1 - 2).toNat = m - 1 by omega]
    refine for_it walk_range (fun a σ H' => Fill H f H ((segT a).map stgP) H' ∧ ∃ x1 x2 x3 x4, σ = [some (nV m), some (.ref f), x1, x2, x3, x4])
      ⟨Fill.start hf, none, none, none, none, rfl⟩ (fun _ _ _ _ _ => trivial) ?_ ?_
    · rintro a x σ H1 H2 ha ⟨F1, x1, x2, x3, x4, rfl⟩ ⟨rfl, hx⟩
      have hx : x = .int ((a + 2 : Nat) : Int) := hx.trans (congrArg V.int (by omega))
      subst hx
      refine ⟨_, rfl, _, _, rfl, by omega, ?_⟩
      rw [show (((a + 2 : Nat) : Int) - 1).toNat = a + 1 by omega]
      refine for_it walk_range (fun b σ H' => Fill H f H ((segT a ++ segA a b).map stgP) H' ∧ ∃ x2 x3 x4, σ = [some (nV m), some (.ref f), some (nV (a + 2)), x2, x3, x4])
        ⟨?_, x2, x3, x4, rfl⟩ (fun _ _ _ _ _ => trivial) ?_ ?_
      · show Fill H f H ((segT a ++ []).map stgP) _
        rw [List.append_nil]
        exact F1
      · rintro b x σ H3 H4 hb ⟨F2, x2, x3, x4, rfl⟩ ⟨rfl, hx⟩
        have hx : x = .int ((b + 1 : Nat) : Int) := hx.trans (congrArg V.int (by omega))
        subst hx
        refine ⟨_, rfl, _, rfl, by omega, by omega, ?_⟩
        rw [show (((b + 1 : Nat) : Int)).toNat = b + 1 by omega]
        refine for_it walk_range (fun c σ H' => Fill H f H ((segT a ++ segA a b ++ segB a b c).map stgP) H' ∧ ∃ x3 x4, σ = [some (nV m), some (.ref f), some (nV (a + 2)), some (nV (b + 1)), x3, x4])
          ⟨?_, x3, x4, rfl⟩ (fun _ _ _ _ _ => trivial) ?_ ?_
        · show Fill H f H ((segT a ++ segA a b ++ []).map stgP) _
          rw [List.append_nil]
          exact F2
        · rintro c x σ H5 H6 hc ⟨F3, x3, x4, rfl⟩ ⟨rfl, hx⟩
          have hx : x = .int (c : Int) := hx.trans (congrArg V.int (by omega))
          subst hx
          obtain ⟨us, hus, hal⟩ := F3.it
          have hul : us.length ≤ 5000 := by
            rw [hal.len, List.length_map, List.length_append, List.length_append]
            have l1 := segT_len (k := a) (by omega)
            have l2 := segA_len (a := a) (k := b) (by omega) (by omega)
            have l3 := segB_len (a := a) (b := b) (k := c) (by omega) (by omega)
            omega
          refine ⟨_, rfl, .inl ⟨rfl, _, SqL.of hus⟩, _, rfl, _, rfl, _, _, rfl, by omega, ?_⟩
          rw [show (((a + 2 : Nat) : Int) - (c : Int)).toNat = a + 2 - c by omega]
          refine lc_new walk_range (fun e => stgP (b + 1, c, a + 2, c + e)) [some (nV m), some (.ref f), some (nV (a + 2)), some (nV (b + 1)), some (nV c), none] (by omega) rfl (fun _ _ => trivial) ?_ ?_
          · rintro e x Hb H' Q' he e5 ⟨rfl, hx⟩ q
            have hx : x = .int ((c + e : Nat) : Int) := hx.trans (congrArg V.int (by omega))
            subst hx
            refine ⟨rfl, _, rfl, _, rfl, _, rfl, _, rfl, (by show 4 ≤ sizeLine; decide), fun r hr => ?_⟩
            exact q _ _ (same_new hr) (pT_mk (new_at hr) ⟨rfl, rfl, rfl, rfl, trivial⟩)
          · rintro D H7 e7 ⟨d, ws, ed, hd, hws⟩
            cases ed
            have hwl : ws.length ≤ 8 := by rw [hws.len]; simp; omega
            refine ⟨f, D, us, ws, rfl, rfl, e7 _ _ hus, (of_nw hd).2, size_le (by omega), ?_⟩
            refine ⟨?_, some (nV c), x4, rfl⟩
            have e8 : (segT a ++ segA a b ++ segB a b (c + 1)).map stgP = (segT a ++ segA a b ++ segB a b c).map stgP ++ (List.range (a + 2 - c)).map fun e => stgP (b + 1, c, a + 2, c + e) := by
              unfold segB
              rw [flatMap_range_succ, ← List.append_assoc, List.map_append (l₂ := segC a b c)]
              congr 1
              unfold segC
              rw [List.map_map]
              rfl
            rw [e8]
            exact F3.app e7 hus F3.up.dm hws
        · rintro σ H5 ⟨F3, x3, x4, rfl⟩
          refine ⟨?_, _, _, _, rfl⟩
          have e8 : segT a ++ segA a (b + 1) = segT a ++ segA a b ++ segB a b (b + 1) := by
            unfold segA
            rw [flatMap_range_succ, List.append_assoc]
          rw [e8]
          exact F3
      · rintro σ H3 ⟨F2, x2, x3, x4, rfl⟩
        refine ⟨?_, _, _, _, _, rfl⟩
        have e8 : segT (a + 1) = segT a ++ segA a (a + 1) := by
          unfold segT
          rw [flatMap_range_succ]
        rw [e8]
        exact F2
    · rintro σ H1 ⟨F1, x1, x2, x3, x4, rfl⟩
      exact ⟨_, rfl, k _ _ F1.up F1.done⟩
def keepsB (p0 p1 d al ad be bd : Nat) (z : Z4) : Bool := Kxd7.isAtMost (Kxd7.minus (Kxd7.ofInt 1) (Kxd7.acceptance (Kxd7.planOf z) (Kxd7.share p0 d))) (Kxd7.share al ad) && Kxd7.isAtMost (Kxd7.acceptance (Kxd7.planOf z) (Kxd7.share p1 d)) (Kxd7.share be bd)
def sp_keeps : Sp := fun vs H Q _ => ∃ (v u t : V) (p0 p1 d al ad be bd : Nat) (z : Z4), vs = [v, nV d, u, t] ∧ Share p0 d ∧ Share p1 d ∧ Share al ad ∧ Share be bd ∧ Stg z ∧ (pT [nI p0, nI p1]).p H v ∧ (pT [nI al, nI ad, nI be, nI bd]).p H u ∧ (stgP z).p H t ∧ RetV (.bl (keepsB p0 p1 d al ad be bd z)) H Q
theorem accI_lt {p d : Int} (g : PD p d) {z : Z4} (st : Stg z) : Lt2 1900 (accI p d z) := by
  have s1 := st.b
  have s2 := st.c
  have s5 := st.m
  unfold accI
  refine ((((atmI_lt g (by omega)).mul (dpow_lt (Int.le_of_lt g.h2) g.h3 (by omega))).mono (by decide : 916 + 500 ≤ 1890)).add ((sumR_lt (b := 907 + 916) fun i hi => ?_).mono (by omega : 907 + 916 + (z.1 - z.2.1) ≤ 1890))).mono (by decide)
  exact (exI_lt g (by omega) (by omega)).mul (atmI_lt g (by omega))
theorem acc_is {p d : Nat} (sh : Share p d) {z : Z4} (st : Stg z) : Is (Kxd7.acceptance (Kxd7.planOf z) (Kxd7.share p d)) (accI p d z) ((d : Int) ^ z.2.2.1) := by
  obtain ⟨n1, r1, n, r⟩ := z
  have a := acceptance_is (share_frac (P := p) sh.pos) (Kxd7.planOf (n1, r1, n, r))
  rw [acc_two st] at a
  exact a
theorem sc_keeps : FnScope ["pair", "divisor", "bounds", "stages", "whole", "wrong", "missed"] ["pair", "divisor", "bounds", "stages"] (defScope (topS 47)) := C8.fnScope_by (by decide +kernel)
theorem c_keeps {P : Program} {w : World} {K : PySem.W.Frag} {mg : Str → Option Value} {base : Heap} (T : Txt K mg) : C8.Cal P w K mg base 6 "keeps" sp_keeps [] := by
  refine T.cal 38 39 rfl rfl sc_keeps (fun _ _ _ _ _ _ us hl => match us, hl with | [_, _, _, _], _ => rfl) (fun vs H Q E h => ?_) (fun cdv A outer s H vs Q E hr h => ⟨_, pss_cons (ps_set (i := 4) sc_keeps.nd rfl (Or.inl rfl) (C8.pe_c (c_power T) hr (by decide) rfl (pa_cons (pv 1) (pa_cons (pe_ix ix_tup (pv 3) pe_int (fun _ _ => rfl)) pa_nil))))
      (pss_cons (ps_set (i := 5) sc_keeps.nd rfl (Or.inl rfl) (pe_op op_sub (pv 4) (C8.pe_c (c_accepted T) hr (by decide) rfl (pa_cons (pe_ix ix_tup (pv 0) pe_int (fun _ _ => rfl)) (pa_cons (pv 1) (pa_cons (pv 3) pa_nil))))))
      (pss_cons (ps_set (i := 6) sc_keeps.nd rfl (Or.inl rfl) (C8.pe_c (c_accepted T) hr (by decide) rfl (pa_cons (pe_ix ix_tup (pv 0) pe_int (fun _ _ => rfl)) (pa_cons (pv 1) (pa_cons (pv 3) pa_nil)))))
      (pss_one (ps_ret (pe_and (pe_cmp (pc_le (pe_op op_mulW (pv 5) (pe_ix ix_tup (pv 2) pe_int (fun _ _ => rfl))) (pe_op op_mulW (pe_ix ix_tup (pv 2) pe_int (fun _ _ => rfl)) (pv 4)))) (pe_one (pe_cmp (pc_le (pe_op op_mulW (pv 6) (pe_ix ix_tup (pv 2) pe_int (fun _ _ => rfl))) (pe_op op_mulW (pe_ix ix_tup (pv 2) pe_int (fun _ _ => rfl)) (pv 4)))))))))), ?_⟩)
  · obtain ⟨v, u, t, p0, p1, d, al, ad, be, bd, z, rfl, _⟩ := h
    rfl
  · obtain ⟨v, u, t, p0, p1, d, al, ad, be, bd, z, rfl, h0, h1, ha, hb, st, hv, hu, ht, k⟩ := h
    have a0 := acc_is h0 st
    have a1 := acc_is h1 st
    have s5 := st.m
    have g0 := h0.pd
    have g1 := h1.pd
    have c0 := accI_lt g0 st
    have c1 := accI_lt g1 st
    have q := dpow_lt (n := z.2.2.1) (Int.le_of_lt g0.h2) g0.h3 (by omega)
    have b1 := ha.le
    have b2 := ha.pos
    have b3 := ha.most
    have b4 := hb.le
    have b5 := hb.pos
    have b6 := hb.most
    have e : keepsB p0 p1 d al ad be bd z = (decide (((d : Int) ^ z.2.2.1 - accI p0 d z) * ad ≤ al * (d : Int) ^ z.2.2.1) && decide (accI p1 d z * bd ≤ be * (d : Int) ^ z.2.2.1)) := by
      unfold keepsB
      rw [(is_one_minus a0).le (share_frac b2), a1.le (share_frac b5)]
    rw [e] at k
    obtain ⟨v1, rfl, hv1⟩ := pT2_at hv
    obtain ⟨u1, rfl, hu1⟩ := pT4_at hu
    obtain ⟨t1, rfl, ht1⟩ := pT4_at (show (pT [nI z.1, nI z.2.1, nI z.2.2.1, nI z.2.2.2]).p H t from ht)
    refine ⟨_, rfl, _, rfl, t1, _, 2, _, rfl, rfl, SqT.of ht1, rfl, (d : Int), z.2.2.1, rfl, small_lt (by omega) g0.h3, by omega, ?_⟩
    refine ⟨_, rfl, _, rfl, v1, _, 0, _, rfl, rfl, SqT.of hv1, rfl, _, rfl, _, rfl, (p0 : Int), (d : Int), _, z, rfl, g0, st, ht, fun H1 e1 => ?_⟩
    have ht2 := (stgP z).mono e1 ht
    refine ⟨_, _, rfl, rfl, _, rfl, v1, _, 1, _, rfl, rfl, SqT.of (e1 _ _ hv1), rfl, _, rfl, _, rfl, (p1 : Int), (d : Int), _, z, rfl, g1, st, ht2, fun H2 e2 => ?_⟩
    have hu2 := e2 _ _ (e1 _ _ hu1)
    refine ⟨_, rfl, _, rfl, u1, _, 1, _, rfl, rfl, SqT.of hu2, rfl, _, _, rfl, rfl, (((q.mono (by decide : 500 ≤ 1900)).sub c0)).mulW (nat_lt2 (show ad < 2 ^ 20 by omega)) (by decide), ?_⟩
    refine ⟨_, rfl, u1, _, 0, _, rfl, rfl, SqT.of hu2, rfl, _, rfl, _, _, rfl, rfl, (nat_lt2 (show al < 2 ^ 20 by omega)).mulW q (by decide), _, _, rfl, rfl, _, rfl, ?_⟩
    by_cases y : ((d : Int) ^ z.2.2.1 - accI p0 d z) * ad ≤ al * (d : Int) ^ z.2.2.1
    · refine if_true_of (decide_eq_true y) ?_
      rw [decide_eq_true y, Bool.true_and] at k
      refine ⟨_, rfl, _, rfl, u1, _, 3, _, rfl, rfl, SqT.of hu2, rfl, _, _, rfl, rfl, c1.mulW (nat_lt2 (show bd < 2 ^ 20 by omega)) (by decide), ?_⟩
      exact ⟨_, rfl, u1, _, 2, _, rfl, rfl, SqT.of hu2, rfl, _, rfl, _, _, rfl, rfl, (nat_lt2 (show be < 2 ^ 20 by omega)).mulW q (by decide), _, _, rfl, rfl, k _ (e1.trans e2)⟩
    · rw [decide_eq_false y, Bool.false_and] at k
      exact if_false_of (decide_eq_false y) (k _ (e1.trans e2))
def bestStep (p0 p1 d al ad be bd : Nat) (b : Option (Z4 × Kxd7.Fraction)) (z : Z4) : Option (Z4 × Kxd7.Fraction) :=
  if keepsB p0 p1 d al ad be bd z then
    match b with
    | none => some (z, Kxd7.expectedSize (Kxd7.planOf z) (Kxd7.share p0 d))
    | some y => if Kxd7.isLess (Kxd7.expectedSize (Kxd7.planOf z) (Kxd7.share p0 d)) y.2 then some (z, Kxd7.expectedSize (Kxd7.planOf z) (Kxd7.share p0 d)) else b
  else b
theorem best_fold (p0 p1 d al ad be bd m : Nat) (h : m ≤ 8) : Kxd7.bestTwoStage (Kxd7.share p0 d) (Kxd7.share p1 d) (Kxd7.share al ad) (Kxd7.share be bd) m = (allStg m).foldl (bestStep p0 p1 d al ad be bd) none := by
  unfold Kxd7.bestTwoStage
  rw [allStg_eq m (by omega)]
  rfl
def stgF (y : Z4 × Kxd7.Fraction) : RP := pT [stgP y.1, pF y.2]
def bestP : Option (Z4 × Kxd7.Fraction) → RP
  | none => pL []
  | some y => pL [stgF y]
theorem size_nf {p d : Nat} (sh : Share p d) {z : Z4} (st : Stg z) : NF 4000 (Kxd7.expectedSize (Kxd7.planOf z) (Kxd7.share p d)) := by
  obtain ⟨n1, r1, n, r⟩ := z
  have g := sh.pd
  have s1 : n1 < n := st.b
  have s5 : n ≤ 8 := st.m
  have a := atmI_pos g n1 r1
  have q := dpow_lt (n := n1) (Int.le_of_lt g.h2) g.h3 (by omega)
  have q2 := atmI_lt g (j := (r1 : Int)) (show n1 ≤ 8 by omega)
  rw [(size_two st g.h2 (share_frac (P := p) sh.pos)).frac]
  refine nf_frac (Int.add_nonneg (Int.mul_nonneg (by omega) (Int.pow_nonneg (by have := g.h2; omega))) (Int.mul_nonneg (by omega) (by omega))) (Int.pow_pos g.h2) ?_ (q.mono (by decide))
  refine ((((small_lt (by omega : 0 ≤ (n1 : Int)) (by omega)).mul q).mono (by decide : 20 + 500 ≤ 1900)).add (((small_lt (by omega : 0 ≤ (n : Int) - (n1 : Int)) (by omega)).mul ((q.mono (by decide : 500 ≤ 916)).sub q2)).mono (by decide))).mono (by decide)
/-- the one that is kept: a plan of two stages with its size -/
theorem bestStep_ok {p0 p1 d al ad be bd : Nat} (sh : Share p0 d) : ∀ (l : List Z4) (b : Option (Z4 × Kxd7.Fraction)), (∀ z ∈ l, Stg z) → (∀ y, b = some y → Stg y.1 ∧ NF 4000 y.2) → ∀ y, l.foldl (bestStep p0 p1 d al ad be bd) b = some y → Stg y.1 ∧ NF 4000 y.2
  | [], b, _, h, y, e => h y e
  | z :: l, b, hl, h, y, e => by
    refine bestStep_ok sh l (bestStep p0 p1 d al ad be bd b z) (fun x hx => hl x (by simp [hx])) (fun y2 e2 => ?_) y e
    have new : Stg z ∧ NF 4000 (Kxd7.expectedSize (Kxd7.planOf z) (Kxd7.share p0 d)) := ⟨hl z (by simp), size_nf sh (hl z (by simp))⟩
    unfold bestStep at e2
    split at e2
    · split at e2
      · cases e2; exact new
      · split at e2
        · cases e2; exact new
        · exact h y2 e2
    · exact h y2 e2
/-- a pair of tuples of numbers as data -/
theorem dp_ints {K : PySem.W.Frag} {H : Hp} : ∀ l : List Int, DpAll K H (l.map V.int) (l.map PyData.int)
  | [] => .nil
  | i :: l => .cons (.int i) (dp_ints l)
theorem dp_stg {K : PySem.W.Frag} {H : Hp} {z : Z4} {v : V} (h : (stgP z).p H v) : Dp K H v (.tuple [.int z.1, .int z.2.1, .int z.2.2.1, .int z.2.2.2]) := by
  obtain ⟨t, rfl, ht⟩ := pT4_at h
  exact .tup (SqT.of ht) (dp_ints [(z.1 : Int), z.2.1, z.2.2.1, z.2.2.2])
theorem dp_frac {K : PySem.W.Frag} {H : Hp} {x : Kxd7.Fraction} {v : V} (h : (pF x).p H v) : Dp K H v (.tuple [.int x.numerator, .int x.denominator]) := by
  obtain ⟨t, rfl, ht⟩ := pF_at h
  exact .tup (SqT.of ht) (dp_ints [x.numerator, (x.denominator : Int)])
def bestD : Option (Z4 × Kxd7.Fraction) → PyData
  | none => .list []
  | some y => .list [.tuple [.tuple [.int y.1.1, .int y.1.2.1, .int y.1.2.2.1, .int y.1.2.2.2], .tuple [.int y.2.numerator, .int y.2.denominator]]]
theorem stgF_at {y : Z4 × Kxd7.Fraction} {H : Hp} {v : V} (h : (stgF y).p H v) : ∃ a s f, v = .ref a ∧ H a = some (.tup [s, f]) ∧ (stgP y.1).p H s ∧ (pF y.2).p H f := by
  obtain ⟨a, vs, rfl, h2, h3⟩ := h
  match vs, h3 with
  | [s, f], h3 => exact ⟨a, s, f, rfl, h2, h3.1, h3.2.1⟩
theorem best_at {y : Z4 × Kxd7.Fraction} {H : Hp} {v : V} (h : (bestP (some y)).p H v) : ∃ l a s f, v = .ref l ∧ H l = some (.lst [.ref a]) ∧ H a = some (.tup [s, f]) ∧ (stgP y.1).p H s ∧ (pF y.2).p H f := by
  obtain ⟨l, vs, rfl, h2, h3⟩ := h
  match vs, h3 with
  | [x], h3 =>
    obtain ⟨a, s, f, rfl, g1, g2, g3⟩ := stgF_at h3.1
    exact ⟨l, a, s, f, rfl, h2, g1, g2, g3⟩
theorem best_dp {K : PySem.W.Frag} {b : Option (Z4 × Kxd7.Fraction)} {H : Hp} {v : V} (h : (bestP b).p H v) : Dp K H v (bestD b) := by
  cases b with
  | none =>
    obtain ⟨l, vs, rfl, h2, h3⟩ := h
    match vs, h3 with
    | [], _ => exact .lst (SqL.of h2) .nil
  | some y =>
    obtain ⟨l, a, s, f, rfl, g0, g1, g2, g3⟩ := best_at h
    exact .lst (SqL.of g0) (.cons (.tup (SqT.of g1) (.cons (dp_stg g2) (.cons (dp_frac g3) .nil))) .nil)
theorem bestD_shaped (b : Option (Z4 × Kxd7.Fraction)) : SeqAt.shaped (bestD b) = true := by
  cases b <;> rfl
theorem bestD_eqv (b : Option (Z4 × Kxd7.Fraction)) : PyData.eqv (bestD b) (.list []) = b.isNone := by
  cases b <;> rfl
def sp_best_stages : Sp := fun vs H Q _ => ∃ (v u : V) (p0 p1 d al ad be bd m : Nat), vs = [v, nV d, u, nV m] ∧ Share p0 d ∧ Share p1 d ∧ Share al ad ∧ Share be bd ∧ 2 ≤ m ∧ m ≤ 8 ∧ (pT [nI p0, nI p1]).p H v ∧ (pT [nI al, nI ad, nI be, nI bd]).p H u ∧
  Ret (bestP (Kxd7.bestTwoStage (Kxd7.share p0 d) (Kxd7.share p1 d) (Kxd7.share al ad) (Kxd7.share be bd) m)) H Q
theorem stg_of {l : List Z4} {H : Hp} {us : List V} {i : Nat} {x : V} (h : All2 (l.map stgP) H us) (hx : us[i]? = some x) : ∃ z, l[i]? = some z ∧ (stgP z).p H x := by
  obtain ⟨r, g1, g2⟩ := h.item hx
  rw [List.getElem?_map] at g1
  cases hz : l[i]? with
  | none => rw [hz] at g1; cases g1
  | some z =>
    rw [hz] at g1
    cases g1
    exact ⟨z, rfl, g2⟩
theorem sc_best_stages : FnScope ["pair", "divisor", "bounds", "most", "found", "stages", "size"] ["pair", "divisor", "bounds", "most"] (defScope (topS 48)) := C8.fnScope_by (by decide +kernel)
theorem c_best_stages {P : Program} {w : World} {K : PySem.W.Frag} {mg : Str → Option Value} {base : Heap} (T : Txt K mg) : C8.Cal P w K mg base 7 "best_stages" sp_best_stages [] := by
  refine T.cal 39 40 rfl rfl sc_best_stages (fun _ _ _ _ _ _ us hl => match us, hl with | [_, _, _, _], _ => rfl) (fun vs H Q E h => ?_) (fun cdv A outer s H vs Q E hr h => ⟨_, pss_cons (ps_set (i := 4) sc_best_stages.nd rfl (Or.inl rfl) (pe_lst (pa_nil)))
      (pss_cons (ps_for PassesOwn.never rfl (pi_list (C8.pe_c (c_all_stages T) hr (by decide) rfl (pa_cons (pv 3) pa_nil))) (pg_name (i := 5) sc_best_stages.nd rfl (Or.inl rfl)) (pss_one (ps_if (pt_val (C8.pe_c (c_keeps T) hr (by decide) rfl (pa_cons (pv 0) (pa_cons (pv 1) (pa_cons (pv 2) (pa_cons (pv 5) pa_nil)))))) (pss_cons (ps_set (i := 6) sc_best_stages.nd rfl (Or.inl rfl) (C8.pe_c (c_expected T) hr (by decide) rfl (pa_cons (pe_ix ix_tup (pv 0) pe_int (fun _ _ => rfl)) (pa_cons (pv 1) (pa_cons (pv 5) pa_nil)))))
      (pss_one (ps_if (PW.pt (pw_or (pt_cmpR (op_eqD (hu64 hr)) (pv 4) (pe_lst (pa_nil)) (nomark _)) (pw_or1 (pt_val (C8.pe_c (c_is_below T) hr (by decide) rfl (pa_cons (pv 6) (pa_cons (pe_ix ix_tup (pe_ix ix_list (pv 4) pe_int (fun _ _ => rfl)) pe_int (fun _ _ => rfl)) pa_nil))))))) (pss_one (ps_set (i := 4) sc_best_stages.nd rfl (Or.inl rfl) (pe_lst (pa_cons (pe_tup (pa_cons (pv 5) (pa_cons (pv 6) pa_nil))) pa_nil)))) (pss_nil)))) (pss_nil))))
      (pss_one (ps_ret (pv 4)))), ?_⟩)
  · obtain ⟨v, u, p0, p1, d, al, ad, be, bd, m, rfl, _⟩ := h
    rfl
  · obtain ⟨v, u, p0, p1, d, al, ad, be, bd, m, rfl, h0, h1, ha, hb, m2, m8, hv, hu, k⟩ := h
    rw [best_fold _ _ _ _ _ _ _ _ m8] at k
    refine ⟨(by show 0 ≤ sizeLine; decide), fun f hf => ?_⟩
    have sf := same_new (o := .lst []) hf
    refine ⟨_, rfl, m, rfl, m2, m8, fun sv H1 e1 hs => ?_⟩
    obtain ⟨q, us, rfl, hq, hus⟩ := hs
    have hl : us.length = (allStg m).length := by rw [hus.len, List.length_map]
    have eH := sf.trans e1
    refine ⟨q, rfl, ⟨us, SqL.of (nw_same _ _ hq)⟩, for_it (walk_list (K := K) (a := q) (xs := us)) (fun i σ H' => Same H1 H' ∧ ∃ fv x1 x2, σ = [some v, some (nV d), some u, some (nV m), some fv, x1, x2] ∧ (bestP (((allStg m).take i).foldl (bestStep p0 p1 d al ad be bd) none)).p (nw H H') fv)
      ⟨Same.refl _, _, none, none, rfl, ⟨f, [], rfl, by rw [nw_of hf]; exact e1 _ _ upd_same, trivial⟩⟩ (fun i σ H' _ z => SqL.of (z.1 _ _ (nw_same _ _ hq))) ?_ ?_⟩
    · rintro i x σ H2 H3 hi ⟨e2, fv, x1, x2, rfl, hfv⟩ ⟨rfl, hx⟩
      obtain ⟨z, hz, hzs⟩ := stg_of hus hx
      have st : Stg z := allStg_ok m8 (List.mem_of_getElem? hz)
      have hzn := (stgP z).mono ((nw_ground sf.dm).trans (nw_more e2)) hzs
      have e3 := eH.trans e2
      have okb : ∀ y, ((allStg m).take i).foldl (bestStep p0 p1 d al ad be bd) none = some y → Stg y.1 ∧ NF 4000 y.2 := bestStep_ok h0 _ none (fun y hy => allStg_ok m8 (List.mem_of_mem_take hy)) (fun y e => nomatch e)
      rw [take_more hz, List.foldl_append]
      show tIfS _ _ _ _ _ _
      generalize hbd : ((allStg m).take i).foldl (bestStep p0 p1 d al ad be bd) none = b at *
      have eb : [z].foldl (bestStep p0 p1 d al ad be bd) b = bestStep p0 p1 d al ad be bd b z := rfl
      rw [eb]
      refine ⟨_, rfl, _, rfl, _, rfl, _, rfl, v, u, x, p0, p1, d, al, ad, be, bd, z, rfl, h0, h1, ha, hb, st, (pT _).mono e3 hv, (pT _).mono e3 hu, (stgP z).mono nw_same hzn, fun H4 e4 => ?_⟩
      have hfv4 := (bestP b).mono (nw_more e4) hfv
      refine ⟨_, rfl, ?_⟩
      unfold bestStep
      by_cases y : keepsB p0 p1 d al ad be bd z = true
      · rw [if_pos y]
        refine if_true_of y ?_
        have e5 := e3.trans e4
        obtain ⟨v1, rfl, hv1⟩ := pT2_at ((pT _).mono e5 hv)
        refine ⟨_, rfl, v1, _, 0, _, rfl, rfl, SqT.of hv1, rfl, _, rfl, _, rfl, p0, d, x, z, rfl, h0, st, (stgP z).mono e4 ((stgP z).mono nw_same hzn), fun sz H5 e6 hsz => ?_⟩
        have e7 := e5.trans e6
        have hfv5 := (bestP b).mono (nw_more e6) hfv4
        refine ⟨_, rfl, (by show 0 ≤ sizeLine; decide), fun g hg => ?_⟩
        have e8 := same_new (o := .lst []) hg
        refine ⟨bestD b, .list [], best_dp ((bestP b).mono (nw_same.trans e8) hfv5), .lst (SqL.of upd_same) .nil, bestD_shaped b, rfl, _, rfl, ?_⟩
        have put : ∀ H6 : Hp, Same (upd H5 g (.lst [])) H6 → ∀ r, H6 r = none → ∀ w, upd H6 r (.tup [x, sz]) w = none → (bestP (some (z, Kxd7.expectedSize (Kxd7.planOf z) (Kxd7.share p0 d)))).p (nw H (upd (upd H6 r (.tup [x, sz])) w (.lst [.ref r]))) (.ref w) := fun H6 e9 r hr w hw => by
          have q1 := (e7.trans (e8.trans e9))
          refine new_lst (q1.trans (same_new hr)) hw ⟨?_, trivial⟩
          refine new_tup q1 hr ⟨(stgP z).mono (nw_more (e4.trans (e6.trans (e8.trans e9)))) hzn, (pF _).mono (nw_both e5.dm (e8.trans e9)) hsz, trivial⟩
        have same := e2.trans (e4.trans (e6.trans e8))
        cases b with
        | none =>
          refine if_true_of rfl ?_
          refine ⟨_, rfl, _, rfl, (by show 2 ≤ sizeLine; decide), fun r hr => ⟨(by show 1 ≤ sizeLine; decide), fun w hw => ?_⟩⟩
          exact ⟨same.trans ((same_new hr).trans (same_new hw)), _, _, _, rfl, put _ (Same.refl _) r hr w hw⟩
        | some y2 =>
          refine if_false_of rfl ?_
          obtain ⟨l, a, s1, f1, rfl, g1, g2, g3, g4⟩ := best_at ((bestP (some y2)).mono (nw_same.trans e8) hfv5)
          have n1 := size_nf h0 st
          have n2 := (okb y2 rfl).2
          refine ⟨_, rfl, _, rfl, l, _, 0, _, rfl, rfl, SqL.of g1, rfl, a, _, 1, _, rfl, rfl, SqT.of g2, rfl, sz, f1, _, _, rfl, pF_K ((pF _).mono (nw_same.trans e8) hsz), pF_K g4, n1, n2, _, rfl, ?_⟩
          show if Kxd7.isLess _ _ = true then _ else _
          by_cases c : Kxd7.isLess (Kxd7.expectedSize (Kxd7.planOf z) (Kxd7.share p0 d)) y2.2 = true
          · refine if_true_of c ?_
            show tAsg _ _ _ _ _
            refine ⟨_, rfl, _, rfl, (by show 2 ≤ sizeLine; decide), fun r hr => ⟨(by show 1 ≤ sizeLine; decide), fun w hw => ?_⟩⟩
            refine ⟨same.trans ((same_new hr).trans (same_new hw)), _, _, _, rfl, ?_⟩
            show (bestP (if Kxd7.isLess (Kxd7.expectedSize (Kxd7.planOf z) (Kxd7.share p0 d)) y2.2 then some (z, Kxd7.expectedSize (Kxd7.planOf z) (Kxd7.share p0 d)) else some y2)).p _ _
            rw [if_pos c]
            exact put _ (Same.refl _) r hr w hw
          · have c : Kxd7.isLess (Kxd7.expectedSize (Kxd7.planOf z) (Kxd7.share p0 d)) y2.2 = false := by simpa using c
            refine if_false_of c ⟨same, _, _, _, rfl, ?_⟩
            show (bestP (if Kxd7.isLess (Kxd7.expectedSize (Kxd7.planOf z) (Kxd7.share p0 d)) y2.2 then some (z, Kxd7.expectedSize (Kxd7.planOf z) (Kxd7.share p0 d)) else some y2)).p _ _
            rw [if_neg (by rw [c]; decide)]
            exact (bestP (some y2)).mono (nw_more e8) hfv5
      · have y : keepsB p0 p1 d al ad be bd z = false := by simpa using y
        rw [if_neg (by rw [y]; decide)]
        exact if_false_of y ⟨e2.trans e4, _, _, _, rfl, hfv4⟩
    · rintro σ H2 ⟨e2, fv, x1, x2, rfl, hfv⟩
      rw [hl, List.take_length] at hfv
      exact ⟨_, rfl, k _ _ (eH.trans e2) hfv⟩
end SE
/-! ## a display with one pair whose key is a tuple -/
namespace SE
open PySem PySem.Spec PyProof.Rows L2
def tDispT (trs : List (TE × TE)) : TE := fun σ H Q => ∀ p, H p = none → tPairs trs σ (upd H p (.dT [])) fun ps H2 => H2 p = some (.dT []) ∧ ∃ (k : List Key) (b : Addr) (v : V), ps = [(.ref b, v)] ∧ H2 b = some (.tup (k.map kV)) ∧ Q (.ref p) (upd H2 p (.dT [(k, v)]))
theorem pe_dispT {X : Cx} {pos : Pos} {keys : List (Option Expr)} {values : List Expr} {trs : List (TE × TE)} (hu : X.A.units + 1 < cLine) (h : PPs X pos keys values trs) (hall : keys.all (·.isSome) = true) (hl : keys.length = values.length) (h0 : keys ≠ [])
    (h15 : keys.length ≤ 15) : PE X (.Dict keys values pos) (tDispT trs) := by
  refine ⟨fun pins s σ H Q I q => ?_⟩
  have hn := I.hok.fresh (Nat.le_refl s.heap.objs.size)
  have I1 := I.laid (a := s.heap.objs.size) (o := .dT []) (h' := s.heap.push { cls := .type "dict", data := .dict #[] }) (t' := s.toks) (fun _ _ q => Heap.get?_push_of_some _ q) (Nat.le_refl _) (dt_empty s.heap I.big)
  refine wpAny_Dict_any hall hl h0 h15 (thn (h.run pins _ σ _ _ I1 (q _ hn)) fun ws s2 ⟨ps, H2, I2, rel, e, k, b, v, ep, hb, q2⟩ => ?_)
  subst ep
  cases rel with
  | @cons _ x _ _ hx ht =>
    cases ht
    obtain ⟨x1, x2⟩ := x
    obtain ⟨r1, r2⟩ := hx
    cases (show x1 = Value.ref b from r1)
    obtain ⟨z, hd, xs, rel, dd⟩ := dt_of I2.hok e
    cases rel
    refine wpAny_storeAllH (knd := tupleKind (mixKind X.prog X.w)) (show X.A.units < cLine by omega) [(.ref b, x2)] [(k, b, x2)] [] s2 _ ⟨rfl, rfl, key_of I2.hok hb, trivial⟩ dd (by rw [sizeLine_eq]; show 1 ≤ 16777216; decide) fun h' tk dd' hs => ⟨.ref s.heap.objs.size, _, ?_, rfl, q2⟩
    obtain ⟨o, es, ep, hq, h2, h3, h4, _, h5⟩ := dd'
    refine d_write I2 (by rw [e]; exact True.intro) hs ⟨o, hq⟩ ⟨by rw [sizeLine_eq]; show 1 ≤ 16777216; decide, hd, [(k, b, x2)], Paired.cons ⟨rfl, ?_, r2⟩ .nil, o, es, ep, hq, h2, h3, h4, h5⟩
    rw [upd_ne (ne_of hb e (fun z => nomatch z))]
    exact hb
/-- {}, a dict with tuples as keys: pe_dnewT of the kit -/
theorem SqT_one {K : PySem.W.Frag} (ex : exD K = true) (H : Hp) : SqT K H (He.ga K "ONE") [.int 1, .int 1] ∧ SqT K H (He.ga K "NOUGHT") [.int 0, .int 1] := by
  unfold exD at ex
  obtain ⟨_, ex⟩ := He.ba ex
  obtain ⟨_, ex⟩ := He.ba ex
  obtain ⟨e1, ex⟩ := He.ba ex
  obtain ⟨e2, ex⟩ := He.ba ex
  exact ⟨He.tupB_ok e2 H, He.tupB_ok e1 H⟩
end SE
/-! ## two treatments -/
namespace SE
open PySem PySem.Spec PyProof.Rows L2
def k4 (w : W4) : List Key := [.inl (w.1 : Int), .inl (w.2.1 : Int), .inl (w.2.2.1 : Int), .inl (w.2.2.2 : Int)]
theorem k4_inj {u w : W4} (h : k4 u = k4 w) : u = w := by
  obtain ⟨a, b, c, d⟩ := u
  obtain ⟨a', b', c', d'⟩ := w
  unfold k4 at h
  simp at h
  obtain ⟨h1, h2, h3, h4⟩ := h
  have h1 : a = a' := by omega
  have h2 : b = b' := by omega
  have h3 : c = c' := by omega
  have h4 : d = d' := by omega
  rw [h1, h2, h3, h4]
theorem w4_at {w : W4} {H : Hp} {v : V} (h : (stgP w).p H v) : ∃ t, v = .ref t ∧ H t = some (.tup [.int (w.1 : Int), .int (w.2.1 : Int), .int (w.2.2.1 : Int), .int (w.2.2.2 : Int)]) := pT4_at h
theorem w4_k {w : W4} {H : Hp} {v : V} (h : (stgP w).p H v) : ∃ t, v = .ref t ∧ H t = some (.tup ((k4 w).map kV)) := pT4_at h
theorem w4_key {w : W4} {H : Hp} {t : Addr} (h : H t = some (.tup ((k4 w).map kV))) : (stgP w).p H (.ref t) := ⟨t, _, rfl, h, rfl, rfl, rfl, rfl, trivial⟩
def sp_with_more : Sp := fun vs H Q _ => ∃ (v : V) (w : W4) (i : Nat), vs = [v, nV i] ∧ i < 4 ∧ (stgP w).p H v ∧ Ret (stgP (bump w i)) H Q
theorem sc_with_more : FnScope ["weights", "place"] ["weights", "place"] (defScope (topS 52)) := C8.fnScope_by (by decide +kernel)
theorem c_with_more {P : Program} {w : World} {K : PySem.W.Frag} {mg : Str → Option Value} {base : Heap} (T : Txt K mg) : C8.Cal P w K mg base 1 "with_more" sp_with_more [] := by
  refine T.cal 40 43 rfl rfl sc_with_more (fun _ _ _ _ _ _ us hl => match us, hl with | [_, _], _ => rfl) (fun vs H Q E h => ?_) (fun cdv A outer s H vs Q E hr h => ⟨_, pss_one (ps_ret (pe_op op_catA (pe_op op_catA (pe_slice sl_tupA (pv 0) po_none (po_some (pv 1))) (pe_tup (pa_cons (pe_op op_add (pe_ix ix_tup (pv 0) (pv 1) (fun _ _ => rfl)) pe_int) pa_nil))) (pe_slice sl_tupA (pv 0) (po_some (pe_op op_add (pv 1) pe_int)) po_none))), ?_⟩)
  · obtain ⟨v, w, i, rfl, _⟩ := h
    rfl
  · obtain ⟨v, w, i, rfl, hi, hv, k⟩ := h
    obtain ⟨t, rfl, ht⟩ := w4_at hv
    match i, hi with
    | 0, _ =>
      have e1 : HT.sIx 4 4 (some ((0 : Nat) : Int)) ≠ 4 := by decide
      have e2 : HT.sIx 4 0 (some (((0 : Nat) : Int) + 1)) ≠ 0 := by decide
      refine ⟨_, rfl, _, rfl, _, rfl, t, [V.int (w.1 : Int), V.int (w.2.1 : Int), V.int (w.2.2.1 : Int), V.int (w.2.2.2 : Int)], rfl, SqT.of ht, fun hw => absurd (show HT.sIx 4 4 (some ((0 : Nat) : Int)) = 4 from hw.2) e1, fun _ p hp => ?_⟩
      have s1 := same_new (o := .tup []) hp
      refine ⟨_, rfl, _, rfl, t, [V.int (w.1 : Int), V.int (w.2.1 : Int), V.int (w.2.2.1 : Int), V.int (w.2.2.2 : Int)], ((0 : Nat) : Int), V.int (w.1 : Int), rfl, rfl, SqT.of (s1 _ _ ht), rfl, _, _, rfl, rfl, (by show 1 ≤ sizeLine; decide), fun q hq => ?_⟩
      have s2 := same_new (o := .tup [V.int ((w.1 : Int) + 1)]) hq
      have hp2 : upd (upd H p (.tup [])) q (.tup [V.int ((w.1 : Int) + 1)]) p = some (.tup []) := s2 _ _ upd_same
      refine ⟨p, q, [], [V.int ((w.1 : Int) + 1)], rfl, rfl, SqT.of hp2, SqT.of upd_same, (by show 1 ≤ sizeLine; decide), fun _ => ?_, fun z => absurd rfl z, fun z => absurd rfl z⟩
      have s3 := s1.trans s2
      refine ⟨_, rfl, _, rfl, _, _, rfl, rfl, _, rfl, t, [V.int (w.1 : Int), V.int (w.2.1 : Int), V.int (w.2.2.1 : Int), V.int (w.2.2.2 : Int)], rfl, SqT.of (s3 _ _ ht), fun hw => absurd (show HT.sIx 4 0 (some (((0 : Nat) : Int) + 1)) = 0 from hw.1) e2, fun _ l hl => ?_⟩
      have s4 := same_new (o := .tup [V.int (w.2.1 : Int), V.int (w.2.2.1 : Int), V.int (w.2.2.2 : Int)]) hl
      refine ⟨q, l, _, [V.int (w.2.1 : Int), V.int (w.2.2.1 : Int), V.int (w.2.2.2 : Int)], rfl, rfl, SqT.of (s4 _ _ upd_same), SqT.of upd_same, (by show 4 ≤ sizeLine; decide), fun z => (List.cons_ne_nil _ _ z).elim, fun _ z => (List.cons_ne_nil _ _ z).elim, fun _ _ m hm => ?_⟩
      exact k _ _ ((s3.trans s4).trans (same_new hm)) (pT_mk (new_at2 (s3.trans s4) hm) ⟨rfl, rfl, rfl, rfl, trivial⟩)
    | 1, _ =>
      have e1 : HT.sIx 4 4 (some ((1 : Nat) : Int)) ≠ 4 := by decide
      have e2 : HT.sIx 4 0 (some (((1 : Nat) : Int) + 1)) ≠ 0 := by decide
      refine ⟨_, rfl, _, rfl, _, rfl, t, [V.int (w.1 : Int), V.int (w.2.1 : Int), V.int (w.2.2.1 : Int), V.int (w.2.2.2 : Int)], rfl, SqT.of ht, fun hw => absurd (show HT.sIx 4 4 (some ((1 : Nat) : Int)) = 4 from hw.2) e1, fun _ p hp => ?_⟩
      have s1 := same_new (o := .tup [V.int (w.1 : Int)]) hp
      refine ⟨_, rfl, _, rfl, t, [V.int (w.1 : Int), V.int (w.2.1 : Int), V.int (w.2.2.1 : Int), V.int (w.2.2.2 : Int)], ((1 : Nat) : Int), V.int (w.2.1 : Int), rfl, rfl, SqT.of (s1 _ _ ht), rfl, _, _, rfl, rfl, (by show 1 ≤ sizeLine; decide), fun q hq => ?_⟩
      have s2 := same_new (o := .tup [V.int ((w.2.1 : Int) + 1)]) hq
      have hp2 : upd (upd H p (.tup [V.int (w.1 : Int)])) q (.tup [V.int ((w.2.1 : Int) + 1)]) p = some (.tup [V.int (w.1 : Int)]) := s2 _ _ upd_same
      refine ⟨p, q, [V.int (w.1 : Int)], [V.int ((w.2.1 : Int) + 1)], rfl, rfl, SqT.of hp2, SqT.of upd_same, (by show 2 ≤ sizeLine; decide), fun z => (List.cons_ne_nil _ _ z).elim, fun _ z => (List.cons_ne_nil _ _ z).elim, fun _ _ r hr => ?_⟩
      have s3 := (s1.trans s2).trans (same_new (o := .tup ([V.int (w.1 : Int)] ++ [V.int ((w.2.1 : Int) + 1)])) hr)
      refine ⟨_, rfl, _, rfl, _, _, rfl, rfl, _, rfl, t, [V.int (w.1 : Int), V.int (w.2.1 : Int), V.int (w.2.2.1 : Int), V.int (w.2.2.2 : Int)], rfl, SqT.of (s3 _ _ ht), fun hw => absurd (show HT.sIx 4 0 (some (((1 : Nat) : Int) + 1)) = 0 from hw.1) e2, fun _ l hl => ?_⟩
      have s4 := same_new (o := .tup [V.int (w.2.2.1 : Int), V.int (w.2.2.2 : Int)]) hl
      refine ⟨r, l, _, [V.int (w.2.2.1 : Int), V.int (w.2.2.2 : Int)], rfl, rfl, SqT.of (s4 _ _ upd_same), SqT.of upd_same, (by show 4 ≤ sizeLine; decide), fun z => (List.cons_ne_nil _ _ z).elim, fun _ z => (List.cons_ne_nil _ _ z).elim, fun _ _ m hm => ?_⟩
      exact k _ _ ((s3.trans s4).trans (same_new hm)) (pT_mk (new_at2 (s3.trans s4) hm) ⟨rfl, rfl, rfl, rfl, trivial⟩)
    | 2, _ =>
      have e1 : HT.sIx 4 4 (some ((2 : Nat) : Int)) ≠ 4 := by decide
      have e2 : HT.sIx 4 0 (some (((2 : Nat) : Int) + 1)) ≠ 0 := by decide
      refine ⟨_, rfl, _, rfl, _, rfl, t, [V.int (w.1 : Int), V.int (w.2.1 : Int), V.int (w.2.2.1 : Int), V.int (w.2.2.2 : Int)], rfl, SqT.of ht, fun hw => absurd (show HT.sIx 4 4 (some ((2 : Nat) : Int)) = 4 from hw.2) e1, fun _ p hp => ?_⟩
      have s1 := same_new (o := .tup [V.int (w.1 : Int), V.int (w.2.1 : Int)]) hp
      refine ⟨_, rfl, _, rfl, t, [V.int (w.1 : Int), V.int (w.2.1 : Int), V.int (w.2.2.1 : Int), V.int (w.2.2.2 : Int)], ((2 : Nat) : Int), V.int (w.2.2.1 : Int), rfl, rfl, SqT.of (s1 _ _ ht), rfl, _, _, rfl, rfl, (by show 1 ≤ sizeLine; decide), fun q hq => ?_⟩
      have s2 := same_new (o := .tup [V.int ((w.2.2.1 : Int) + 1)]) hq
      have hp2 : upd (upd H p (.tup [V.int (w.1 : Int), V.int (w.2.1 : Int)])) q (.tup [V.int ((w.2.2.1 : Int) + 1)]) p = some (.tup [V.int (w.1 : Int), V.int (w.2.1 : Int)]) := s2 _ _ upd_same
      refine ⟨p, q, [V.int (w.1 : Int), V.int (w.2.1 : Int)], [V.int ((w.2.2.1 : Int) + 1)], rfl, rfl, SqT.of hp2, SqT.of upd_same, (by show 3 ≤ sizeLine; decide), fun z => (List.cons_ne_nil _ _ z).elim, fun _ z => (List.cons_ne_nil _ _ z).elim, fun _ _ r hr => ?_⟩
      have s3 := (s1.trans s2).trans (same_new (o := .tup ([V.int (w.1 : Int), V.int (w.2.1 : Int)] ++ [V.int ((w.2.2.1 : Int) + 1)])) hr)
      refine ⟨_, rfl, _, rfl, _, _, rfl, rfl, _, rfl, t, [V.int (w.1 : Int), V.int (w.2.1 : Int), V.int (w.2.2.1 : Int), V.int (w.2.2.2 : Int)], rfl, SqT.of (s3 _ _ ht), fun hw => absurd (show HT.sIx 4 0 (some (((2 : Nat) : Int) + 1)) = 0 from hw.1) e2, fun _ l hl => ?_⟩
      have s4 := same_new (o := .tup [V.int (w.2.2.2 : Int)]) hl
      refine ⟨r, l, _, [V.int (w.2.2.2 : Int)], rfl, rfl, SqT.of (s4 _ _ upd_same), SqT.of upd_same, (by show 4 ≤ sizeLine; decide), fun z => (List.cons_ne_nil _ _ z).elim, fun _ z => (List.cons_ne_nil _ _ z).elim, fun _ _ m hm => ?_⟩
      exact k _ _ ((s3.trans s4).trans (same_new hm)) (pT_mk (new_at2 (s3.trans s4) hm) ⟨rfl, rfl, rfl, rfl, trivial⟩)
    | 3, _ =>
      have e1 : HT.sIx 4 4 (some ((3 : Nat) : Int)) ≠ 4 := by decide
      have e2 : HT.sIx 4 0 (some (((3 : Nat) : Int) + 1)) ≠ 0 := by decide
      refine ⟨_, rfl, _, rfl, _, rfl, t, [V.int (w.1 : Int), V.int (w.2.1 : Int), V.int (w.2.2.1 : Int), V.int (w.2.2.2 : Int)], rfl, SqT.of ht, fun hw => absurd (show HT.sIx 4 4 (some ((3 : Nat) : Int)) = 4 from hw.2) e1, fun _ p hp => ?_⟩
      have s1 := same_new (o := .tup [V.int (w.1 : Int), V.int (w.2.1 : Int), V.int (w.2.2.1 : Int)]) hp
      refine ⟨_, rfl, _, rfl, t, [V.int (w.1 : Int), V.int (w.2.1 : Int), V.int (w.2.2.1 : Int), V.int (w.2.2.2 : Int)], ((3 : Nat) : Int), V.int (w.2.2.2 : Int), rfl, rfl, SqT.of (s1 _ _ ht), rfl, _, _, rfl, rfl, (by show 1 ≤ sizeLine; decide), fun q hq => ?_⟩
      have s2 := same_new (o := .tup [V.int ((w.2.2.2 : Int) + 1)]) hq
      have hp2 : upd (upd H p (.tup [V.int (w.1 : Int), V.int (w.2.1 : Int), V.int (w.2.2.1 : Int)])) q (.tup [V.int ((w.2.2.2 : Int) + 1)]) p = some (.tup [V.int (w.1 : Int), V.int (w.2.1 : Int), V.int (w.2.2.1 : Int)]) := s2 _ _ upd_same
      refine ⟨p, q, [V.int (w.1 : Int), V.int (w.2.1 : Int), V.int (w.2.2.1 : Int)], [V.int ((w.2.2.2 : Int) + 1)], rfl, rfl, SqT.of hp2, SqT.of upd_same, (by show 4 ≤ sizeLine; decide), fun z => (List.cons_ne_nil _ _ z).elim, fun _ z => (List.cons_ne_nil _ _ z).elim, fun _ _ r hr => ?_⟩
      have s3 := (s1.trans s2).trans (same_new (o := .tup ([V.int (w.1 : Int), V.int (w.2.1 : Int), V.int (w.2.2.1 : Int)] ++ [V.int ((w.2.2.2 : Int) + 1)])) hr)
      refine ⟨_, rfl, _, rfl, _, _, rfl, rfl, _, rfl, t, [V.int (w.1 : Int), V.int (w.2.1 : Int), V.int (w.2.2.1 : Int), V.int (w.2.2.2 : Int)], rfl, SqT.of (s3 _ _ ht), fun hw => absurd (show HT.sIx 4 0 (some (((3 : Nat) : Int) + 1)) = 0 from hw.1) e2, fun _ l hl => ?_⟩
      have s4 := same_new (o := .tup []) hl
      refine ⟨r, l, _, [], rfl, rfl, SqT.of (s4 _ _ upd_same), SqT.of upd_same, (by show 4 ≤ sizeLine; decide), fun z => (List.cons_ne_nil _ _ z).elim, fun _ _ => ?_, fun _ z => absurd rfl z⟩
      refine k _ _ (s3.trans s4) (pT_mk (vs := [V.int (w.1 : Int), V.int (w.2.1 : Int), V.int (w.2.2.1 : Int)] ++ [V.int ((w.2.2.2 : Int) + 1)]) ?_ ⟨rfl, rfl, rfl, rfl, trivial⟩)
      rw [nw_of ((s1.trans s2).free hr)]
      exact s4 _ _ upd_same
def bet : Nat → Nat
  | 0 => 1
  | h + 1 => 2 * bet h + 19
theorem bet_le : ∀ h, h ≤ 7 → bet h ≤ 2600 := by decide
theorem Ok.nf0 : NF 1 (⟨0, 1⟩ : Kxd7.Fraction) := ⟨by decide, by decide, by show (0 : Int).natAbs < 2 ^ 1; decide, by show ((1 : Nat) : Int).natAbs < 2 ^ 1; decide⟩
theorem nf_one : NF 1 (⟨1, 1⟩ : Kxd7.Fraction) := ⟨by decide, by decide, by show (1 : Int).natAbs < 2 ^ 1; decide, by show ((1 : Nat) : Int).natAbs < 2 ^ 1; decide⟩
theorem nf_share {a b : Nat} (ha : 1 ≤ a) (h : a + b ≤ 255) : NF 8 (Kxd7.fraction a ((a : Int) + b)) ∧ NF 8 (Kxd7.fraction b ((a : Int) + b)) :=
  ⟨nf_frac (by omega) (by omega) (by unfold Lt2; omega) (by unfold Lt2; omega), nf_frac (by omega) (by omega) (by unfold Lt2; omega) (by unfold Lt2; omega)⟩
theorem nf_plus1 {b : Nat} {x : Kxd7.Fraction} (h : NF b x) : NF (b + 1) (Kxd7.plus ⟨1, 1⟩ x) := by
  have hx : (0 : Int) < x.denominator := by have := h.d; omega
  have hn := h.n
  refine nf_frac (Int.add_nonneg (Int.mul_nonneg (by decide) (by omega)) (Int.mul_nonneg h.n (by decide))) (Int.mul_pos (by decide) hx) ?_ ?_
  · show Lt2 (b + 1) (1 * (x.denominator : Int) + x.numerator * 1)
    rw [Int.one_mul, Int.mul_one]
    exact h.ld.add h.ln
  · show Lt2 (b + 1) (1 * (x.denominator : Int))
    rw [Int.one_mul]
    exact h.ld.mono (by omega)
theorem nf_mix {a c b : Nat} {x y : Kxd7.Fraction} (ha : 1 ≤ a) (h : a + c ≤ 255) (hx : NF b x) (hy : NF b y) :
    NF (b + 9) (Kxd7.times (Kxd7.fraction a ((a : Int) + c)) (Kxd7.plus ⟨1, 1⟩ x)) ∧ NF (b + 9) (Kxd7.times (Kxd7.fraction c ((a : Int) + c)) y) ∧ NF (2 * b + 19) (mix a c x y) := by
  obtain ⟨n1, n2⟩ := nf_share ha h
  have m1 := (n1.times (nf_plus1 hx)).mono (show 8 + (b + 1) ≤ b + 9 by omega)
  have m2 := (n2.times hy).mono (show 8 + b ≤ b + 9 by omega)
  exact ⟨m1, m2, (m1.plus m2).mono (by omega)⟩
theorem sv_nf : ∀ (h : Nat) {w : W4}, Wt w → Most (114 - h) w → h ≤ 7 → NF (bet h) (sv h w)
  | 0, w, _, _, _ => Ok.nf0
  | h + 1, w, hw, hm, h7 => by
    have o : ∀ i, NF (bet h) (sv h (bump w i)) := fun i => by
      refine sv_nf h (hw.bump i) ?_ (by omega)
      have := hm.bump i
      rw [show 114 - (h + 1) + 1 = 114 - h by omega] at this
      exact this
    have m1 := hm.a
    have m2 := hm.b
    have m3 := hm.c
    have m4 := hm.d
    rw [sv_succ hw]
    split
    · exact (nf_mix hw.c (by omega) (o 2) (o 3)).2.2
    · exact (nf_mix hw.a (by omega) (o 0) (o 1)).2.2
/-- a dict at d over a heap: what it holds at keys of four numbers -/
def Holds (vals : List (List Key × V)) (F : W4 → RP) (G : Hp) (w : W4) : Prop := ∃ x, valV vals (k4 w) = some x ∧ (F w).p G x
theorem Holds.mono {vals : List (List Key × V)} {F : W4 → RP} {G G' : Hp} {w : W4} (h : Holds vals F G w) (e : Same G G') : Holds vals F G' w := by
  obtain ⟨x, h1, h2⟩ := h
  exact ⟨x, h1, (F w).mono e h2⟩
abbrev svP (K : PySem.W.Frag) (h : Nat) : W4 → RP := fun w => pFK K (sv h w)
structure Vals4 (w : W4) (h : Nat) : Prop where
  wt : Wt w
  most : Most (113 - h) w
  h6 : h ≤ 6
def sp_value_by (K : PySem.W.Frag) : Sp := fun vs H Q _ => ∃ (v : V) (d : Addr) (w : W4) (t h : Nat) (vals : List (List Key × V)), vs = [v, nV t, .ref d] ∧ t < 2 ∧ Vals4 w h ∧ (stgP w).p H v ∧ H d = some (.dT vals) ∧
  Holds vals (svP K h) H (bump w (2 * t)) ∧ Holds vals (svP K h) H (bump w (2 * t + 1)) ∧ Ret (pF (fv t (h + 1) w)) H Q
theorem dget_some {H : Hp} {a b : Addr} {kvs : List (List Key × V)} {k : List Key} {v : V} (e : H a = some (.dT kvs)) (eb : H b = some (.tup (k.map kV))) (h : valV kvs k = some v) : DGet H a (.ref b) (some v) := by
  rw [← h]
  exact .t e eb
theorem lt2_of {x : Nat} (h : x ≤ 255) : Lt2 8000 ((x : Int)) := Lt2.mono (nat_lt2 (b := 8) (by omega)) (by decide)
theorem mixT0 (h : Nat) (w : W4) : mixT h 0 w = mix w.1 w.2.1 (sv h (bump w 0)) (sv h (bump w 1)) := rfl
theorem mixT1 (h : Nat) (w : W4) : mixT h 1 w = mix w.2.2.1 w.2.2.2 (sv h (bump w 2)) (sv h (bump w 3)) := rfl
theorem sc_value_by : FnScope ["weights", "treatment", "values", "good", "bad", "both", "success"] ["weights", "treatment", "values"] (defScope (topS 53)) := C8.fnScope_by (by decide +kernel)
theorem c_value_by {P : Program} {w : World} {K : PySem.W.Frag} {mg : Str → Option Value} {base : Heap} (T : Txt K mg) : C8.Cal P w K mg base 3 "value_by" (sp_value_by K) [] := by
  refine T.cal 41 44 rfl rfl sc_value_by (fun _ _ _ _ _ _ us hl => match us, hl with | [_, _, _], _ => rfl) (fun vs H Q E h => ?_) (fun cdv A outer s H vs Q E hr h => ⟨_, pss_cons (ps_par (i := 3) (j := 4) rfl sc_value_by.nd rfl rfl (by decide) rfl rfl (pa_cons (pe_op op_mulW pe_int (pv 1)) (pa_cons (pe_op op_add (pe_op op_mulW pe_int (pv 1)) pe_int) pa_nil)) (by rfl))
      (pss_cons (ps_set (i := 5) sc_value_by.nd rfl (Or.inl rfl) (pe_op op_add (pe_ix ix_tup (pv 0) (pv 3) (fun _ _ => rfl)) (pe_ix ix_tup (pv 0) (pv 4) (fun _ _ => rfl))))
      (pss_cons (ps_set (i := 6) sc_value_by.nd rfl (Or.inl rfl) (C8.pe_c (c_times T) hr (by decide) rfl (pa_cons (C8.pe_c (c_ratio T) hr (by decide) rfl (pa_cons (pe_ix ix_tup (pv 0) (pv 3) (fun _ _ => rfl)) (pa_cons (pv 5) pa_nil))) (pa_cons (C8.pe_c (c_plus T) hr (by decide) rfl (pa_cons (pe_glob rfl (T.glo 42) (show RelV (.ref (He.ga K "ONE")) (.ref (He.ga K "ONE")) from rfl)) (pa_cons (pe_dget (hu_of hr) (pv 2) (C8.pe_c (c_with_more T) hr (by decide) rfl (pa_cons (pv 0) (pa_cons (pv 3) pa_nil))) (fun _ _ => rfl)) pa_nil))) pa_nil))))
      (pss_one (ps_ret (C8.pe_c (c_plus T) hr (by decide) rfl (pa_cons (pv 6) (pa_cons (C8.pe_c (c_times T) hr (by decide) rfl (pa_cons (C8.pe_c (c_ratio T) hr (by decide) rfl (pa_cons (pe_ix ix_tup (pv 0) (pv 4) (fun _ _ => rfl)) (pa_cons (pv 5) pa_nil))) (pa_cons (pe_dget (hu_of hr) (pv 2) (C8.pe_c (c_with_more T) hr (by decide) rfl (pa_cons (pv 0) (pa_cons (pv 4) pa_nil))) (fun _ _ => rfl)) pa_nil))) pa_nil))))))), ?_⟩)
  · obtain ⟨v, d, w, t, h, vals, rfl, _⟩ := h
    rfl
  · obtain ⟨v, d, w, t, h, vals, rfl, ht, g, hv, hd, hg, hb, k⟩ := h
    have one := fun H' => (SqT_one T.ex H').1
    obtain ⟨q, rfl, hq⟩ := w4_at hv
    rcases (show t = 0 ∨ t = 1 by omega) with rfl | rfl
    ·
      have ha : 1 ≤ w.1 := g.wt.a
      have hc : 1 ≤ w.2.1 := g.wt.b
      have hma : w.1 ≤ 113 := Nat.le_trans g.most.a (Nat.sub_le _ _)
      have hmc : w.2.1 ≤ 113 := Nat.le_trans g.most.b (Nat.sub_le _ _)
      have ev : fv 0 (h + 1) w = mix w.1 w.2.1 (sv h (bump w 0)) (sv h (bump w 1)) := (fv_succ g.wt (by decide)).trans (mixT0 h w)
      obtain ⟨x1, hx1, gx1⟩ := (show Holds vals (svP K h) H (bump w 0) from hg)
      obtain ⟨x2, hx2, gx2⟩ := (show Holds vals (svP K h) H (bump w 1) from hb)
      have n1 := (sv_nf h (g.wt.bump 0) (by have := g.most.bump 0; rwa [show 113 - h + 1 = 114 - h by have := g.h6; omega] at this) (by have := g.h6; omega)).mono (bet_le h (by have := g.h6; omega))
      have n2 := (sv_nf h (g.wt.bump 1) (by have := g.most.bump 1; rwa [show 113 - h + 1 = 114 - h by have := g.h6; omega] at this) (by have := g.h6; omega)).mono (bet_le h (by have := g.h6; omega))
      obtain ⟨m1, m2, m3⟩ := nf_mix ha (by omega : w.1 + w.2.1 ≤ 255) n1 n2
      rw [ev] at k
      have w2 : CMulW 2 ((0 : Nat) : Int) := (nat_lt2 (b := 2) (x := 2) (by decide)).mulW (nat_lt2 (b := 2) (x := 0) (by decide)) (by decide)
      refine ⟨_, rfl, _, _, rfl, rfl, w2, _, rfl, _, _, rfl, rfl, w2, _, _, rfl, rfl, _, _, rfl, ?_⟩
      refine ⟨_, rfl, _, rfl, q, _, _, _, rfl, rfl, SqT.of hq, rfl, _, rfl, _, rfl, q, _, _, _, rfl, rfl, SqT.of hq, rfl, _, _, rfl, rfl, ?_⟩
      refine ⟨_, rfl, _, rfl, q, _, _, _, rfl, rfl, SqT.of hq, rfl, _, rfl, (w.1 : Int), (w.1 : Int) + (w.2.1 : Int), rfl, by omega, by omega, lt2_of (show w.1 + w.2.1 ≤ 255 by omega), fun r1 H1 e1 hr1 => ?_⟩
      refine ⟨_, rfl, _, rfl, _, rfl, .ref q, w, 0, rfl, by decide, (stgP w).mono e1 hv, fun b1 H2 e2 hb1 => ?_⟩
      obtain ⟨q1, rfl, hq1⟩ := w4_k (((stgP _).mono nw_same hb1))
      refine ⟨d, x1, rfl, dget_some (e2 _ _ (e1 _ _ hd)) hq1 hx1, ?_⟩
      have e12 := e1.trans e2
      refine ⟨_, _, ⟨1, 1⟩, sv h (bump w 0), rfl, ⟨_, rfl, one _⟩, (svP K h _).mono e12 gx1, nf_one.mono (by decide), n1.mono (by decide), fun r2 H3 e3 hr2 => ?_⟩
      have e123 := e12.trans e3
      refine ⟨_, _, Kxd7.fraction w.1 ((w.1 : Int) + w.2.1), Kxd7.plus ⟨1, 1⟩ (sv h (bump w 0)), rfl, pF_K ((pF _).mono (nw_same.trans (e2.trans e3)) hr1), pF_K ((pF _).mono nw_same hr2), ((nf_share ha (by omega)).1).mono (by decide), (nf_plus1 n1).mono (by decide), fun r3 H4 e4 hr3 => ?_⟩
      have e1234 := e123.trans e4
      have hq4 := e1234 _ _ hq
      refine ⟨_, rfl, _, rfl, _, rfl, q, _, _, _, rfl, rfl, SqT.of hq4, rfl, _, rfl, (w.2.1 : Int), (w.1 : Int) + (w.2.1 : Int), rfl, by omega, by omega, lt2_of (show w.1 + w.2.1 ≤ 255 by omega), fun r4 H5 e5 hr4 => ?_⟩
      refine ⟨_, rfl, _, rfl, _, rfl, .ref q, w, 1, rfl, by decide, (stgP w).mono (e1234.trans e5) hv, fun b2 H6 e6 hb2 => ?_⟩
      obtain ⟨q2, rfl, hq2⟩ := w4_k (((stgP _).mono nw_same hb2))
      have e16 := (e1234.trans e5).trans e6
      refine ⟨d, x2, rfl, dget_some (e16 _ _ hd) hq2 hx2, ?_⟩
      refine ⟨_, _, Kxd7.fraction w.2.1 ((w.1 : Int) + w.2.1), sv h (bump w 1), rfl, pF_K ((pF _).mono (nw_same.trans e6) hr4), (svP K h _).mono e16 gx2, ((nf_share ha (by omega)).2).mono (by decide), n2.mono (by decide), fun r5 H7 e7 hr5 => ?_⟩
      exact ⟨_, _, _, _, rfl, pF_K ((pF _).mono (nw_same.trans (e5.trans (e6.trans e7))) hr3), pF_K ((pF _).mono nw_same hr5), m1.mono (by decide), m2.mono (by decide), k.from (e16.trans e7)⟩
    ·
      have ha : 1 ≤ w.2.2.1 := g.wt.c
      have hc : 1 ≤ w.2.2.2 := g.wt.d
      have hma : w.2.2.1 ≤ 113 := Nat.le_trans g.most.c (Nat.sub_le _ _)
      have hmc : w.2.2.2 ≤ 113 := Nat.le_trans g.most.d (Nat.sub_le _ _)
      have ev : fv 1 (h + 1) w = mix w.2.2.1 w.2.2.2 (sv h (bump w 2)) (sv h (bump w 3)) := (fv_succ g.wt (by decide)).trans (mixT1 h w)
      obtain ⟨x1, hx1, gx1⟩ := (show Holds vals (svP K h) H (bump w 2) from hg)
      obtain ⟨x2, hx2, gx2⟩ := (show Holds vals (svP K h) H (bump w 3) from hb)
      have n1 := (sv_nf h (g.wt.bump 2) (by have := g.most.bump 2; rwa [show 113 - h + 1 = 114 - h by have := g.h6; omega] at this) (by have := g.h6; omega)).mono (bet_le h (by have := g.h6; omega))
      have n2 := (sv_nf h (g.wt.bump 3) (by have := g.most.bump 3; rwa [show 113 - h + 1 = 114 - h by have := g.h6; omega] at this) (by have := g.h6; omega)).mono (bet_le h (by have := g.h6; omega))
      obtain ⟨m1, m2, m3⟩ := nf_mix ha (by omega : w.2.2.1 + w.2.2.2 ≤ 255) n1 n2
      rw [ev] at k
      have w2 : CMulW 2 ((1 : Nat) : Int) := (nat_lt2 (b := 2) (x := 2) (by decide)).mulW (nat_lt2 (b := 2) (x := 1) (by decide)) (by decide)
      refine ⟨_, rfl, _, _, rfl, rfl, w2, _, rfl, _, _, rfl, rfl, w2, _, _, rfl, rfl, _, _, rfl, ?_⟩
      refine ⟨_, rfl, _, rfl, q, _, _, _, rfl, rfl, SqT.of hq, rfl, _, rfl, _, rfl, q, _, _, _, rfl, rfl, SqT.of hq, rfl, _, _, rfl, rfl, ?_⟩
      refine ⟨_, rfl, _, rfl, q, _, _, _, rfl, rfl, SqT.of hq, rfl, _, rfl, (w.2.2.1 : Int), (w.2.2.1 : Int) + (w.2.2.2 : Int), rfl, by omega, by omega, lt2_of (show w.2.2.1 + w.2.2.2 ≤ 255 by omega), fun r1 H1 e1 hr1 => ?_⟩
      refine ⟨_, rfl, _, rfl, _, rfl, .ref q, w, 2, rfl, by decide, (stgP w).mono e1 hv, fun b1 H2 e2 hb1 => ?_⟩
      obtain ⟨q1, rfl, hq1⟩ := w4_k (((stgP _).mono nw_same hb1))
      refine ⟨d, x1, rfl, dget_some (e2 _ _ (e1 _ _ hd)) hq1 hx1, ?_⟩
      have e12 := e1.trans e2
      refine ⟨_, _, ⟨1, 1⟩, sv h (bump w 2), rfl, ⟨_, rfl, one _⟩, (svP K h _).mono e12 gx1, nf_one.mono (by decide), n1.mono (by decide), fun r2 H3 e3 hr2 => ?_⟩
      have e123 := e12.trans e3
      refine ⟨_, _, Kxd7.fraction w.2.2.1 ((w.2.2.1 : Int) + w.2.2.2), Kxd7.plus ⟨1, 1⟩ (sv h (bump w 2)), rfl, pF_K ((pF _).mono (nw_same.trans (e2.trans e3)) hr1), pF_K ((pF _).mono nw_same hr2), ((nf_share ha (by omega)).1).mono (by decide), (nf_plus1 n1).mono (by decide), fun r3 H4 e4 hr3 => ?_⟩
      have e1234 := e123.trans e4
      have hq4 := e1234 _ _ hq
      refine ⟨_, rfl, _, rfl, _, rfl, q, _, _, _, rfl, rfl, SqT.of hq4, rfl, _, rfl, (w.2.2.2 : Int), (w.2.2.1 : Int) + (w.2.2.2 : Int), rfl, by omega, by omega, lt2_of (show w.2.2.1 + w.2.2.2 ≤ 255 by omega), fun r4 H5 e5 hr4 => ?_⟩
      refine ⟨_, rfl, _, rfl, _, rfl, .ref q, w, 3, rfl, by decide, (stgP w).mono (e1234.trans e5) hv, fun b2 H6 e6 hb2 => ?_⟩
      obtain ⟨q2, rfl, hq2⟩ := w4_k (((stgP _).mono nw_same hb2))
      have e16 := (e1234.trans e5).trans e6
      refine ⟨d, x2, rfl, dget_some (e16 _ _ hd) hq2 hx2, ?_⟩
      refine ⟨_, _, Kxd7.fraction w.2.2.2 ((w.2.2.1 : Int) + w.2.2.2), sv h (bump w 3), rfl, pF_K ((pF _).mono (nw_same.trans e6) hr4), (svP K h _).mono e16 gx2, ((nf_share ha (by omega)).2).mono (by decide), n2.mono (by decide), fun r5 H7 e7 hr5 => ?_⟩
      exact ⟨_, _, _, _, rfl, pF_K ((pF _).mono (nw_same.trans (e5.trans (e6.trans e7))) hr3), pF_K ((pF _).mono nw_same hr5), m1.mono (by decide), m2.mono (by decide), k.from (e16.trans e7)⟩
def sp_best_value (K : PySem.W.Frag) : Sp := fun vs H Q _ => ∃ (v : V) (d : Addr) (w : W4) (h : Nat) (vals : List (List Key × V)), vs = [v, .ref d] ∧ Vals4 w h ∧ (stgP w).p H v ∧ H d = some (.dT vals) ∧ (∀ i, i < 4 → Holds vals (svP K h) H (bump w i)) ∧ Ret (pF (sv (h + 1) w)) H Q
theorem fv_nf {w : W4} {h t : Nat} (g : Vals4 w h) (ht : t < 2) : NF 4000 (fv t (h + 1) w) := by
  have h6 := g.h6
  have o : ∀ i, NF (bet h) (sv h (bump w i)) := fun i => sv_nf h (g.wt.bump i) (by have := g.most.bump i; rwa [show 113 - h + 1 = 114 - h by omega] at this) (by omega)
  have q := bet_le (h + 1) (by omega)
  have m1 := g.most.a
  have m2 := g.most.b
  have m3 := g.most.c
  have m4 := g.most.d
  rw [fv_succ g.wt ht]
  unfold mixT
  split
  · exact (nf_mix g.wt.a (by omega) (o 0) (o 1)).2.2.mono (Nat.le_trans q (by decide))
  · exact (nf_mix g.wt.c (by omega) (o 2) (o 3)).2.2.mono (Nat.le_trans q (by decide))
theorem sc_best_value : FnScope ["weights", "values", "first", "second"] ["weights", "values"] (defScope (topS 54)) := C8.fnScope_by (by decide +kernel)
theorem c_best_value {P : Program} {w : World} {K : PySem.W.Frag} {mg : Str → Option Value} {base : Heap} (T : Txt K mg) : C8.Cal P w K mg base 4 "best_value" (sp_best_value K) [] := by
  refine T.cal 42 45 rfl rfl sc_best_value (fun _ _ _ _ _ _ us hl => match us, hl with | [_, _], _ => rfl) (fun vs H Q E h => ?_) (fun cdv A outer s H vs Q E hr h => ⟨_, pss_cons (ps_par (i := 2) (j := 3) rfl sc_best_value.nd rfl rfl (by decide) rfl rfl (pa_cons (C8.pe_c (c_value_by T) hr (by decide) rfl (pa_cons (pv 0) (pa_cons pe_int (pa_cons (pv 1) pa_nil)))) (pa_cons (C8.pe_c (c_value_by T) hr (by decide) rfl (pa_cons (pv 0) (pa_cons pe_int (pa_cons (pv 1) pa_nil)))) pa_nil)) (by rfl))
      (pss_one (ps_ret (pe_ifExp (pt_val (C8.pe_c (c_is_below T) hr (by decide) rfl (pa_cons (pv 2) (pa_cons (pv 3) pa_nil)))) (pv 3) (pv 2)))), ?_⟩)
  · obtain ⟨v, d, w, h, vals, rfl, _⟩ := h
    rfl
  · obtain ⟨v, d, w, h, vals, rfl, g, hv, hd, hh, k⟩ := h
    refine ⟨_, rfl, _, rfl, v, d, w, 0, h, vals, rfl, by decide, g, hv, hd, hh 0 (by decide), hh 1 (by decide), fun r1 H1 e1 hr1 => ?_⟩
    refine ⟨_, rfl, _, rfl, v, d, w, 1, h, vals, rfl, by decide, g, (stgP w).mono e1 hv, e1 _ _ hd, (hh 2 (by decide)).mono e1, (hh 3 (by decide)).mono e1, fun r2 H2 e2 hr2 => ?_⟩
    have n1 := fv_nf g (t := 0) (by decide)
    have n2 := fv_nf g (t := 1) (by decide)
    refine ⟨_, _, rfl, _, rfl, _, rfl, r1, r2, _, _, rfl, pF_K ((pF _).mono (nw_same.trans e2) hr1), pF_K ((pF _).mono nw_same hr2), n1, n2, _, rfl, ?_⟩
    have ev : sv (h + 1) w = if Kxd7.isLess (fv 0 (h + 1) w) (fv 1 (h + 1) w) then fv 1 (h + 1) w else fv 0 (h + 1) w := by
      rw [sv_succ g.wt, fv_succ g.wt (by decide), fv_succ g.wt (by decide)]
    rw [ev] at k
    by_cases c : Kxd7.isLess (fv 0 (h + 1) w) (fv 1 (h + 1) w) = true
    · rw [if_pos c] at k
      exact if_true_of c ⟨_, rfl, k _ _ (e1.trans e2) ((pF _).mono (nw_ground e1.dm) hr2)⟩
    · rw [if_neg c] at k
      exact if_false_of (by simpa using c) ⟨_, rfl, k _ _ (e1.trans e2) ((pF _).mono (nw_more e2) hr1)⟩
end SE
/-! ## layers of weights, their values -/
namespace SE
open PySem PySem.Spec PyProof.Rows L2
theorem hu1 {A : Around} {k : Nat} (hr : Room k A) : A.units + 1 < cLine := by have := hr.un; omega
theorem mem_put {kvs : List (List Key × V)} {k : List Key} {v : V} {p : List Key × V} (h : p ∈ putK kvs k v) : p.1 = k ∨ ∃ q ∈ kvs, q.1 = p.1 := by
  unfold putK at h
  split at h
  · obtain ⟨q, hq, rfl⟩ := List.mem_map.mp h
    by_cases c : q.1 = k
    · rw [if_pos c]; exact .inl c
    · rw [if_neg c]; exact .inr ⟨q, hq, rfl⟩
  · rcases List.mem_append.mp h with h | h
    · exact .inr ⟨p, h, rfl⟩
    · rw [List.mem_singleton.mp h]; exact .inl rfl
/-- keys of a layer -/
structure LayK (w0 : W4) (j : Nat) (kvs : List (List Key × V)) : Prop where
  len : kvs.length ≤ 4 ^ j
  snd : ∀ p ∈ kvs, ∃ w, Rch w0 j w ∧ p.1 = k4 w
  all : ∀ w, Rch w0 j w → ∃ v, valV kvs (k4 w) = some v
def pLay (w0 : W4) (j : Nat) : RP := ⟨fun H v => ∃ d kvs, v = .ref d ∧ H d = some (.dT kvs) ∧ LayK w0 j kvs, fun e h => by
  obtain ⟨d, kvs, h1, h2, h3⟩ := h
  exact ⟨d, kvs, h1, e _ _ h2, h3⟩⟩
theorem lay_zero (w0 : W4) (v : V) : LayK w0 0 [(k4 w0, v)] where
  len := Nat.le_refl _
  snd := fun p hp => ⟨w0, rfl, by rw [List.mem_singleton.mp hp]⟩
  all := fun w hw => ⟨v, by rw [show w = w0 from hw]; exact valV_pos rfl⟩
/-- a layer that is made: keys before i are done, of the i-th one the places before m -/
structure LayM (w0 : W4) (j : Nat) (kvs : List (List Key × V)) (i m : Nat) (lat : List (List Key × V)) : Prop where
  len : lat.length ≤ 4 * i + m
  snd : ∀ p ∈ lat, ∃ w, Rch w0 (j + 1) w ∧ p.1 = k4 w
  old : ∀ w n v, n < i → kvs[n]? = some (k4 w, v) → ∀ q, q < 4 → ∃ v, valV lat (k4 (bump w q)) = some v
  now : ∀ w v, kvs[i]? = some (k4 w, v) → ∀ q, q < m → ∃ v, valV lat (k4 (bump w q)) = some v
theorem LayM.put {w0 : W4} {j i m : Nat} {kvs lat : List (List Key × V)} (L : LayM w0 j kvs i m lat) {w : W4} {v x : V} (hk : kvs[i]? = some (k4 w, v)) (hr : Rch w0 j w) (hm : m < 4) : LayM w0 j kvs i (m + 1) (putK lat (k4 (bump w m)) x) where
  len := by have := length_putK lat (k4 (bump w m)) x; have := L.len; omega
  snd := fun p hp => by
    rcases mem_put hp with h | ⟨q, hq, h⟩
    · exact ⟨_, ⟨w, m, hm, hr, rfl⟩, h⟩
    · rw [← h]; exact L.snd q hq
  old := fun u n y hn hu q hq => by
    rw [valV_put]
    split
    · exact ⟨_, rfl⟩
    · exact L.old u n y hn hu q hq
  now := fun u y hu q hq => by
    rw [valV_put]
    split
    · exact ⟨_, rfl⟩
    · next c =>
      have e : u = w := by
        rw [hk] at hu
        injection hu with hu
        injection hu with hu _
        exact (k4_inj hu).symm
      rcases Nat.lt_succ_iff_lt_or_eq.mp hq with h | h
      · exact L.now u y hu q h
      · exact absurd (by rw [e, h]) c
theorem LayM.next {w0 : W4} {j i : Nat} {kvs lat : List (List Key × V)} (L : LayM w0 j kvs i 4 lat) : LayM w0 j kvs (i + 1) 0 lat where
  len := by have := L.len; omega
  snd := L.snd
  old := fun w n v hn hk q hq => by
    rcases Nat.lt_succ_iff_lt_or_eq.mp hn with h | h
    · exact L.old w n v h hk q hq
    · subst h; exact L.now w v hk q hq
  now := fun w v hk q hq => absurd hq (Nat.not_lt_zero _)
theorem valV_at {kvs : List (List Key × V)} {k : List Key} {v : V} (h : valV kvs k = some v) : ∃ n : Nat, n < kvs.length ∧ ∃ y, kvs[n]? = some (k, y) := by
  unfold valV at h
  cases hf : kvs.find? (fun kv => decide (kv.1 = k)) with
  | none => rw [hf] at h; cases h
  | some p =>
    have h1 : p.1 = k := of_decide_eq_true (List.find?_some (p := fun kv : List Key × V => decide (kv.1 = k)) hf)
    obtain ⟨n, hn, e⟩ := List.getElem_of_mem (List.mem_of_find?_eq_some hf)
    exact ⟨n, hn, p.2, by rw [List.getElem?_eq_getElem hn, e, ← h1]⟩
theorem LayM.done {w0 : W4} {j : Nat} {kvs lat : List (List Key × V)} (D : LayK w0 j kvs) (L : LayM w0 j kvs kvs.length 0 lat) : LayK w0 (j + 1) lat where
  len := by have := L.len; have := D.len; rw [Nat.pow_succ]; omega
  snd := L.snd
  all := fun w hw => by
    obtain ⟨u, i, hi, hu, rfl⟩ := hw
    obtain ⟨v, hv⟩ := D.all u hu
    obtain ⟨n, hn, y, hy⟩ := valV_at hv
    exact L.old u n y hn hy i hi
/-- a key of a locked dict -/
theorem lay_key {w0 : W4} {j i : Nat} {kvs : List (List Key × V)} (D : LayK w0 j kvs) {k : List Key} {v : V} (h : kvs[i]? = some (k, v)) : ∃ w, Rch w0 j w ∧ k = k4 w := D.snd _ (List.mem_of_getElem? h)
theorem same_lock {A B : Hp} {d g : Addr} {u : HO} {od : Obj} (hd : A d = some u) (hdg : d ≠ g) (e : Same (wo g (upd A d (.frz od u))) B) : Same (wo g A) (upd B d u) := fun b o q => by
  obtain ⟨h1, h2⟩ := of_wo q
  by_cases h : b = d
  · rw [h] at h2 ⊢
    rw [hd] at h2
    rw [upd_same, ← h2]
  · rw [upd_ne h]
    exact e _ _ (by rw [wo_ne h1, upd_ne h]; exact h2)
theorem Same.put_wo {A B : Hp} {g : Addr} {o : HO} (e : Same (wo g A) B) : Same (wo g A) (upd B g o) := e.mut wo_self
theorem pow4 {j : Nat} (h : j ≤ 7) : 4 ^ j ≤ 16384 := Nat.le_trans (Nat.pow_le_pow_right (by decide) h) (by decide)
def sp_layers_of : Sp := fun vs H Q _ => ∃ (v : V) (w0 : W4) (m : Nat), vs = [v, nV m] ∧ (stgP w0).p H v ∧ m ≤ 7 ∧ Ret (pL ((List.range (m + 1)).map (pLay w0))) H Q
theorem sc_layers_of : FnScope ["weights", "many", "found", "turn", "later", "here", "place"] ["weights", "many"] (defScope (topS 55)) := C8.fnScope_by (by decide +kernel)
theorem c_layers_of {P : Program} {w : World} {K : PySem.W.Frag} {mg : Str → Option Value} {base : Heap} (T : Txt K mg) : C8.Cal P w K mg base 2 "layers_of" sp_layers_of [] := by
  refine T.cal 43 46 rfl rfl sc_layers_of (fun _ _ _ _ _ _ us hl => match us, hl with | [_, _], _ => rfl) (fun vs H Q E h => ?_) (fun cdv A outer s H vs Q E hr h => ⟨_, pss_cons (ps_set (i := 2) sc_layers_of.nd rfl (Or.inl rfl) (pe_lst (pa_cons (pe_dispT (hu1 hr) (pps_cons (pv 0) pe_bl pps_nil) rfl rfl (by decide) (by decide)) pa_nil)))
      (pss_cons (ps_for PassesOwn.never rfl (pi_range1 (by rfl) (T.free 84) (pa_cons (pv 1) pa_nil)) (pg_name (i := 3) sc_layers_of.nd rfl (Or.inl rfl)) (pss_cons (ps_set (i := 4) sc_layers_of.nd rfl (Or.inl rfl) pe_dnewT)
      (pss_cons (ps_lock (ps_for PassesOwn.never rfl (pi_keys (pe_ix ix_list (pv 2) (pe_un un_neg pe_int) (fun _ _ => rfl))) (pg_name (i := 5) sc_layers_of.nd rfl (Or.inl rfl)) (pss_one (ps_for PassesOwn.never rfl (pi_range1 (by rfl) (T.free 84) (pa_cons pe_int pa_nil)) (pg_name (i := 6) sc_layers_of.nd rfl (Or.inl rfl)) (pss_one (ps_dput (hu1 hr) (pv 4) (C8.pe_c (c_with_more T) hr (by decide) rfl (pa_cons (pv 5) (pa_cons (pv 6) pa_nil))) pe_bl rfl))))))
      (pss_one (ps_expr (pe_bm PySem.F.plainAttrs_list PySem.F.slot_list_append PySem.F.type_list_append mt_append (pv 2) (pa_cons (pv 4) pa_nil)))))))
      (pss_one (ps_ret (pv 2)))), ?_⟩)
  · obtain ⟨v, w0, m, rfl, _⟩ := h
    rfl
  · obtain ⟨v, w0, m, rfl, hv, hm, k⟩ := h
    obtain ⟨t, rfl, ht⟩ := w4_k hv
    intro a ha
    have s1 := same_new (o := .dT []) ha
    refine ⟨_, rfl, upd_same, k4 w0, t, .bl true, rfl, s1 _ _ ht, (by show 1 ≤ sizeLine; decide), fun f hf => ?_⟩
    rw [upd_upd] at hf ⊢
    have s2 := same_new (o := .dT [(k4 w0, .bl true)]) ha
    have s3 := s2.trans (same_new (o := .lst [.ref a]) hf)
    have hfH : H f = none := s2.free hf
    have haf : a ≠ f := fun e => by rw [← e, upd_same] at hf; cases hf
    have F0 : Fill H f H ((List.range (0 + 1)).map (pLay w0)) (upd (upd H a (.dT [(k4 w0, .bl true)])) f (.lst [.ref a])) :=
      ⟨hfH, s3.in_wo hfH, [.ref a], upd_same, ⟨a, _, rfl, by rw [nw_of ha, wo_ne haf, upd_ne haf, upd_same], lay_zero w0 _⟩, trivial⟩
    refine ⟨_, rfl, _, rfl, by omega, by omega, ?_⟩
    rw [show ((m : Int)).toNat = m by omega]
    refine for_it walk_range (fun i σ H' => Fill H f H ((List.range (i + 1)).map (pLay w0)) H' ∧ ∃ x1 x2 x3 x4, σ = [some (.ref t), some (nV m), some (.ref f), x1, x2, x3, x4]) ⟨F0, none, none, none, none, rfl⟩ (fun _ _ _ _ _ => trivial) ?_ ?_
    · rintro j x σ H1 Hc hj ⟨F, x1, x2, x3, x4, rfl⟩ ⟨rfl, hx⟩
      have hx : x = .int (j : Int) := hx.trans (congrArg V.int (by omega))
      subst hx
      intro g hg
      obtain ⟨us, hus, hal⟩ := F.it
      have hul : us.length = j + 1 := by rw [hal.len]; simp
      obtain ⟨dv, hd1, d, kvs, rfl, hd2, D⟩ := hal.get (i := j) (r := pLay w0 j) (by rw [List.getElem?_map, List.getElem?_range (by omega)]; rfl)
      obtain ⟨hdf, hdc⟩ := of_wo (of_nw hd2).2
      have hdg : d ≠ g := fun e => by rw [e, hg] at hdc; cases hdc
      have hfg : f ≠ g := fun e => by rw [e, hg] at hus; cases hus
      have sg := same_new (o := .dT []) hg
      have hdG := sg _ _ hdc
      have pw := pow4 (show j ≤ 7 by omega)
      have dl := D.len
      refine ⟨d, .dT kvs, hdG, True.intro, fun od => ?_⟩
      refine ⟨_, rfl, _, rfl, f, us, _, .ref d, rfl, rfl, SqL.of (by rw [upd_ne hdf.symm]; exact sg _ _ hus), atI_neg1 (by rw [hul]; exact hd1), d, od, rfl, .inr ⟨kvs, upd_same, ?_⟩⟩
      have hfr : ∀ B : Hp, Same (wo g (upd (upd Hc g (.dT [])) d (.frz od (.dT kvs)))) B → B d = some (.frz od (.dT kvs)) := fun B e => e _ _ (by rw [wo_ne hdg, upd_same])
      refine for_it (walk_keysT (kvs := kvs) (d := d) (o := od)) (fun i σ H' => Same (wo g (upd (upd Hc g (.dT [])) d (.frz od (.dT kvs)))) H' ∧ (∃ lat, H' g = some (.dT lat) ∧ LayM w0 j kvs i 0 lat) ∧ ∃ x3 x4, σ = [some (.ref t), some (nV m), some (.ref f), some (nV j), some (.ref g), x3, x4])
        ⟨wo_le, ⟨[], by rw [upd_ne hdg.symm, upd_same], ⟨Nat.le_refl _, fun p hp => absurd hp (by simp), fun _ _ _ h => absurd h (Nat.not_lt_zero _), fun _ _ _ _ h => absurd h (Nat.not_lt_zero _)⟩⟩, x3, x4, rfl⟩ (fun i σ H' _ p => hfr _ p.1) ?_ ?_
      · rintro i x σ H2 H3 hi ⟨e2, ⟨lat, hlat, L⟩, x3, x4, rfl⟩ ⟨rfl, k1, v1, q, hk, rfl, hq⟩
        obtain ⟨w, hw, rfl⟩ := lay_key D hk
        refine ⟨_, rfl, by decide, by decide, ?_⟩
        refine for_it walk_range (fun p σ H' => Same (wo g (upd (upd Hc g (.dT [])) d (.frz od (.dT kvs)))) H' ∧ (∃ lat, H' g = some (.dT lat) ∧ LayM w0 j kvs i p lat) ∧ H' q = some (.tup ((k4 w).map kV)) ∧ ∃ x4, σ = [some (.ref t), some (nV m), some (.ref f), some (nV j), some (.ref g), some (.ref q), x4])
          ⟨e2, ⟨lat, hlat, L⟩, hq, x4, rfl⟩ (fun _ _ _ _ _ => trivial) ?_ ?_
        · rintro p x σ H4 H5 hp ⟨e4, ⟨lat, hlat, L⟩, hq, x4, rfl⟩ ⟨rfl, hx⟩
          have hx : x = .int (p : Int) := hx.trans (congrArg V.int (by omega))
          subst hx
          have hp : p < 4 := hp
          refine ⟨_, rfl, _, rfl, _, rfl, .ref q, w, p, rfl, hp, w4_key hq, fun r H6 e6 hr6 => ?_⟩
          obtain ⟨q1, rfl, hq1⟩ := w4_k ((stgP _).mono nw_same hr6)
          have hg6 := e6 _ _ hlat
          have hq6 := e6 _ _ hq
          have hqg : q ≠ g := fun e => by rw [e, hlat] at hq; cases hq
          refine ⟨g, _, rfl, .t hg6 hq1 (size_lt (by have := L.len; omega)), ?_⟩
          exact ⟨Same.put_wo (e4.trans e6), ⟨_, upd_same, L.put hk hw hp⟩, by rw [upd_ne hqg]; exact hq6, _, rfl⟩
        · rintro σ H4 ⟨e4, ⟨lat, hlat, L⟩, hq, x4, rfl⟩
          exact ⟨e4, ⟨lat, hlat, LayM.next L⟩, _, _, rfl⟩
      · rintro σ B ⟨e2, ⟨lat, hlat, L⟩, x3, x4, rfl⟩
        refine ⟨hfr _ e2, ?_⟩
        have e3 := (sg.in_wo hg).trans (same_lock hdG hdg e2)
        have hus2 := e3 _ _ hus
        refine ⟨_, rfl, .inl ⟨rfl, _, SqL.of hus2⟩, _, rfl, f, us, _, rfl, rfl, hus2, size_lt (by omega), ?_⟩
        refine ⟨?_, _, _, _, _, rfl⟩
        rw [map_range_succ]
        refine F.push e3 hus F.up.dm ⟨g, lat, rfl, ?_, LayM.done D L⟩
        rw [nw_of hg, upd_ne hdg.symm]
        exact hlat
    · rintro σ H1 ⟨F, x1, x2, x3, x4, rfl⟩
      exact ⟨_, rfl, k _ _ F.up F.done⟩
end SE
/-! ## the values of layers -/
namespace SE
open PySem PySem.Spec PyProof.Rows L2
/-- what is no tuple -/
def NoTup (o : HO) : Prop := ∀ xs, o ≠ .tup xs ∧ ∀ b, o ≠ .frz b (.tup xs)
theorem notup_dT (kvs : List (List Key × V)) : NoTup (.dT kvs) := fun xs => ⟨(fun z => nomatch z), fun b => (fun z => nomatch z)⟩
theorem notup_frz (b : Obj) (kvs : List (List Key × V)) : NoTup (.frz b (.dT kvs)) := fun xs => ⟨(fun z => nomatch z), fun c => (fun z => by injection z with _ z; cases z)⟩
theorem pFK_upd {K : PySem.W.Frag} {x : Kxd7.Fraction} {H : Hp} {d : Addr} {o u : HO} {v : V} (h : (pFK K x).p H v) (hd : H d = some o) (no : NoTup o) : (pFK K x).p (upd H d u) v := by
  obtain ⟨a, rfl, h⟩ := h
  refine ⟨a, rfl, ?_⟩
  rcases h with (h | ⟨b, h⟩) | h
  · have e : a ≠ d := fun e => by rw [e, hd] at h; exact (no _).1 (Option.some.inj h)
    exact .inl (.inl (by rw [upd_ne e]; exact h))
  · have e : a ≠ d := fun e => by rw [e, hd] at h; exact (no _).2 b (Option.some.inj h)
    exact .inl (.inr ⟨b, by rw [upd_ne e]; exact h⟩)
  · exact .inr h
theorem Holds.upd {K : PySem.W.Frag} {h : Nat} {vals : List (List Key × V)} {H : Hp} {w : W4} {d : Addr} {o u : HO} (q : Holds vals (svP K h) H w) (hd : H d = some o) (no : NoTup o) : Holds vals (svP K h) (L2.upd H d u) w := by
  obtain ⟨x, h1, h2⟩ := q
  exact ⟨x, h1, pFK_upd h2 hd no⟩
/-- values of a layer -/
structure AllV (K : PySem.W.Frag) (w0 : W4) (j h : Nat) (vals : List (List Key × V)) (H : Hp) : Prop where
  len : vals.length ≤ 20000
  at_ : ∀ w, Rch w0 j w → Holds vals (svP K h) H w
theorem AllV.mono {K : PySem.W.Frag} {w0 : W4} {j h : Nat} {vals : List (List Key × V)} {H H' : Hp} (a : AllV K w0 j h vals H) (e : Same H H') : AllV K w0 j h vals H' := ⟨a.len, fun w r => (a.at_ w r).mono e⟩
/-- those of the keys before i -/
structure ValM (K : PySem.W.Frag) (w0 : W4) (j h : Nat) (kvs : List (List Key × V)) (i : Nat) (vals : List (List Key × V)) (H : Hp) : Prop where
  len : vals.length ≤ i
  at_ : ∀ w n v, n < i → kvs[n]? = some (k4 w, v) → Holds vals (svP K h) H w
theorem ValM.mono {K : PySem.W.Frag} {w0 : W4} {j h i : Nat} {kvs vals : List (List Key × V)} {H H' : Hp} (a : ValM K w0 j h kvs i vals H) (e : Same H H') : ValM K w0 j h kvs i vals H' := ⟨a.len, fun w n v hn hk => (a.at_ w n v hn hk).mono e⟩
theorem ValM.upd {K : PySem.W.Frag} {w0 : W4} {j h i : Nat} {kvs vals : List (List Key × V)} {H : Hp} {d : Addr} {o u : HO} (a : ValM K w0 j h kvs i vals H) (hd : H d = some o) (no : NoTup o) : ValM K w0 j h kvs i vals (L2.upd H d u) := ⟨a.len, fun w n v hn hk => (a.at_ w n v hn hk).upd hd no⟩
theorem ValM.put {K : PySem.W.Frag} {w0 : W4} {j h i : Nat} {kvs vals : List (List Key × V)} {H : Hp} (a : ValM K w0 j h kvs i vals H) {w : W4} {v x : V} (hk : kvs[i]? = some (k4 w, v)) (hx : (pFK K (sv h w)).p H x) : ValM K w0 j h kvs (i + 1) (putK vals (k4 w) x) H where
  len := by have := length_putK vals (k4 w) x; have := a.len; omega
  at_ := fun u n y hn hu => by
    by_cases e : u = w
    · subst e
      exact ⟨x, by rw [valV_put, if_pos rfl], hx⟩
    · have hn2 : n < i := by
        rcases Nat.lt_succ_iff_lt_or_eq.mp hn with h | h
        · exact h
        · subst h
          rw [hk] at hu
          injection hu with hu
          injection hu with hu _
          exact absurd (k4_inj hu).symm e
      obtain ⟨z, h1, h2⟩ := a.at_ u n y hn2 hu
      exact ⟨z, by rw [valV_put, if_neg (fun q => e (k4_inj q))]; exact h1, h2⟩
theorem ValM.done {K : PySem.W.Frag} {w0 : W4} {j h : Nat} {kvs vals : List (List Key × V)} {H : Hp} (D : LayK w0 j kvs) (hj : j ≤ 7) (a : ValM K w0 j h kvs kvs.length vals H) : AllV K w0 j h vals H where
  len := by have := D.len; have := a.len; have := pow4 hj; omega
  at_ := fun w r => by
    obtain ⟨v, hv⟩ := D.all w r
    obtain ⟨n, hn, y, hy⟩ := valV_at hv
    exact a.at_ w n y hn hy
theorem ValM.start {K : PySem.W.Frag} {w0 : W4} {j h : Nat} {kvs : List (List Key × V)} {H : Hp} : ValM K w0 j h kvs 0 [] H := ⟨Nat.le_refl _, fun _ _ _ h => absurd h (Nat.not_lt_zero _)⟩
structure Start (w0 : W4) (m : Nat) : Prop where
  wt : Wt w0
  most : Most 100 w0
  m7 : m ≤ 7
theorem Start.at {w0 : W4} {m j h : Nat} (s : Start w0 m) (e : j + h + 1 ≤ m) {w : W4} (r : Rch w0 j w) : Vals4 w h := by
  have hm := r.most s.most
  have h7 := s.m7
  exact ⟨r.wt s.wt, ⟨by have := hm.a; omega, by have := hm.b; omega, by have := hm.c; omega, by have := hm.d; omega⟩, by omega⟩
def sp_values_of (K : PySem.W.Frag) : Sp := fun vs H Q _ => ∃ (d g : Addr) (w0 : W4) (m j h : Nat) (kvs vals : List (List Key × V)), vs = [.ref d, .ref g] ∧ Start w0 m ∧ j + h + 1 ≤ m ∧ d ≠ g ∧ H d = some (.dT kvs) ∧ LayK w0 j kvs ∧ H g = some (.dT vals) ∧ AllV K w0 (j + 1) h vals H ∧
  ∀ (a : Addr) (H' : Hp) (vals' : List (List Key × V)), Same H H' → H a = none → H' a = some (.dT vals') → AllV K w0 j (h + 1) vals' H' → Q (.ref a) H'
theorem sc_values_of : FnScope ["layer", "values", "found", "here"] ["layer", "values"] (defScope (topS 57)) := C8.fnScope_by (by decide +kernel)
theorem c_values_of {P : Program} {w : World} {K : PySem.W.Frag} {mg : Str → Option Value} {base : Heap} (T : Txt K mg) : C8.Cal P w K mg base 5 "values_of" (sp_values_of K) [] := by
  refine T.cal 45 48 rfl rfl sc_values_of (fun _ _ _ _ _ _ us hl => match us, hl with | [_, _], _ => rfl) (fun vs H Q E h => ?_) (fun cdv A outer s H vs Q E hr h => ⟨_, pss_cons (ps_set (i := 2) sc_values_of.nd rfl (Or.inl rfl) pe_dnewT)
      (pss_cons (ps_lock (ps_for PassesOwn.never rfl (pi_keys (pv 0)) (pg_name (i := 3) sc_values_of.nd rfl (Or.inl rfl)) (pss_one (ps_dput (hu1 hr) (pv 2) (pv 3) (C8.pe_c (c_best_value T) hr (by decide) rfl (pa_cons (pv 3) (pa_cons (pv 1) pa_nil))) rfl))))
      (pss_one (ps_ret (pv 2)))), ?_⟩)
  · obtain ⟨d, g, w0, m, j, h, kvs, vals, rfl, _⟩ := h
    rfl
  · obtain ⟨d, g, w0, m, j, h, kvs, vals, rfl, st, hm, hdg, hd, D, hg, A, k⟩ := h
    have h7 := st.m7
    have pw := pow4 (show j ≤ 7 by omega)
    have dl := D.len
    intro f hf
    have sf := same_new (o := .dT []) hf
    have hdf : d ≠ f := fun e => by rw [← e, hd] at hf; cases hf
    have hgf : g ≠ f := fun e => by rw [← e, hg] at hf; cases hf
    have hdF := sf _ _ hd
    refine ⟨d, .dT kvs, hdF, True.intro, fun od => ?_⟩
    refine ⟨_, rfl, d, od, rfl, .inr ⟨kvs, upd_same, ?_⟩⟩
    have hfr : ∀ B : Hp, Same (wo f (upd (upd H f (.dT [])) d (.frz od (.dT kvs)))) B → B d = some (.frz od (.dT kvs)) := fun B e => e _ _ (by rw [wo_ne hdf, upd_same])
    have hgr : ∀ B : Hp, Same (wo f (upd (upd H f (.dT [])) d (.frz od (.dT kvs)))) B → B g = some (.dT vals) := fun B e => e _ _ (by rw [wo_ne hgf, upd_ne hdg.symm, upd_ne hgf]; exact hg)
    have har : ∀ w, Rch w0 (j + 1) w → Holds vals (svP K h) (wo f (upd (upd H f (.dT [])) d (.frz od (.dT kvs)))) w := fun w r => by
      have q := ((A.at_ w r).upd (u := .frz od (.dT kvs)) hd (notup_dT _))
      refine q.mono fun b o e => ?_
      by_cases hb : b = d
      · rw [hb] at e ⊢
        rw [upd_same] at e
        rw [wo_ne hdf, upd_same]
        exact e
      · rw [upd_ne hb] at e
        have hbf : b ≠ f := fun z => by rw [z, hf] at e; cases e
        rw [wo_ne hbf, upd_ne hb, upd_ne hbf]
        exact e
    refine for_it (walk_keysT (kvs := kvs) (d := d) (o := od)) (fun i σ H' => Same (wo f (upd (upd H f (.dT [])) d (.frz od (.dT kvs)))) H' ∧ (∃ nv, H' f = some (.dT nv) ∧ ValM K w0 j (h + 1) kvs i nv H') ∧ ∃ x, σ = [some (.ref d), some (.ref g), some (.ref f), x])
      ⟨wo_le, ⟨[], by rw [upd_ne hdf.symm, upd_same], ValM.start⟩, none, rfl⟩ (fun i σ H' _ p => hfr _ p.1) ?_ ?_
    · rintro i x σ H2 H3 hi ⟨e2, ⟨nv, hnv, M⟩, x3, rfl⟩ ⟨rfl, k1, v1, q, hk, rfl, hq⟩
      obtain ⟨w, hw, rfl⟩ := lay_key D hk
      refine ⟨_, rfl, _, rfl, .ref q, g, w, h, vals, rfl, st.at hm hw, w4_key hq, hgr _ e2, fun i hi => (har _ ⟨w, i, hi, hw, rfl⟩).mono e2, fun r H4 e4 hr4 => ?_⟩
      have hf4 := e4 _ _ hnv
      refine ⟨_, rfl, _, rfl, f, _, rfl, .t hf4 (e4 _ _ hq) (size_lt (by have := M.len; omega)), ?_⟩
      exact ⟨Same.put_wo (e2.trans e4), ⟨_, upd_same, ((M.mono e4).put hk (pF_K ((pF _).mono nw_same hr4))).upd hf4 (notup_dT _)⟩, _, rfl⟩
    · rintro σ B ⟨e2, ⟨nv, hnv, M⟩, x3, rfl⟩
      refine ⟨hfr _ e2, _, rfl, ?_⟩
      refine k f _ nv ((sf.in_wo hf).trans (same_lock hdF hdf e2)) hf (by rw [upd_ne hdf.symm]; exact hnv) ((M.upd (hfr _ e2) (notup_frz _ _)).done D (by omega))
end SE
/-! ## the values of a number of trials -/
namespace SE
open PySem PySem.Spec PyProof.Rows L2
theorem lays_at {w0 : W4} {m j : Nat} {H : Hp} {us : List V} (h : All2 ((List.range (m + 1)).map (pLay w0)) H us) (hj : j ≤ m) : ∃ d kvs, atI us (j : Int) = some (.ref d) ∧ H d = some (.dT kvs) ∧ LayK w0 j kvs := by
  obtain ⟨v, h1, d, kvs, rfl, h2, h3⟩ := h.at (i := j) (r := pLay w0 j) (by rw [List.getElem?_map, List.getElem?_range (by omega)]; rfl)
  exact ⟨d, kvs, h1, h2, h3⟩
def sp_values_behind (K : PySem.W.Frag) : Sp := fun vs H Q _ => ∃ (v : V) (w0 : W4) (m : Nat), vs = [v, nV m] ∧ (stgP w0).p H v ∧ Start w0 m ∧ 1 ≤ m ∧
  ∀ (a : Addr) (H' : Hp) (vals : List (List Key × V)), Same H H' → H' a = some (.dT vals) → AllV K w0 1 (m - 1) vals H' → Q (.ref a) H'
theorem sc_values_behind : FnScope ["weights", "trials", "layers", "values", "here", "uses"] ["weights", "trials"] (defScope (topS 56)) := C8.fnScope_by (by decide +kernel)
theorem c_values_behind {P : Program} {w : World} {K : PySem.W.Frag} {mg : Str → Option Value} {base : Heap} (T : Txt K mg) : C8.Cal P w K mg base 6 "values_behind" (sp_values_behind K) [] := by
  refine T.cal 44 47 rfl rfl sc_values_behind (fun _ _ _ _ _ _ us hl => match us, hl with | [_, _], _ => rfl) (fun vs H Q E h => ?_) (fun cdv A outer s H vs Q E hr h => ⟨_, pss_cons (ps_set (i := 2) sc_values_behind.nd rfl (Or.inl rfl) (C8.pe_c (c_layers_of T) hr (by decide) rfl (pa_cons (pv 0) (pa_cons (pv 1) pa_nil))))
      (pss_cons (ps_set (i := 3) sc_values_behind.nd rfl (Or.inl rfl) pe_dnewT)
      (pss_cons (ps_lock (ps_for PassesOwn.never rfl (pi_keys (pe_ix ix_list (pv 2) (pv 1) (fun _ _ => rfl))) (pg_name (i := 4) sc_values_behind.nd rfl (Or.inl rfl)) (pss_one (ps_dput (hu1 hr) (pv 3) (pv 4) (pe_glob rfl (T.glo 41) (show RelV (.ref (He.ga K "NOUGHT")) (.ref (He.ga K "NOUGHT")) from rfl)) rfl))))
      (pss_cons (ps_for PassesOwn.never rfl (pi_revR (by rfl) (T.free 86) (prg_2 (by rfl) (T.free 84) pe_int (pv 1))) (pg_name (i := 5) sc_values_behind.nd rfl (Or.inl rfl)) (pss_one (ps_set (i := 3) sc_values_behind.nd rfl (Or.inl rfl) (C8.pe_c (c_values_of T) hr (by decide) rfl (pa_cons (pe_ix ix_list (pv 2) (pv 5) (fun _ _ => rfl)) (pa_cons (pv 3) pa_nil))))))
      (pss_one (ps_ret (pv 3)))))), ?_⟩)
  · obtain ⟨v, w0, m, rfl, _⟩ := h
    rfl
  · obtain ⟨v, w0, m, rfl, hv, st, h1, k⟩ := h
    have h7 := st.m7
    refine ⟨_, rfl, _, rfl, v, w0, m, rfl, hv, h7, fun lv H1 e1 hl => ?_⟩
    obtain ⟨L, us, rfl, hL, hus⟩ := (pL _).mono nw_same hl
    intro g hg
    have sg := same_new (o := .dT []) hg
    obtain ⟨d, kvs, g1, hd, D⟩ := lays_at hus (Nat.le_refl m)
    have hdg : d ≠ g := fun e => by rw [e, hg] at hd; cases hd
    have hLg : L ≠ g := fun e => by rw [e, hg] at hL; cases hL
    have hLd : L ≠ d := fun e => by rw [e, hd] at hL; cases hL
    have hdG := sg _ _ hd
    have dl := D.len
    have pw := pow4 h7
    refine ⟨d, .dT kvs, hdG, True.intro, fun od => ?_⟩
    refine ⟨_, rfl, _, rfl, L, us, _, .ref d, rfl, rfl, SqL.of (by rw [upd_ne hLd]; exact sg _ _ hL), g1, d, od, rfl, .inr ⟨kvs, upd_same, ?_⟩⟩
    have hfr : ∀ B : Hp, Same (wo g (upd (upd H1 g (.dT [])) d (.frz od (.dT kvs)))) B → B d = some (.frz od (.dT kvs)) := fun B e => e _ _ (by rw [wo_ne hdg, upd_same])
    refine for_it (walk_keysT (kvs := kvs) (d := d) (o := od)) (fun i σ H' => Same (wo g (upd (upd H1 g (.dT [])) d (.frz od (.dT kvs)))) H' ∧ (∃ nv, H' g = some (.dT nv) ∧ ValM K w0 m 0 kvs i nv H') ∧ ∃ x, σ = [some v, some (nV m), some (.ref L), some (.ref g), x, none])
      ⟨wo_le, ⟨[], by rw [upd_ne hdg.symm, upd_same], ValM.start⟩, none, rfl⟩ (fun i σ H' _ p => hfr _ p.1) ?_ ?_
    · rintro i x σ H2 H3 hi ⟨e2, ⟨nv, hnv, M⟩, x3, rfl⟩ ⟨rfl, k1, v1, q, hk, rfl, hq⟩
      obtain ⟨w, hw, rfl⟩ := lay_key D hk
      refine ⟨_, rfl, _, rfl, g, _, rfl, .t hnv hq (size_lt (by have := M.len; omega)), ?_⟩
      exact ⟨Same.put_wo e2, ⟨_, upd_same, (M.put hk ⟨_, rfl, (SqT_one T.ex _).2⟩).upd hnv (notup_dT _)⟩, _, rfl⟩
    · rintro σ B ⟨e2, ⟨nv, hnv, M⟩, x3, rfl⟩
      refine ⟨hfr _ e2, ?_⟩
      have e3 := (sg.in_wo hg).trans (same_lock hdG hdg e2)
      have A0 := (M.upd (u := .dT kvs) (hfr _ e2) (notup_frz _ _)).done D h7
      refine ⟨_, rfl, _, _, rfl, rfl, by decide, by decide, by omega, by omega, ?_⟩
      rw [show ((m : Int) - 1).toNat = m - 1 by omega]
      refine for_it walk_rangeC (fun i σ H' => Same H1 H' ∧ ∃ a nv x4 x5, σ = [some v, some (nV m), some (.ref L), some (.ref a), x4, x5] ∧ H1 a = none ∧ H' a = some (.dT nv) ∧ AllV K w0 (m - i) i nv H')
        ⟨e3, g, nv, _, _, rfl, hg, by rw [upd_ne hdg.symm]; exact hnv, A0⟩ (fun _ _ _ _ _ => trivial) ?_ ?_
      · rintro i x σ H2 H3 hi ⟨e4, a, nv, x4, x5, rfl, ha, hav, A⟩ ⟨rfl, hx⟩
        have hx : x = .int ((m - 1 - i : Nat) : Int) := hx.trans (congrArg V.int (by omega))
        subst hx
        obtain ⟨d2, kvs2, g2, hd2, D2⟩ := lays_at hus (show m - 1 - i ≤ m by omega)
        have hda : d2 ≠ a := fun e => by rw [e, ha] at hd2; cases hd2
        refine ⟨_, rfl, _, rfl, L, us, _, .ref d2, rfl, rfl, SqL.of (e4 _ _ hL), g2, _, rfl, d2, a, w0, m, m - 1 - i, i, kvs2, nv, rfl, st, by omega, hda, e4 _ _ hd2, D2, hav, ?_, fun a2 H4 nv2 e5 ha2 hav2 A2 => ?_⟩
        · rw [show m - 1 - i + 1 = m - i by omega]
          exact A
        · exact ⟨e4.trans e5, a2, nv2, _, _, rfl, e4.free ha2, hav2, by rw [show m - (i + 1) = m - 1 - i by omega]; exact A2⟩
      · rintro σ H2 ⟨e4, a, nv, x4, x5, rfl, ha, hav, A⟩
        rw [show m - (m - 1) = 1 by omega] at A
        exact ⟨_, rfl, k a H2 nv (e1.trans e4) hav A⟩
def sp_successes (K : PySem.W.Frag) : Sp := fun vs H Q _ => ∃ (v : V) (w0 : W4) (m : Nat), vs = [nV m, v] ∧ (stgP w0).p H v ∧ Start w0 m ∧ Ret (pL [pFK K (sv m w0), pFK K (fv 0 m w0), pFK K (fv 1 m w0)]) H Q
theorem sc_successes : FnScope ["trials", "weights", "values"] ["trials", "weights"] (defScope (topS 58)) := C8.fnScope_by (by decide +kernel)
theorem c_successes {P : Program} {w : World} {K : PySem.W.Frag} {mg : Str → Option Value} {base : Heap} (T : Txt K mg) : C8.Cal P w K mg base 7 "successes" (sp_successes K) [] := by
  refine T.cal 46 49 rfl rfl sc_successes (fun _ _ _ _ _ _ us hl => match us, hl with | [_, _], _ => rfl) (fun vs H Q E h => ?_) (fun cdv A outer s H vs Q E hr h => ⟨_, pss_cons (ps_if (pt_cmp (pc_eqI (pv 0) pe_int)) (pss_one (ps_ret (pe_lst (pa_cons (pe_glob rfl (T.glo 41) (show RelV (.ref (He.ga K "NOUGHT")) (.ref (He.ga K "NOUGHT")) from rfl)) (pa_cons (pe_glob rfl (T.glo 41) (show RelV (.ref (He.ga K "NOUGHT")) (.ref (He.ga K "NOUGHT")) from rfl)) (pa_cons (pe_glob rfl (T.glo 41) (show RelV (.ref (He.ga K "NOUGHT")) (.ref (He.ga K "NOUGHT")) from rfl)) pa_nil)))))) (pss_nil))
      (pss_cons (ps_set (i := 2) sc_successes.nd rfl (Or.inl rfl) (C8.pe_c (c_values_behind T) hr (by decide) rfl (pa_cons (pv 1) (pa_cons (pv 0) pa_nil))))
      (pss_one (ps_ret (pe_lst (pa_cons (C8.pe_c (c_best_value T) hr (by decide) rfl (pa_cons (pv 1) (pa_cons (pv 2) pa_nil))) (pa_cons (C8.pe_c (c_value_by T) hr (by decide) rfl (pa_cons (pv 1) (pa_cons pe_int (pa_cons (pv 2) pa_nil)))) (pa_cons (C8.pe_c (c_value_by T) hr (by decide) rfl (pa_cons (pv 1) (pa_cons pe_int (pa_cons (pv 2) pa_nil)))) pa_nil))))))), ?_⟩)
  · obtain ⟨v, w0, m, rfl, _⟩ := h
    rfl
  · obtain ⟨v, w0, m, rfl, hv, st, k⟩ := h
    have h7 := st.m7
    refine ⟨_, rfl, _, _, rfl, rfl, _, rfl, ?_⟩
    cases m with
    | zero =>
      refine if_true_of (decide_eq_true rfl) ⟨(by show 3 ≤ sizeLine; decide), fun p hp => ?_⟩
      have n := fun G => (SqT_one T.ex G).2
      exact k _ _ (same_new hp) (pL_mk (new_at hp) ⟨⟨_, rfl, n _⟩, ⟨_, rfl, n _⟩, ⟨_, rfl, n _⟩, trivial⟩)
    | succ m =>
      refine if_false_of (decide_eq_false (by omega)) ?_
      refine ⟨_, rfl, _, rfl, v, w0, m + 1, rfl, hv, st, by omega, fun a H1 vals e1 ha A => ?_⟩
      have A : AllV K w0 1 m vals H1 := A
      have g : Vals4 w0 m := st.at (w := w0) (j := 0) (by omega) rfl
      have hh : ∀ i, i < 4 → Holds vals (svP K m) H1 (bump w0 i) := fun i hi => A.at_ _ ⟨w0, i, hi, rfl, rfl⟩
      refine ⟨_, rfl, _, rfl, v, a, w0, m, vals, rfl, g, (stgP w0).mono e1 hv, ha, hh, fun r1 H2 e2 h2 => ?_⟩
      refine ⟨_, rfl, _, rfl, v, a, w0, 0, m, vals, rfl, by decide, g, (stgP w0).mono (e1.trans e2) hv, e2 _ _ ha, (hh 0 (by decide)).mono e2, (hh 1 (by decide)).mono e2, fun r2 H3 e3 h3 => ?_⟩
      have e23 := e2.trans e3
      refine ⟨_, rfl, _, rfl, v, a, w0, 1, m, vals, rfl, by decide, g, (stgP w0).mono (e1.trans e23) hv, e23 _ _ ha, (hh 2 (by decide)).mono e23, (hh 3 (by decide)).mono e23, fun r3 H4 e4 h4 => ?_⟩
      refine ⟨(by show 3 ≤ sizeLine; decide), fun p hp => ?_⟩
      have e14 := (e1.trans e23).trans e4
      refine k _ _ (e14.trans (same_new hp)) (new_lst e14 hp ⟨?_, ?_, ?_, trivial⟩)
      · exact pF_K ((pF _).mono (nw_both e1.dm (e3.trans e4)) h2)
      · exact pF_K ((pF _).mono (nw_both (e1.trans e2).dm e4) h3)
      · exact pF_K ((pF _).mono (nw_ground (e1.trans e23).dm) h4)
end SE
/-! ## refusals; calls that may refuse; chains of three comparisons -/
namespace SE
open PySem PySem.Spec PyProof.Rows L2
abbrev RC (K : PySem.W.Frag) : Addr := He.ga K "Refusal"
structure RefF (K : PySem.W.Frag) : Prop where
  oex : OexC K (RC K)
  code : PySem.W.findIn K (.ref (RC K)) "code" = some none
  init : PySem.W.findIn K (.ref (RC K)) "__init__" = some (some (.ref (He.ma K (RC K) "__init__")))
  ty : PySem.W.typeIn K (.ref (He.ma K (RC K) "__init__")) = some (.type "function")
  xf : XfC K (RC K)
  exm : PySem.W.exmOne K (.ref (RC K)) (.ref (RC K)) = some true
theorem oexB_cls {K : PySem.W.Frag} {C : Addr} (h : oexB K C = true) : ∃ nm q N bs bm sn sub ab col dd k0 k1 k2 k3 k5, K.lookup C = some (PySem.excClassObj nm q C N bs bm true sn sub ab col dd k0 k1 k2 k3 k5 "ValueError.__new__") ∧ PySem.HandSPX.refsVE bm = true := by
  unfold oexB at h
  split at h
  · next t od cd sl hl =>
    split at h
    · next k0 k1 k2 k3 nid k5 hsl =>
      split at h
      · next c bm hm =>
        obtain ⟨h1, h⟩ := He.ba h
        obtain ⟨h2, h⟩ := He.ba h
        obtain ⟨h3, h⟩ := He.ba h
        obtain ⟨h4, h⟩ := He.ba h
        obtain ⟨h5, h6⟩ := He.ba h
        obtain ⟨nm, bs, mro, N, q, hd, sn, sub, ab, col, hdel⟩ := cd
        dsimp only at hm h5 h6
        subst hm
        have e1 := of_decide_eq_true h1
        have e2 := of_decide_eq_true h2
        have e3 := of_decide_eq_true h3
        subst e1 e2 e3 h5
        have e6 : hdel = false := by simpa using h6
        subst e6
        refine ⟨nm, q, N, bs, bm, sn, sub, ab, col, od, k0, k1, k2, k3, k5, ?_, h4⟩
        rw [hl]
        have : sl = #[k0, k1, k2, k3, some (.builtin "ValueError.__new__"), k5] := by
          apply Array.ext'
          rw [hsl]
        rw [this]
      · cases h
    · cases h
  · cases h
theorem refF {K : PySem.W.Frag} (ex : exD K = true) : RefF K := by
  unfold exD at ex
  obtain ⟨_, ex⟩ := He.ba ex
  obtain ⟨_, ex⟩ := He.ba ex
  obtain ⟨_, ex⟩ := He.ba ex
  obtain ⟨_, ex⟩ := He.ba ex
  obtain ⟨h1, ex⟩ := He.ba ex
  obtain ⟨h2, ex⟩ := He.ba ex
  obtain ⟨h3, ex⟩ := He.ba ex
  obtain ⟨h4, ex⟩ := He.ba ex
  obtain ⟨h5, ex⟩ := He.ba ex
  obtain ⟨h6, ex⟩ := He.ba ex
  obtain ⟨h7, ex⟩ := He.ba ex
  obtain ⟨h8, h9⟩ := He.ba ex
  have xf := xfB_ok h2
  exact ⟨⟨oexB_cls h1, He.eqO_ok h3, xf.exC, of_decide_eq_true h7, h8⟩, He.eqO_ok h4, He.eqO_ok h5, of_decide_eq_true h6, xf, of_decide_eq_true h9⟩
/-- what is wanted of a refusal -/
def Ref (K : PySem.W.Frag) (code : Int) (E : XK) (H : Hp) : Prop := ∀ d H', Same H H' → H' d = some (.xd [("code", .int code)]) → E (.ref (RC K)) (some d) H'
theorem Ref.from {K : PySem.W.Frag} {code : Int} {E : XK} {H H1 : Hp} (k : Ref K code E H) (e : Same H H1) : Ref K code E H1 := fun d H' e' h => k d H' (e.trans e') h
section
variable {X : Cx} {k j : Nat} {x m : Str} {sp : Sp} {p pos : Pos} {e : Expr} {es : List Expr} {t : TA} {E : XK}
theorem pe_cX (c : CalX X.prog X.w X.K X.mg X.base k x sp) (hr : Room j X.A) (hk : k ≤ j) (hg : Gl X x) (hx : Passes (L2.CX X.prog X.w) X E) (ha : PA X (e :: es) t)
    (hdb : (x == ("__debug__" : Str)) = false := by decide) (he : starEach (e :: es) X.env = (false, eval e X.env) :: starEach es X.env := by rfl) (hpl : (backTo pos (starEach es X.env)).any (·.1) = false := by rfl) :
    PE X (.Call (.Name x p) (e :: es) [] pos) (tCall sp [] E t) := by
  obtain ⟨fd, ps, F, hm, kp, b⟩ := c.ex
  exact pe_call F (hr.mono hk) hg hm kp b .nil hx ha hdb he hpl
end
section
variable {X : Cx} {a b c d : Expr} {ta tb tc td : TE} {pos : Pos}
/-- a op1 b op2 c op3 d -/
def tChain3 (r r' r'' : R2) (ta tb tc td : TE) : TE := fun σ H Q => ta σ H fun x H1 => tb σ H1 fun y H2 => r x y H2 fun z H3 => ∃ k, z = .bl k ∧
  (if k = true then tc σ H3 fun w' H4 => r' y w' H4 fun z2 H5 => ∃ k2, z2 = .bl k2 ∧ (if k2 = true then td σ H5 fun v' H6 => r'' w' v' H6 Q else Q (.bl false) H5) else Q (.bl false) H3)
theorem pe_chain3 {op op' op'' : CmpOp} {r r' r'' : R2} (ho : OpR X (compareOp op) r) (ho' : OpR X (compareOp op') r') (ho'' : OpR X (compareOp op'') r'') (ha : PE X a ta) (hb : PE X b tb) (hc : PE X c tc) (hd : PE X d td)
    (hm : lastMarks [op, op', op''] [b, c, d] = false := by with_unfolding_all rfl) : PE X (.Compare a [op, op', op''] [b, c, d] pos) (tChain3 r r' r'' ta tb tc td) := by
  refine ⟨fun pins s σ H Q I h => ?_⟩
  refine Compare_chain (thn (ha.run pins s σ H _ I h) fun v s1 ⟨x, H1, I1, r1, q1⟩ => chain_link (thn (hb.run pins s1 σ H1 _ I1 q1) fun u s2 ⟨y, H2, I2, r2, q2⟩ =>
    thn (ho pins s2 σ H2 x y v u _ I2 r1 r2 q2) fun d s3 ⟨z, H3, I3, r3, k, e, q3⟩ => ?_)) hm
  subst e
  cases r3
  refine wpAny_truthy_bool ?_
  cases k with
  | false => exact ite_ff ⟨.bl false, H3, I3, rfl, q3⟩
  | true =>
    refine ite_tt (chain_link (thn (hc.run pins s3 σ H3 _ I3 q3) fun w' s4 ⟨z', H4, I4, r4, q4⟩ => thn (ho' pins s4 σ H4 y z' u w' _ I4 r2 r4 q4) fun d2 s5 ⟨z5, H5, I5, r5, k2, e2, q5⟩ => ?_))
    subst e2
    cases r5
    refine wpAny_truthy_bool ?_
    cases k2 with
    | false => exact ite_ff ⟨.bl false, H5, I5, rfl, q5⟩
    | true => exact ite_tt (chain_last (thn (hd.run pins s5 σ H5 _ I5 q5) fun v7 s6 ⟨z7, H7, I7, r7, q7⟩ => ho'' pins s6 σ H7 z' z7 w' v7 Q I7 r4 r7 q7))
end
end SE
/-! ## the desk, demands -/
namespace SE
open PySem PySem.Spec PyProof.Rows L2
abbrev DC (K : PySem.W.Frag) : Addr := He.ga K "Desk"
def deskO (K : PySem.W.Frag) (dx l : Addr) : HO := .ins (DC K) dx [("plans", .ref l)]
def PlansAre : Option Kxd7.Plan → Hp → List V → Prop
  | none, _, vs => vs = []
  | some p, H, vs => Wf p ∧ ∃ v, vs = [v] ∧ (pPlan p.table).p H v
theorem PlansAre.mono {st : Option Kxd7.Plan} {H H' : Hp} {vs : List V} (h : PlansAre st H vs) (e : Same H H') : PlansAre st H' vs := by
  cases st with
  | none => exact h
  | some p =>
    obtain ⟨w, v, h1, h2⟩ := h
    exact ⟨w, v, h1, (pPlan _).mono e h2⟩
def DeskAt (K : PySem.W.Frag) (st : Option Kxd7.Plan) (H : Hp) (a : Addr) : Prop := ∃ dx l vs, H a = some (deskO K dx l) ∧ H l = some (.lst vs) ∧ PlansAre st H vs
theorem DeskAt.mono {K : PySem.W.Frag} {st : Option Kxd7.Plan} {H H' : Hp} {a : Addr} (h : DeskAt K st H a) (e : Same H H') : DeskAt K st H' a := by
  obtain ⟨dx, l, vs, h1, h2, h3⟩ := h
  exact ⟨dx, l, vs, e _ _ h1, e _ _ h2, h3.mono e⟩
theorem DeskAt.some {K : PySem.W.Frag} {p : Kxd7.Plan} {H : Hp} {a : Addr} (h : DeskAt K (some p) H a) : Wf p ∧ ∃ dx l v, H a = some (deskO K dx l) ∧ H l = some (.lst [v]) ∧ (pPlan p.table).p H v := by
  obtain ⟨dx, l, vs, h1, h2, w, v, rfl, h4⟩ := h
  exact ⟨w, dx, l, v, h1, h2, h4⟩
theorem All2.imp {rs : List RP} {H H' : Hp} : ∀ {vs : List V}, All2 rs H vs → (∀ r ∈ rs, ∀ v, r.p H v → r.p H' v) → All2 rs H' vs := by
  induction rs with
  | nil => intro vs h _; cases vs with
    | nil => trivial
    | cons _ _ => exact h.elim
  | cons r rs ih => intro vs h k; cases vs with
    | nil => exact h.elim
    | cons v vs => exact ⟨k r List.mem_cons_self v h.1, ih h.2 fun r' hr => k r' (List.mem_cons_of_mem _ hr)⟩
/-- a plan does not hold what is no list -/
theorem plan_wo {t : List (List Nat)} {H : Hp} {v : V} {a : Addr} (h : (pPlan t).p H v) (ha : ∀ vs, H a ≠ some (.lst vs)) : (pPlan t).p (wo a H) v := by
  obtain ⟨b, vs, rfl, h2, h3⟩ := h
  refine ⟨b, vs, rfl, by rw [wo_ne (fun e => ha vs (by rw [← e]; exact h2))]; exact h2, h3.imp fun r hr u hu => ?_⟩
  obtain ⟨l, _, rfl⟩ := List.mem_map.mp hr
  obtain ⟨c, rfl, hc⟩ := pRow_at hu
  exact pRow_mk (by rw [wo_ne (fun e => ha _ (by rw [← e]; exact hc))]; exact hc)
theorem desk_nolst {K : PySem.W.Frag} {H : Hp} {a dx l : Addr} (h : H a = some (deskO K dx l)) : ∀ vs, H a ≠ some (.lst vs) := fun vs e => by
  rw [h] at e
  exact nomatch (show HO.ins _ _ _ = HO.lst _ from Option.some.inj e)
theorem upd_wo {H : Hp} {a : Addr} {o : HO} : Same (wo a H) (upd H a o) := fun b u q => by
  obtain ⟨h1, h2⟩ := of_wo q
  rw [upd_ne h1]
  exact h2
def sp_Desk_init (K : PySem.W.Frag) : Sp := fun vs H Q _ => ∃ (a dx : Addr), vs = [.ref a] ∧ H a = some (.ins (DC K) dx []) ∧ ∀ l, H l = none → Q .non (upd (upd H l (.lst [])) a (deskO K dx l))
theorem sc_Desk_init : FnScope ["self"] ["self"] (defScope (inClass (topS 70) 0)) := C8.fnScope_by (by decide +kernel)
theorem f_Desk_init {P : Program} {w : World} {K : PySem.W.Frag} {mg : Str → Option Value} {base : Heap} (T : Txt K mg) : ∃ fd, FnOk P w K mg base CX0 1 (He.ma K (He.ga K "Desk") "__init__") fd ["self"] (sp_Desk_init K) ∧ Binds K fd ["self"] [] := by
  obtain ⟨fd, F, B⟩ := T.fnM 12 (ps := ["self"]) rfl (fun _ _ _ _ _ _ us hl => match us, hl with | [_], _ => rfl)
  refine ⟨fd, F.ok sc_Desk_init (fun vs H Q E h => ?_) (fun cdv A outer s H vs Q E hr h => ⟨_, PSs.nox (pss_one (ps_fld (pv 0) (pe_lst (pa_nil)) rfl)), ?_⟩), B⟩
  · obtain ⟨a, dx, rfl, _⟩ := h
    rfl
  · obtain ⟨a, dx, rfl, ha, k⟩ := h
    refine ⟨(by show 0 ≤ sizeLine; decide), fun l hl => ?_⟩
    exact ⟨_, rfl, a, DC K, dx, [], rfl, by rw [upd_ne (ne_of_none ha hl)]; exact ha, T.clsOf 107, T.noat 118, by decide, k l hl⟩
theorem c_Desk_init {P : Program} {w : World} {K : PySem.W.Frag} {mg : Str → Option Value} {base : Heap} (T : Txt K mg) : C8.Mak P w K mg base 1 "Desk" (He.ga K "Desk") (sp_Desk_init K) [] := T.mak 52 108 (f_Desk_init T)
def sp_Desk_plan (K : PySem.W.Frag) : Sp := fun vs H Q _ => ∃ (a dx l : Addr) (v : V), vs = [.ref a] ∧ H a = some (deskO K dx l) ∧ H l = some (.lst [v]) ∧ Q v H
theorem sc_Desk_plan : FnScope ["self"] ["self"] (defScope (inClass (topS 70) 1)) := C8.fnScope_by (by decide +kernel)
theorem f_Desk_plan {P : Program} {w : World} {K : PySem.W.Frag} {mg : Str → Option Value} {base : Heap} (T : Txt K mg) : ∃ fd, FnOk P w K mg base CX0 1 (He.ma K (He.ga K "Desk") "plan") fd ["self"] (sp_Desk_plan K) ∧ Binds K fd ["self"] [] := by
  obtain ⟨fd, F, B⟩ := T.fnM 13 (ps := ["self"]) rfl (fun _ _ _ _ _ _ us hl => match us, hl with | [_], _ => rfl)
  refine ⟨fd, F.ok sc_Desk_plan (fun vs H Q E h => ?_) (fun cdv A outer s H vs Q E hr h => ⟨_, PSs.nox (pss_one (ps_ret (pe_ix ix_list (pe_fld (pv 0) rfl) pe_int (fun _ _ => rfl)))), ?_⟩), B⟩
  · obtain ⟨a, dx, l, v, rfl, _⟩ := h
    rfl
  · obtain ⟨a, dx, l, v, rfl, ha, hl, k⟩ := h
    exact ⟨_, rfl, a, _, dx, _, _, rfl, ha, T.clsOf 107, T.noat 118, rfl, l, _, 0, _, rfl, rfl, SqL.of hl, rfl, k⟩
theorem c_Desk_plan {P : Program} {w : World} {K : PySem.W.Frag} {mg : Str → Option Value} {base : Heap} (T : Txt K mg) : C8.Met P w K mg base 1 (He.ga K "Desk") "plan" (sp_Desk_plan K) [] := T.met 107 129 (f_Desk_plan T)
def sp_Desk_horizon (K : PySem.W.Frag) : Sp := fun vs H Q _ => ∃ (a : Addr) (p : Kxd7.Plan), vs = [.ref a] ∧ DeskAt K (some p) H a ∧ Q (nV p.horizon) H
theorem sc_Desk_horizon : FnScope ["self"] ["self"] (defScope (inClass (topS 70) 2)) := C8.fnScope_by (by decide +kernel)
theorem f_Desk_horizon {P : Program} {w : World} {K : PySem.W.Frag} {mg : Str → Option Value} {base : Heap} (T : Txt K mg) : ∃ fd, FnOk P w K mg base CX0 2 (He.ma K (He.ga K "Desk") "horizon") fd ["self"] (sp_Desk_horizon K) ∧ Binds K fd ["self"] [] := by
  obtain ⟨fd, F, B⟩ := T.fnM 14 (ps := ["self"]) rfl (fun _ _ _ _ _ _ us hl => match us, hl with | [_], _ => rfl)
  refine ⟨fd, F.ok sc_Desk_horizon (fun vs H Q E h => ?_) (fun cdv A outer s H vs Q E hr h => ⟨_, PSs.nox (pss_one (ps_ret (C8.pe_c (c_horizon_of T) hr (by decide) rfl (pa_cons (C8.pe_mt0 (c_Desk_plan T) hr (by decide) (pv 0)) pa_nil)))), ?_⟩), B⟩
  · obtain ⟨a, p, rfl, _⟩ := h
    rfl
  · obtain ⟨a, p, rfl, D, k⟩ := h
    obtain ⟨w, dx, l, v, ha, hl, hv⟩ := D.some
    have e : ((p.table.length : Int) - 1) = (p.horizon : Int) := by have := w.len; omega
    refine ⟨_, rfl, a, dx, _, rfl, ha, rfl, a, dx, l, v, rfl, ha, hl, v, p.table, rfl, hv, ?_⟩
    rw [e]
    exact k
theorem c_Desk_horizon {P : Program} {w : World} {K : PySem.W.Frag} {mg : Str → Option Value} {base : Heap} (T : Txt K mg) : C8.Met P w K mg base 2 (He.ga K "Desk") "horizon" (sp_Desk_horizon K) [] := T.met 107 130 (f_Desk_horizon T)
def sp_Desk_give (K : PySem.W.Frag) : Sp := fun vs H Q _ => ∃ (a dx l0 : Addr) (p : Kxd7.Plan) (v : V), vs = [.ref a, v] ∧ H a = some (deskO K dx l0) ∧ Lay p ∧ (pPlan p.table).p H v ∧
  ∀ (l r : Addr) (H' : Hp), Same (wo a H) H' → H l = none → H' l = some (.lst [v]) → H' a = some (deskO K dx l) → H' r = some (.lst [nV (Kxd7.stops p).length]) → Q (.ref r) H'
theorem sc_Desk_give : FnScope ["self", "plan"] ["self", "plan"] (defScope (inClass (topS 70) 3)) := C8.fnScope_by (by decide +kernel)
theorem f_Desk_give {P : Program} {w : World} {K : PySem.W.Frag} {mg : Str → Option Value} {base : Heap} (T : Txt K mg) : ∃ fd, FnOk P w K mg base CX0 5 (He.ma K (He.ga K "Desk") "give") fd ["self", "plan"] (sp_Desk_give K) ∧ Binds K fd ["self", "plan"] [] := by
  obtain ⟨fd, F, B⟩ := T.fnM 15 (ps := ["self", "plan"]) rfl (fun _ _ _ _ _ _ us hl => match us, hl with | [_, _], _ => rfl)
  refine ⟨fd, F.ok sc_Desk_give (fun vs H Q E h => ?_) (fun cdv A outer s H vs Q E hr h => ⟨_, PSs.nox (pss_cons (ps_fld (pv 0) (pe_lst (pa_cons (pv 1) pa_nil)) rfl)
      (pss_one (ps_ret (pe_lst (pa_cons (pe_callB call_len_seq (by rfl) (T.free 83) PySem.boot_len (pa_cons (C8.pe_c (c_stops_of T) hr (by decide) rfl (pa_cons (pv 1) pa_nil)) pa_nil)) pa_nil))))), ?_⟩), B⟩
  · obtain ⟨a, dx, l0, p, v, rfl, _⟩ := h
    rfl
  · obtain ⟨a, dx, l0, p, v, rfl, ha, lay, hv, k⟩ := h
    have hsl := stops_len lay.h2
    refine ⟨_, rfl, (by show 1 ≤ sizeLine; decide), fun l hl => ?_⟩
    have sl := same_new (o := .lst [v]) hl
    have hla : l ≠ a := fun e => by rw [e, ha] at hl; cases hl
    refine ⟨_, rfl, a, _, dx, _, rfl, sl _ _ ha, T.clsOf 107, T.noat 118, (by show 1 < 1000; decide), ?_⟩
    have e1 : Same (wo a H) (upd (upd H l (.lst [v])) a (deskO K dx l)) := (sl.wo a).trans upd_wo
    refine ⟨_, rfl, v, p, rfl, lay, (pPlan p.table).mono e1 (plan_wo hv (desk_nolst ha)), fun sv H1 e2 hs => ?_⟩
    obtain ⟨b, us, rfl, hb, hus⟩ := (pStops p).mono nw_same hs
    have hul : us.length = (Kxd7.stops p).length := by rw [hus.len, List.length_map]
    refine ⟨b, us, rfl, .inl (SqL.of hb), (by show 1 ≤ sizeLine; decide), fun r hr => ?_⟩
    have e3 := same_new (o := .lst [V.int (us.length : Int)]) hr
    refine k l r _ ((e1.trans e2).trans e3) hl (e3 _ _ (e2 _ _ (by rw [upd_ne hla, upd_same]))) (e3 _ _ (e2 _ _ upd_same)) ?_
    rw [upd_same, hul]
theorem c_Desk_give {P : Program} {w : World} {K : PySem.W.Frag} {mg : Str → Option Value} {base : Heap} (T : Txt K mg) : C8.Met P w K mg base 5 (He.ga K "Desk") "give" (sp_Desk_give K) [] := T.met 107 131 (f_Desk_give T)
def sp_Refusal_init (K : PySem.W.Frag) : Sp := fun vs H Q _ => ∃ (a : Addr) (c : Int), vs = [.ref a, .int c] ∧ H a = some (exo a (RC K) none) ∧ ∀ dx, H dx = none → dx ≠ a → Q .non (upd (upd H dx (exd dx [("code", .int c)])) a (exo a (RC K) (some dx)))
theorem sc_Refusal_init : FnScope ["self", "code"] ["self", "code"] (defScope (inClass (topS 69) 0)) := C8.fnScope_by (by decide +kernel)
theorem f_Refusal_init {P : Program} {w : World} {K : PySem.W.Frag} {mg : Str → Option Value} {base : Heap} (T : Txt K mg) : ∃ fd, FnOk P w K mg base CX0 1 (He.ma K (He.ga K "Refusal") "__init__") fd ["self", "code"] (sp_Refusal_init K) ∧ Binds K fd ["self", "code"] [] := by
  obtain ⟨fd, F, B⟩ := T.fnM 11 (ps := ["self", "code"]) rfl (fun _ _ _ _ _ _ us hl => match us, hl with | [_, _], _ => rfl)
  refine ⟨fd, F.ok sc_Refusal_init (fun vs H Q E h => ?_) (fun cdv A outer s H vs Q E hr h => ⟨_, PSs.nox (pss_one (ps_ost (pv 0) (pv 1))), ?_⟩), B⟩
  · obtain ⟨a, c, rfl, _⟩ := h
    rfl
  · obtain ⟨a, c, rfl, ha, k⟩ := h
    have F := refF T.ex
    exact ⟨_, rfl, _, rfl, a, RC K, rfl, F.oex, F.code, .inl ⟨ha, k⟩⟩
def sp_demand (K : PySem.W.Frag) : Sp := fun vs H Q E => ∃ (b : Bool) (c : Int), vs = [.bl b, .int c] ∧ (b = true → Q .non H) ∧ (b = false → Ref K c E H)
theorem sc_demand : FnScope ["is_met", "code"] ["is_met", "code"] (defScope (topS 71)) := C8.fnScope_by (by decide +kernel)
theorem c_demand {P : Program} {w : World} {K : PySem.W.Frag} {mg : Str → Option Value} {base : Heap} (T : Txt K mg) : CalX P w K mg base 3 "demand" (sp_demand K) := by
  refine T.calX 47 53 rfl rfl sc_demand (fun _ _ _ _ _ _ us hl => match us, hl with | [_, _], _ => rfl) (fun vs H Q E h => ?_) (fun cdv A outer s H vs Q E hr h => ⟨_, pss_one (ps_if (pt_not (pt_val (pv 0))) (pss_one (ps_raise rfl (takes_of rfl rfl rfl rfl) (pmk_oex (refF T.ex).oex (refF T.ex).init (refF T.ex).ty (f_Refusal_init T).choose_spec.1 (hr.mono (by decide)) (f_Refusal_init T).choose_spec.2 .nil pass0 rfl (T.glo 51) (pa_cons (pv 1) pa_nil)))) (pss_nil)), ?_⟩)
  · obtain ⟨b, c, rfl, _⟩ := h
    rfl
  · obtain ⟨b, c, rfl, k1, k2⟩ := h
    refine ⟨_, rfl, _, rfl, ?_⟩
    cases b with
    | true => exact if_false_of rfl (k1 rfl)
    | false =>
      refine if_true_of rfl ⟨_, rfl, (by show 1 ≤ 1000; decide), fun a ha => ?_⟩
      refine ⟨a, c, rfl, upd_same, fun dx hdx hne => ⟨rfl, dx, _, upd_same, by rw [upd_ne hne, upd_same], ?_, ?_⟩⟩
      · rw [upd_ne hne] at hdx
        exact hdx
      · rw [upd_ne hne] at hdx
        refine k2 rfl dx _ (fun b o q => ?_) upd_same
        have h1 : b ≠ a := ne_of_none q ha
        have h2 : b ≠ dx := ne_of_none q hdx
        rw [upd_ne h2, del_ne h1, upd_ne h1, upd_ne h2, upd_ne h1]
        exact q
end SE
/-! ## demands, what is told -/
namespace SE
open PySem PySem.Spec PyProof.Rows L2
/-- met, or refused -/
def Met (K : PySem.W.Frag) (c : Prop) (code : Int) (H : Hp) (Q : VK) (E : XK) : Prop := (c → Q .non H) ∧ (¬ c → Ref K code E H)
def sp_demand_between (K : PySem.W.Frag) : Sp := fun vs H Q E => ∃ n lo hi : Int, vs = [.int n, .int lo, .int hi] ∧ Met K (lo ≤ n ∧ n ≤ hi) (-22) H Q E
theorem sc_demand_between : FnScope ["number", "low", "high"] ["number", "low", "high"] (defScope (topS 72)) := C8.fnScope_by (by decide +kernel)
theorem c_demand_between {P : Program} {w : World} {K : PySem.W.Frag} {mg : Str → Option Value} {base : Heap} (T : Txt K mg) : CalX P w K mg base 4 "demand_between" (sp_demand_between K) := by
  refine T.calX 48 54 rfl rfl sc_demand_between (fun _ _ _ _ _ _ us hl => match us, hl with | [_, _, _], _ => rfl) (fun vs H Q E h => ?_) (fun cdv A outer s H vs Q E hr h => ⟨_, pss_one (ps_expr (pe_cX (c_demand T) hr (by decide) rfl (passes_call (takes_of rfl rfl rfl rfl) (fun _ _ _ _ h => h)) (pa_cons (pe_chain op_le op_le (pv 1) (pv 0) (pv 2)) (pa_cons (pe_un un_neg pe_int) pa_nil)))), ?_⟩)
  · obtain ⟨n, lo, hi, rfl, _⟩ := h
    rfl
  · obtain ⟨n, lo, hi, rfl, k1, k2⟩ := h
    refine ⟨_, rfl, _, rfl, _, _, rfl, rfl, _, rfl, ?_⟩
    by_cases c1 : lo ≤ n
    · refine if_true_of (decide_eq_true c1) ⟨_, rfl, _, _, rfl, rfl, ?_⟩
      exact ⟨_, rfl, _, _, rfl, fun e => k1 ⟨c1, of_decide_eq_true e⟩, fun e => k2 fun q => absurd (decide_eq_true q.2) (by rw [e]; decide)⟩
    · exact if_false_of (decide_eq_false c1) ⟨_, rfl, _, _, rfl, (fun e => nomatch e), fun _ => k2 fun q => c1 q.1⟩
def sp_demand_share (K : PySem.W.Frag) : Sp := fun vs H Q E => ∃ n d : Int, vs = [.int n, .int d] ∧ Met K ((1 ≤ d ∧ d ≤ 1000) ∧ (0 ≤ n ∧ n ≤ d)) (-22) H Q E
theorem sc_demand_share : FnScope ["num", "den"] ["num", "den"] (defScope (topS 73)) := C8.fnScope_by (by decide +kernel)
theorem c_demand_share {P : Program} {w : World} {K : PySem.W.Frag} {mg : Str → Option Value} {base : Heap} (T : Txt K mg) : CalX P w K mg base 5 "demand_share" (sp_demand_share K) := by
  refine T.calX 49 55 rfl rfl sc_demand_share (fun _ _ _ _ _ _ us hl => match us, hl with | [_, _], _ => rfl) (fun vs H Q E h => ?_) (fun cdv A outer s H vs Q E hr h => ⟨_, pss_cons (ps_expr (pe_cX (c_demand_between T) hr (by decide) rfl (passes_call (takes_of rfl rfl rfl rfl) (fun _ _ _ _ h => h)) (pa_cons (pv 1) (pa_cons pe_int (pa_cons (C8.pe_gc rfl (T.int 99)) pa_nil)))))
      (pss_one (ps_expr (pe_cX (c_demand_between T) hr (by decide) rfl (passes_call (takes_of rfl rfl rfl rfl) (fun _ _ _ _ h => h)) (pa_cons (pv 0) (pa_cons pe_int (pa_cons (pv 1) pa_nil)))))), ?_⟩)
  · obtain ⟨n, d, rfl, _⟩ := h
    rfl
  · obtain ⟨n, d, rfl, k1, k2⟩ := h
    refine ⟨_, rfl, d, 1, 1000, rfl, fun c1 => ?_, fun c1 => k2 fun q => c1 q.1⟩
    exact ⟨_, rfl, _, rfl, n, 0, d, rfl, fun c2 => k1 ⟨c1, c2⟩, fun c2 => k2 fun q => c2 q.2⟩
def sp_demand_pair (K : PySem.W.Frag) : Sp := fun vs H Q E => ∃ p0 p1 d : Int, vs = [.int p0, .int p1, .int d] ∧ Met K ((1 ≤ d ∧ d ≤ 1000) ∧ (1 ≤ p0 ∧ p0 < p1 ∧ p1 < d)) (-22) H Q E
theorem sc_demand_pair : FnScope ["p0", "p1", "divisor"] ["p0", "p1", "divisor"] (defScope (topS 74)) := C8.fnScope_by (by decide +kernel)
theorem c_demand_pair {P : Program} {w : World} {K : PySem.W.Frag} {mg : Str → Option Value} {base : Heap} (T : Txt K mg) : CalX P w K mg base 5 "demand_pair" (sp_demand_pair K) := by
  refine T.calX 50 56 rfl rfl sc_demand_pair (fun _ _ _ _ _ _ us hl => match us, hl with | [_, _, _], _ => rfl) (fun vs H Q E h => ?_) (fun cdv A outer s H vs Q E hr h => ⟨_, pss_cons (ps_expr (pe_cX (c_demand_between T) hr (by decide) rfl (passes_call (takes_of rfl rfl rfl rfl) (fun _ _ _ _ h => h)) (pa_cons (pv 2) (pa_cons pe_int (pa_cons (C8.pe_gc rfl (T.int 99)) pa_nil)))))
      (pss_one (ps_expr (pe_cX (c_demand T) hr (by decide) rfl (passes_call (takes_of rfl rfl rfl rfl) (fun _ _ _ _ h => h)) (pa_cons (pe_chain3 op_le op_lt op_lt pe_int (pv 0) (pv 1) (pv 2)) (pa_cons (pe_un un_neg pe_int) pa_nil))))), ?_⟩)
  · obtain ⟨p0, p1, d, rfl, _⟩ := h
    rfl
  · obtain ⟨p0, p1, d, rfl, k1, k2⟩ := h
    refine ⟨_, rfl, d, 1, 1000, rfl, fun c1 => ?_, fun c1 => k2 fun q => c1 q.1⟩
    refine ⟨_, rfl, _, _, rfl, rfl, _, rfl, ?_⟩
    by_cases c2 : 1 ≤ p0
    · refine if_true_of (decide_eq_true c2) ⟨_, rfl, _, _, rfl, rfl, _, rfl, ?_⟩
      by_cases c3 : p0 < p1
      · refine if_true_of (decide_eq_true c3) ⟨_, rfl, _, _, rfl, rfl, ?_⟩
        exact ⟨_, rfl, _, _, rfl, fun e => k1 ⟨c1, c2, c3, of_decide_eq_true e⟩, fun e => k2 fun q => absurd (decide_eq_true q.2.2.2) (by rw [e]; decide)⟩
      · exact if_false_of (decide_eq_false c3) ⟨_, rfl, _, _, rfl, (fun e => nomatch e), fun _ => k2 fun q => c3 q.2.2.1⟩
    · exact if_false_of (decide_eq_false c2) ⟨_, rfl, _, _, rfl, (fun e => nomatch e), fun _ => k2 fun q => c2 q.2.1⟩
def toldI (fs : List Kxd7.Fraction) : List Int := 0 :: fs.flatMap Kxd7.fields
def sp_told (K : PySem.W.Frag) : Sp := fun vs H Q _ => ∃ (l : Addr) (us : List V) (fs : List Kxd7.Fraction), vs = [.ref l] ∧ H l = some (.lst us) ∧ All2 (fs.map (pFK K)) H us ∧ fs.length ≤ 10 ∧ Ret (pL ((toldI fs).map pI)) H Q
theorem sc_told : FnScope ["parts", "found", "num", "den"] ["parts"] (defScope (topS 75)) := C8.fnScope_by (by decide +kernel)
theorem c_told {P : Program} {w : World} {K : PySem.W.Frag} {mg : Str → Option Value} {base : Heap} (T : Txt K mg) : C8.Cal P w K mg base 1 "told" (sp_told K) [] := by
  refine T.cal 51 57 rfl rfl sc_told (fun _ _ _ _ _ _ us hl => match us, hl with | [_], _ => rfl) (fun vs H Q E h => ?_) (fun cdv A outer s H vs Q E hr h => ⟨_, pss_cons (ps_set (i := 1) sc_told.nd rfl (Or.inl rfl) (pe_lst (pa_cons pe_int pa_nil)))
      (pss_cons (ps_for PassesOwn.never rfl (pi_list (pv 0)) (pg_tup rfl (pgs_cons (pg_name (i := 2) sc_told.nd rfl (Or.inl rfl)) (pgs_cons (pg_name (i := 3) sc_told.nd rfl (Or.inl rfl)) pgs_nil))) (pss_one (ps_expr (pe_bm PySem.F.plainAttrs_list PySem.F.slot_list_extend PySem.F.type_list_extend mt_extend (pv 1) (pa_cons (pe_lst (pa_cons (pv 2) (pa_cons (pv 3) pa_nil))) pa_nil)))))
      (pss_one (ps_ret (pv 1)))), ?_⟩)
  · obtain ⟨l, us, fs, rfl, _⟩ := h
    rfl
  · obtain ⟨l, us, fs, rfl, hl, hus, h10, k⟩ := h
    have hul : us.length = fs.length := by rw [hus.len, List.length_map]
    refine ⟨(by show 1 ≤ sizeLine; decide), fun f hf => ?_⟩
    have sf := same_new (o := .lst [V.int 0]) hf
    refine ⟨_, rfl, l, rfl, ⟨us, SqL.of (sf _ _ hl)⟩, for_it (walk_list (K := K) (a := l) (xs := us)) (fun i σ H' => Same H (wo f H') ∧ H' f = some (.lst ((toldI (fs.take i)).map V.int)) ∧ ∃ x1 x2, σ = [some (.ref l), some (.ref f), x1, x2])
      ⟨sf.in_wo hf, upd_same, none, none, rfl⟩ (fun i σ H' _ z => SqL.of (wo_le _ _ (z.1 _ _ hl))) ?_ ?_⟩
    · rintro i x σ H1 H2 hi ⟨e1, h1, x1, x2, rfl⟩ ⟨rfl, hx⟩
      obtain ⟨r, g1, g2⟩ := hus.item hx
      rw [List.getElem?_map] at g1
      cases hz : fs[i]? with
      | none => rw [hz] at g1; cases g1
      | some z =>
        rw [hz] at g1
        cases g1
        obtain ⟨t, rfl, ht⟩ := (pFK K z).mono (e1.trans wo_le) g2
        refine ⟨t, _, rfl, ht, rfl, _, _, rfl, _, _, rfl, rfl, ?_⟩
        refine ⟨_, rfl, .inl ⟨rfl, _, SqL.of h1⟩, _, rfl, _, rfl, (by show 2 ≤ sizeLine; decide), fun g hg => ?_⟩
        have sg := same_new (o := .lst [V.int z.numerator, V.int (z.denominator : Int)]) hg
        refine ⟨f, g, _, _, rfl, rfl, sg _ _ h1, upd_same, ?_, ?_⟩
        · rw [List.length_map]
          refine size_le ?_
          have : ∀ l : List Kxd7.Fraction, (toldI l).length = 2 * l.length + 1 := fun l => by
            unfold toldI
            rw [List.length_cons]
            induction l with
            | nil => rfl
            | cons y l ih => rw [List.flatMap_cons, List.length_append, List.length_cons]; show 2 + _ + 1 = _; omega
          rw [this, List.length_take]
          show 2 * min i fs.length + 1 + 2 ≤ 1000000
          omega
        · refine ⟨by rw [wo_upd]; exact e1.trans (sg.wo f), ?_, _, _, rfl⟩
          rw [upd_same, take_more hz]
          unfold toldI
          rw [List.flatMap_append, ← List.cons_append, List.map_append]
          rfl
    · rintro σ H1 ⟨e1, h1, x1, x2, rfl⟩
      rw [hul, List.take_length] at h1
      refine ⟨_, rfl, k _ _ (e1.trans wo_le) ⟨f, _, rfl, by rw [nw_of hf]; exact h1, all_ints _⟩⟩
end SE
/-! ## deeds -/
namespace SE
open PySem PySem.Spec PyProof.Rows L2
def resI : Kxd7.Result → List Int
  | .value v => [v]
  | .values v rest => v :: rest
/-- the heap behind a call on the desk at a -/
def Out (K : PySem.W.Frag) (a : Addr) (st st' : Option Kxd7.Plan) (H H' : Hp) : Prop := (st' = st ∧ Same H H') ∨
  ∃ p' dx l pv, st' = some p' ∧ Wf p' ∧ Same (wo a H) H' ∧ H' a = some (deskO K dx l) ∧ H l = none ∧ H' l = some (.lst [pv]) ∧ (pPlan p'.table).p (nw H H') pv
/-- what a call promises: the answer, or a refusal that changes nothing -/
structure Done (K : PySem.W.Frag) (a : Addr) (st : Option Kxd7.Plan) (r : Option Kxd7.Plan × Kxd7.Result) (H : Hp) (Q : VK) (E : XK) : Prop where
  ok : ∀ v H', Out K a st r.1 H H' → (pL ((resI r.2).map pI)).p H' v → Q v H'
  no : ∀ c, r.1 = st → r.2 = .value c → Ref K c E H
theorem Done.same {K : PySem.W.Frag} {a : Addr} {st : Option Kxd7.Plan} {x : Kxd7.Result} {H : Hp} {Q : VK} {E : XK} (D : Done K a st (st, x) H Q E) : Ret (pL ((resI x).map pI)) H Q := fun v H' e h => D.ok v H' (.inl ⟨rfl, e⟩) ((pL _).mono nw_same h)
theorem Done.ref {K : PySem.W.Frag} {a : Addr} {st : Option Kxd7.Plan} {c : Int} {H : Hp} {Q : VK} {E : XK} (D : Done K a st (st, .value c) H Q E) : Ref K c E H := D.no c rfl rfl
theorem new_ints {H H1 : Hp} {p : Addr} {ns : List Int} {vs : List V} (e : Same H H1) (hp : H1 p = none) (h : vs = ns.map V.int) : (pL (ns.map pI)).p (nw H (upd H1 p (.lst vs))) (.ref p) := by
  subst h
  exact new_lst e hp (all_ints ns)
theorem nat_at {ns : List Nat} {i : Nat} {x : Nat} (h : ns[i]? = some x) : atI (ns.map nV) (i : Int) = some (nV x) := atI_nat (by rw [List.getElem?_map, h]; rfl)
/-- the arguments of a deed: the desk at a, the numbers at g -/
def Args (K : PySem.W.Frag) (vs : List V) (a g : Addr) (st : Option Kxd7.Plan) (ns : List Nat) (H : Hp) : Prop := vs = [.ref a, .ref g] ∧ DeskAt K st H a ∧ H g = some (.lst (ns.map nV)) ∧ ∀ x ∈ ns, x < 2 ^ 32
/-- behind give -/
theorem Done.give {K : PySem.W.Frag} {a dx l0 : Addr} {st : Option Kxd7.Plan} {p' : Kxd7.Plan} {x : Kxd7.Result} {H H1 : Hp} {Q : VK} {E : XK} (D : Done K a st (some p', x) H Q E) (w : Wf p') (ha : H a = some (deskO K dx l0)) (e1 : Same H H1) {v : V}
    (hv : (pPlan p'.table).p (nw H H1) v) : ∀ (l r : Addr) (H' : Hp), Same (wo a H1) H' → H1 l = none → H' l = some (.lst [v]) → H' a = some (deskO K dx l) → ∀ u, (pL ((resI x).map pI)).p H' u → Q u H' := fun l r H' e2 hl hl' ha' u hu => by
  refine D.ok u H' (.inr ⟨p', dx, l, v, rfl, w, (e1.wo a).trans e2, ha', e1.free hl, hl', (pPlan _).mono (fun b o q => ?_) hv⟩) hu
  obtain ⟨h1, h2⟩ := of_nw q
  rw [nw_of h1]
  exact e2 _ _ (by rw [wo_ne (fun z => by rw [z, ha] at h1; cases h1)]; exact h2)
def sp_create (K : PySem.W.Frag) : Sp := fun vs H Q E => ∃ (a g : Addr) (st : Option Kxd7.Plan) (n : Nat), Args K vs a g st [n] H ∧ Done K a st (Kxd7.step st (.create n)) H Q E
theorem create_wf {n : Nat} (h1 : 1 ≤ n) (h2 : n ≤ 20) : Wf (Kxd7.fromRule n fun _ _ => 0) := fromRule_wf h1 h2 (fun _ _ _ _ => Nat.zero_le _)
theorem sc_create : FnScope ["desk", "given"] ["desk", "given"] (defScope (topS 76)) := C8.fnScope_by (by decide +kernel)
theorem c_create {P : Program} {w : World} {K : PySem.W.Frag} {mg : Str → Option Value} {base : Heap} (T : Txt K mg) : CalX P w K mg base 6 "create" (sp_create K) := by
  refine T.calX 52 58 rfl rfl sc_create (fun _ _ _ _ _ _ us hl => match us, hl with | [_, _], _ => rfl) (fun vs H Q E h => ?_) (fun cdv A outer s H vs Q E hr h => ⟨_, pss_cons (ps_expr (pe_cX (c_demand_between T) hr (by decide) rfl (passes_call (takes_of rfl rfl rfl rfl) (fun _ _ _ _ h => h)) (pa_cons (pe_ix ix_list (pv 1) pe_int (fun _ _ => rfl)) (pa_cons pe_int (pa_cons (C8.pe_gc rfl (T.int 98)) pa_nil)))))
      (pss_cons (ps_expr (C8.pe_mt (c_Desk_give T) hr (by decide) (pv 0) (pa_cons (C8.pe_c (c_new_plan T) hr (by decide) rfl (pa_cons (pe_ix ix_list (pv 1) pe_int (fun _ _ => rfl)) pa_nil)) pa_nil)))
      (pss_one (ps_ret (pe_lst (pa_cons pe_int pa_nil))))), ?_⟩)
  · obtain ⟨a, g, st, n, ⟨rfl, _⟩, _⟩ := h
    rfl
  · obtain ⟨a, g, st, n, ⟨rfl, ⟨dx, l0, vs0, ha, hl0, hp⟩, hg, hb⟩, D⟩ := h
    have e : Kxd7.step st (.create n) = if n = 0 ∨ Kxd7.maxHorizon < n then (st, .value (-22)) else (some (Kxd7.fromRule n fun _ _ => 0), .value 0) := by
      cases st <;> rfl
    rw [e] at D
    refine ⟨_, rfl, g, _, 0, _, rfl, rfl, SqL.of hg, rfl, (n : Int), 1, 20, rfl, fun c => ?_, fun c => ?_⟩
    · have hn : ¬ (n = 0 ∨ Kxd7.maxHorizon < n) := by unfold Kxd7.maxHorizon; omega
      rw [if_neg hn] at D
      have w := create_wf (n := n) (by omega) (by omega)
      refine ⟨_, rfl, a, dx, _, rfl, ha, rfl, _, rfl, g, _, 0, _, rfl, rfl, SqL.of hg, rfl, n, rfl, by omega, fun v H1 e1 hv => ?_⟩
      refine ⟨a, dx, l0, _, v, rfl, e1 _ _ ha, w.lay, (pPlan _).mono nw_same hv, fun l r H' e2 hl h1 h2 h3 => ?_⟩
      refine ⟨(by show 1 ≤ sizeLine; decide), fun q hq => ?_⟩
      have eq := same_new (o := .lst [V.int 0]) hq
      exact D.give w ha e1 hv l q _ (e2.trans eq) hl (eq _ _ h1) (eq _ _ h2) _ ⟨q, _, rfl, upd_same, rfl, trivial⟩
    · have hn : n = 0 ∨ Kxd7.maxHorizon < n := by unfold Kxd7.maxHorizon; omega
      rw [if_pos hn] at D
      exact D.ref
theorem isPoint_iff {p : Kxd7.Plan} {n s : Nat} : Kxd7.isPoint p n s = true ↔ n ≤ p.horizon ∧ s ≤ n := by
  unfold Kxd7.isPoint
  rw [Bool.and_eq_true_iff, decide_eq_true_eq, decide_eq_true_eq]
def sp_decision_at (K : PySem.W.Frag) : Sp := fun vs H Q E => ∃ (a g : Addr) (p : Kxd7.Plan) (n s : Nat), Args K vs a g (some p) [n, s] H ∧ Done K a (some p) (Kxd7.step (some p) (.decision n s)) H Q E
theorem sc_decision_at : FnScope ["desk", "given"] ["desk", "given"] (defScope (topS 84)) := C8.fnScope_by (by decide +kernel)
theorem c_decision_at {P : Program} {w : World} {K : PySem.W.Frag} {mg : Str → Option Value} {base : Heap} (T : Txt K mg) : CalX P w K mg base 4 "decision_at" (sp_decision_at K) := by
  refine T.calX 60 66 rfl rfl sc_decision_at (fun _ _ _ _ _ _ us hl => match us, hl with | [_, _], _ => rfl) (fun vs H Q E h => ?_) (fun cdv A outer s H vs Q E hr h => ⟨_, pss_cons (ps_expr (pe_cX (c_demand T) hr (by decide) rfl (passes_call (takes_of rfl rfl rfl rfl) (fun _ _ _ _ h => h)) (pa_cons (C8.pe_c (c_has_point T) hr (by decide) rfl (pa_cons (C8.pe_mt0 (c_Desk_plan T) hr (by decide) (pv 0)) (pa_cons (pe_ix ix_list (pv 1) pe_int (fun _ _ => rfl)) (pa_cons (pe_ix ix_list (pv 1) pe_int (fun _ _ => rfl)) pa_nil)))) (pa_cons (pe_un un_neg pe_int) pa_nil))))
      (pss_one (ps_ret (pe_lst (pa_cons (pe_ix ix_list (pe_ix ix_list (C8.pe_mt0 (c_Desk_plan T) hr (by decide) (pv 0)) (pe_ix ix_list (pv 1) pe_int (fun _ _ => rfl)) (fun _ _ => rfl)) (pe_ix ix_list (pv 1) pe_int (fun _ _ => rfl)) (fun _ _ => rfl)) pa_nil)))), ?_⟩)
  · obtain ⟨a, g, p, n, s, ⟨rfl, _⟩, _⟩ := h
    rfl
  · obtain ⟨a, g, p, n, s, ⟨rfl, Dk, hg, hb⟩, D⟩ := h
    obtain ⟨w, dx, l0, v, ha, hl, hv⟩ := Dk.some
    have e : Kxd7.step (some p) (.decision n s) = (some p, if Kxd7.isPoint p n s = false then .value (-2) else .value (Kxd7.decision p n s)) := rfl
    rw [e] at D
    refine ⟨_, rfl, a, dx, _, rfl, ha, rfl, a, dx, l0, v, rfl, ha, hl, _, rfl, g, _, 0, _, rfl, rfl, SqL.of hg, rfl, _, rfl, g, _, 1, _, rfl, rfl, SqL.of hg, rfl, v, p, n, s, rfl, w.len, hv, _, rfl, _, _, rfl, fun c => ?_, fun c => ?_⟩
    · rw [if_neg (by rw [c]; decide)] at D
      obtain ⟨c1, c2⟩ := isPoint_iff.mp c
      obtain ⟨b0, rows, rfl, hr0, hrows⟩ := hv
      obtain ⟨b, row, g1, g2, g3⟩ := plan_dec w.lay hrows c1 c2
      refine ⟨_, rfl, a, dx, _, rfl, ha, rfl, a, dx, l0, _, rfl, ha, hl, _, rfl, g, _, 0, _, rfl, rfl, SqL.of hg, rfl, b0, _, _, _, rfl, rfl, SqL.of hr0, g1, _, rfl, g, _, 1, _, rfl, rfl, SqL.of hg, rfl, b, _, _, _, rfl, rfl, SqL.of g2, g3, (by show 1 ≤ sizeLine; decide), fun r hr => ?_⟩
      exact D.same _ _ (same_new hr) (new_ints (Same.refl _) hr rfl)
    · rw [if_pos c] at D
      exact D.ref
def sp_paths (K : PySem.W.Frag) : Sp := fun vs H Q E => ∃ (a g : Addr) (p : Kxd7.Plan) (n s : Nat), Args K vs a g (some p) [n, s] H ∧ Done K a (some p) (Kxd7.step (some p) (.paths n s)) H Q E
theorem rows_ix {t : List (List Nat)} {H : Hp} {us : List V} {n s : Nat} (h : All2 (t.map pRow) H us) (hn : n < t.length) (hs : s < (t.getD n []).length) : ∃ b row, atI us (n : Int) = some (.ref b) ∧ H b = some (.lst row) ∧ atI row (s : Int) = some (nV ((t.getD n []).getD s 0)) := by
  obtain ⟨b, h1, h2⟩ := plan_row h hn
  exact ⟨b, _, h1, h2, at_nats hs⟩
theorem pathRows_getD (p : Kxd7.Plan) {n : Nat} (h : n ≤ p.horizon) : (pathRows p).getD n [] = Kxd7.pathRow p n := by
  unfold pathRows
  rw [List.getD_eq_getElem?_getD, List.getElem?_map, List.getElem?_range (by omega)]
  rfl
theorem sc_paths : FnScope ["desk", "given"] ["desk", "given"] (defScope (topS 85)) := C8.fnScope_by (by decide +kernel)
theorem c_paths {P : Program} {w : World} {K : PySem.W.Frag} {mg : Str → Option Value} {base : Heap} (T : Txt K mg) : CalX P w K mg base 4 "paths" (sp_paths K) := by
  refine T.calX 61 67 rfl rfl sc_paths (fun _ _ _ _ _ _ us hl => match us, hl with | [_, _], _ => rfl) (fun vs H Q E h => ?_) (fun cdv A outer s H vs Q E hr h => ⟨_, pss_cons (ps_expr (pe_cX (c_demand T) hr (by decide) rfl (passes_call (takes_of rfl rfl rfl rfl) (fun _ _ _ _ h => h)) (pa_cons (C8.pe_c (c_has_point T) hr (by decide) rfl (pa_cons (C8.pe_mt0 (c_Desk_plan T) hr (by decide) (pv 0)) (pa_cons (pe_ix ix_list (pv 1) pe_int (fun _ _ => rfl)) (pa_cons (pe_ix ix_list (pv 1) pe_int (fun _ _ => rfl)) pa_nil)))) (pa_cons (pe_un un_neg pe_int) pa_nil))))
      (pss_one (ps_ret (pe_lst (pa_cons (pe_ix ix_list (pe_ix ix_list (C8.pe_c (c_all_ways T) hr (by decide) rfl (pa_cons (C8.pe_mt0 (c_Desk_plan T) hr (by decide) (pv 0)) pa_nil)) (pe_ix ix_list (pv 1) pe_int (fun _ _ => rfl)) (fun _ _ => rfl)) (pe_ix ix_list (pv 1) pe_int (fun _ _ => rfl)) (fun _ _ => rfl)) pa_nil)))), ?_⟩)
  · obtain ⟨a, g, p, n, s, ⟨rfl, _⟩, _⟩ := h
    rfl
  · obtain ⟨a, g, p, n, s, ⟨rfl, Dk, hg, hb⟩, D⟩ := h
    obtain ⟨w, dx, l0, v, ha, hl, hv⟩ := Dk.some
    have e : Kxd7.step (some p) (.paths n s) = (some p, if Kxd7.isPoint p n s = false then .value (-2) else .value (Kxd7.paths p n s)) := rfl
    rw [e] at D
    refine ⟨_, rfl, a, dx, _, rfl, ha, rfl, a, dx, l0, v, rfl, ha, hl, _, rfl, g, _, 0, _, rfl, rfl, SqL.of hg, rfl, _, rfl, g, _, 1, _, rfl, rfl, SqL.of hg, rfl, v, p, n, s, rfl, w.len, hv, _, rfl, _, _, rfl, fun c => ?_, fun c => ?_⟩
    · rw [if_neg (by rw [c]; decide)] at D
      obtain ⟨c1, c2⟩ := isPoint_iff.mp c
      refine ⟨_, rfl, a, dx, _, rfl, ha, rfl, a, dx, l0, v, rfl, ha, hl, v, p, rfl, w.lay, hv, fun wv H1 e1 hw => ?_⟩
      obtain ⟨b0, rows, rfl, hr0, hrows⟩ := (pPlan (pathRows p)).mono nw_same hw
      obtain ⟨b, row, g1, g2, g3⟩ := rows_ix hrows (n := n) (s := s) (by rw [pathRows_len]; omega) (by rw [pathRows_getD p c1, pathRow_len]; omega)
      rw [pathRows_getD p c1] at g3
      have hg1 := e1 _ _ hg
      refine ⟨_, rfl, g, _, 0, _, rfl, rfl, SqL.of hg1, rfl, b0, _, _, _, rfl, rfl, SqL.of hr0, g1, _, rfl, g, _, 1, _, rfl, rfl, SqL.of hg1, rfl, b, _, _, _, rfl, rfl, SqL.of g2, g3, (by show 1 ≤ sizeLine; decide), fun r hr => ?_⟩
      exact D.same _ _ (e1.trans (same_new hr)) (new_ints e1 hr rfl)
    · rw [if_pos c] at D
      exact D.ref
def sp_summary (K : PySem.W.Frag) : Sp := fun vs H Q E => ∃ (a g : Addr) (p : Kxd7.Plan), Args K vs a g (some p) [] H ∧ Done K a (some p) (Kxd7.step (some p) .summary) H Q E
theorem sc_summary : FnScope ["desk", "given"] ["desk", "given"] (defScope (topS 97)) := C8.fnScope_by (by decide +kernel)
theorem c_summary {P : Program} {w : World} {K : PySem.W.Frag} {mg : Str → Option Value} {base : Heap} (T : Txt K mg) : CalX P w K mg base 3 "summary" (sp_summary K) := by
  refine T.calX 73 79 rfl rfl sc_summary (fun _ _ _ _ _ _ us hl => match us, hl with | [_, _], _ => rfl) (fun vs H Q E h => ?_) (fun cdv A outer s H vs Q E hr h => ⟨_, pss_one (ps_ret (pe_lst (pa_cons (C8.pe_mt0 (c_Desk_horizon T) hr (by decide) (pv 0)) pa_nil))), ?_⟩)
  · obtain ⟨a, g, p, ⟨rfl, _⟩, _⟩ := h
    rfl
  · obtain ⟨a, g, p, ⟨rfl, Dk, hg, hb⟩, D⟩ := h
    obtain ⟨w, dx, l0, v, ha, hl, hv⟩ := Dk.some
    have e : Kxd7.step (some p) .summary = (some p, .value p.horizon) := rfl
    rw [e] at D
    refine ⟨_, rfl, a, dx, _, rfl, ha, rfl, a, p, rfl, Dk, (by show 1 ≤ sizeLine; decide), fun r hr => ?_⟩
    exact D.same _ _ (same_new hr) (new_ints (Same.refl _) hr rfl)
def sp_told_row (K : PySem.W.Frag) : Sp := fun vs H Q E => ∃ (a g : Addr) (p : Kxd7.Plan) (n : Nat), Args K vs a g (some p) [n] H ∧ Done K a (some p) (Kxd7.step (some p) (.row n)) H Q E
theorem sc_told_row : FnScope ["desk", "given"] ["desk", "given"] (defScope (topS 96)) := C8.fnScope_by (by decide +kernel)
theorem c_told_row {P : Program} {w : World} {K : PySem.W.Frag} {mg : Str → Option Value} {base : Heap} (T : Txt K mg) : CalX P w K mg base 4 "told_row" (sp_told_row K) := by
  refine T.calX 72 78 rfl rfl sc_told_row (fun _ _ _ _ _ _ us hl => match us, hl with | [_, _], _ => rfl) (fun vs H Q E h => ?_) (fun cdv A outer s H vs Q E hr h => ⟨_, pss_cons (ps_expr (pe_cX (c_demand T) hr (by decide) rfl (passes_call (takes_of rfl rfl rfl rfl) (fun _ _ _ _ h => h)) (pa_cons (pe_cmp (pc_le (pe_ix ix_list (pv 1) pe_int (fun _ _ => rfl)) (C8.pe_mt0 (c_Desk_horizon T) hr (by decide) (pv 0)))) (pa_cons (pe_un un_neg pe_int) pa_nil))))
      (pss_one (ps_ret (pe_op op_cat (pe_lst (pa_cons (pe_op op_add (pe_ix ix_list (pv 1) pe_int (fun _ _ => rfl)) pe_int) pa_nil)) (pe_ix ix_list (C8.pe_mt0 (c_Desk_plan T) hr (by decide) (pv 0)) (pe_ix ix_list (pv 1) pe_int (fun _ _ => rfl)) (fun _ _ => rfl))))), ?_⟩)
  · obtain ⟨a, g, p, n, ⟨rfl, _⟩, _⟩ := h
    rfl
  · obtain ⟨a, g, p, n, ⟨rfl, Dk, hg, hb⟩, D⟩ := h
    obtain ⟨w, dx, l0, v, ha, hl, hv⟩ := Dk.some
    have e : Kxd7.step (some p) (.row n) = (some p, if p.horizon < n then .value (-2) else .values (n + 1 : Nat) (Kxd7.toInts ((List.range (n + 1)).map (Kxd7.decision p n)))) := rfl
    rw [e] at D
    refine ⟨_, rfl, g, _, 0, _, rfl, rfl, SqL.of hg, rfl, _, rfl, a, dx, _, rfl, ha, rfl, a, p, rfl, Dk, _, _, rfl, rfl, _, rfl, _, _, rfl, fun c => ?_, fun c => ?_⟩
    · have c1 : n ≤ p.horizon := by have := of_decide_eq_true c; omega
      rw [if_neg (by omega)] at D
      have h20 := w.h2
      refine ⟨_, rfl, g, _, 0, _, rfl, rfl, SqL.of hg, rfl, _, _, rfl, rfl, (by show 1 ≤ sizeLine; decide), fun q hq => ?_⟩
      have eq := same_new (o := .lst [V.int ((n : Int) + 1)]) hq
      have haq := eq _ _ ha
      have hlq := eq _ _ hl
      have hgq := eq _ _ hg
      obtain ⟨b0, rows, rfl, hr0, hrows⟩ := (pPlan p.table).mono eq hv
      obtain ⟨b, g1, g2⟩ := plan_row hrows (n := n) (by rw [w.len]; omega)
      refine ⟨_, rfl, a, dx, _, rfl, haq, rfl, a, dx, l0, _, rfl, haq, hlq, _, rfl, g, _, 0, _, rfl, rfl, SqL.of hgq, rfl, b0, _, _, _, rfl, rfl, SqL.of hr0, g1, q, b, _, _, rfl, rfl, upd_same, g2, ?_, fun r hr => ?_⟩
      · rw [List.length_map, w.row n c1]
        exact size_le (by show 1 + (n + 1) ≤ 1000000; omega)
      · refine D.same _ _ (eq.trans (same_new hr)) (new_ints eq hr ?_)
        show V.int _ :: _ = V.int _ :: _
        congr 1
        unfold Kxd7.toInts
        rw [List.map_map, List.map_map]
        show (p.table.getD n []).map nV = _
        refine List.ext_getElem? fun i => ?_
        by_cases hi : i < n + 1
        · rw [List.getElem?_map, List.getElem?_map, List.getElem?_range hi, List.getElem?_eq_getElem (by rw [w.row n c1]; exact hi)]
          have q2 : ((p.table.getD n [])[i]?).getD 0 = Kxd7.decision p n i := by
            rw [← List.getD_eq_getElem?_getD]
            exact dec_getD w.lay c1 (show i ≤ n by omega) 0
          rw [List.getElem?_eq_getElem (by rw [w.row n c1]; exact hi)] at q2
          exact congrArg (fun x : Nat => some (nV x)) q2
        · rw [List.getElem?_eq_none (by rw [List.length_map, w.row n c1]; omega), List.getElem?_eq_none (by simp; omega)]
    · have c1 : ¬ n ≤ p.horizon := by have := of_decide_eq_false c; omega
      rw [if_pos (by omega)] at D
      exact D.ref
end SE
/-! ## deeds that replace the plan -/
namespace SE
open PySem PySem.Spec PyProof.Rows L2
theorem plan_eta (p : Kxd7.Plan) (t : List (List Nat)) : ({ p with table := t } : Kxd7.Plan) = ⟨p.horizon, t⟩ := rfl
theorem set_dec {p : Kxd7.Plan} (w : Wf p) {n s d : Nat} (hn : n ≤ p.horizon) (hs : s ≤ n) {m u : Nat} (hm : m ≤ p.horizon) (hu : u ≤ m) :
    Kxd7.decision { p with table := p.table.set n ((p.table.getD n []).set s d) } m u = if m = n ∧ u = s then d else Kxd7.decision p m u := by
  have hl := w.len
  unfold Kxd7.decision
  dsimp only
  by_cases e : m = n
  · subst e
    have e1 : (p.table.set m ((p.table.getD m []).set s d)).getD m [] = (p.table.getD m []).set s d := by
      rw [List.getD_eq_getElem?_getD, List.getElem?_set_self (by omega)]
      rfl
    rw [e1]
    by_cases e2 : u = s
    · subst e2
      rw [if_pos ⟨rfl, rfl⟩, List.getD_eq_getElem?_getD, List.getElem?_set_self (by rw [w.row m hm]; omega)]
      rfl
    · rw [if_neg (fun z => e2 z.2), List.getD_eq_getElem?_getD, List.getElem?_set_ne (fun z => e2 z.symm), ← List.getD_eq_getElem?_getD]
  · rw [if_neg (fun z => e z.1)]
    have e1 : (p.table.set n ((p.table.getD n []).set s d)).getD m [] = p.table.getD m [] := by
      rw [List.getD_eq_getElem?_getD, List.getElem?_set_ne (fun z => e z.symm), ← List.getD_eq_getElem?_getD]
    rw [e1]
theorem set_wf {p : Kxd7.Plan} (w : Wf p) {n s d : Nat} (hn : n ≤ p.horizon) (hs : s ≤ n) (hd : d ≤ 2) (hl : d ≠ 0 ∨ n < p.horizon) : Wf { p with table := p.table.set n ((p.table.getD n []).set s d) } where
  h1 := w.h1
  h2 := w.h2
  len := by
    show (p.table.set _ _).length = _
    rw [List.length_set]
    exact w.len
  row := fun m hm => by
    show ((p.table.set n _).getD m []).length = _
    by_cases e : m = n
    · subst e
      rw [List.getD_eq_getElem?_getD, List.getElem?_set_self (by have := w.len; have : m ≤ p.horizon := hm; omega)]
      show ((p.table.getD m []).set s d).length = _
      rw [List.length_set]
      exact w.row m hm
    · rw [List.getD_eq_getElem?_getD, List.getElem?_set_ne (fun z => e z.symm), ← List.getD_eq_getElem?_getD]
      exact w.row m hm
  dec := fun m u hm hu => by
    rw [set_dec w hn hs hm hu]
    split
    · exact hd
    · exact w.dec m u hm hu
  last := fun u hu => by
    show Kxd7.decision _ p.horizon u ≠ 0
    rw [set_dec w hn hs (Nat.le_refl _) hu]
    split
    · next c =>
      rcases hl with h | h
      · exact h
      · omega
    · exact w.last u hu
def sp_set_decision (K : PySem.W.Frag) : Sp := fun vs H Q E => ∃ (a g : Addr) (p : Kxd7.Plan) (n s d : Nat), Args K vs a g (some p) [n, s, d] H ∧ Done K a (some p) (Kxd7.step (some p) (.setDecision n s d)) H Q E
theorem sc_set_decision : FnScope ["desk", "given", "n", "s", "decision", "plan", "previous"] ["desk", "given"] (defScope (topS 77)) := C8.fnScope_by (by decide +kernel)
theorem c_set_decision {P : Program} {w : World} {K : PySem.W.Frag} {mg : Str → Option Value} {base : Heap} (T : Txt K mg) : CalX P w K mg base 6 "set_decision" (sp_set_decision K) := by
  refine T.calX 53 59 rfl rfl sc_set_decision (fun _ _ _ _ _ _ us hl => match us, hl with | [_, _], _ => rfl) (fun vs H Q E h => ?_) (fun cdv A outer s H vs Q E hr h => ⟨_, pss_cons (ps_asg (pv 1) (pg_unl rfl (pgs_cons (pg_name (i := 2) sc_set_decision.nd rfl (Or.inl rfl)) (pgs_cons (pg_name (i := 3) sc_set_decision.nd rfl (Or.inl rfl)) (pgs_cons (pg_name (i := 4) sc_set_decision.nd rfl (Or.inl rfl)) pgs_nil)))))
      (pss_cons (ps_set (i := 5) sc_set_decision.nd rfl (Or.inl rfl) (C8.pe_mt0 (c_Desk_plan T) hr (by decide) (pv 0)))
      (pss_cons (ps_expr (pe_cX (c_demand T) hr (by decide) rfl (passes_call (takes_of rfl rfl rfl rfl) (fun _ _ _ _ h => h)) (pa_cons (C8.pe_c (c_has_point T) hr (by decide) rfl (pa_cons (pv 5) (pa_cons (pv 2) (pa_cons (pv 3) pa_nil)))) (pa_cons (pe_un un_neg pe_int) pa_nil))))
      (pss_cons (ps_expr (pe_cX (c_demand T) hr (by decide) rfl (passes_call (takes_of rfl rfl rfl rfl) (fun _ _ _ _ h => h)) (pa_cons (pe_and (pe_cmpR op_in_seq (pv 4) (pe_tup (pa_cons (C8.pe_gc rfl (T.int 94)) (pa_cons (C8.pe_gc rfl (T.int 95)) (pa_cons (C8.pe_gc rfl (T.int 96)) pa_nil)))) (by rfl)) (pe_one (pe_or (pe_cmp (pc_neI (pv 4) (C8.pe_gc rfl (T.int 94)))) (pe_one (pe_cmp (pc_lt (pv 2) (C8.pe_mt0 (c_Desk_horizon T) hr (by decide) (pv 0)))))))) (pa_cons (pe_un un_neg pe_int) pa_nil))))
      (pss_cons (ps_set (i := 6) sc_set_decision.nd rfl (Or.inl rfl) (pe_ix ix_list (pe_ix ix_list (pv 5) (pv 2) (fun _ _ => rfl)) (pv 3) (fun _ _ => rfl)))
      (pss_cons (ps_expr (C8.pe_mt (c_Desk_give T) hr (by decide) (pv 0) (pa_cons (C8.pe_c (c_with_decision T) hr (by decide) rfl (pa_cons (pv 5) (pa_cons (pv 2) (pa_cons (pv 3) (pa_cons (pv 4) pa_nil))))) pa_nil)))
      (pss_one (ps_ret (pe_lst (pa_cons (pv 6) pa_nil))))))))), ?_⟩)
  · obtain ⟨a, g, p, n, s, d, ⟨rfl, _⟩, _⟩ := h
    rfl
  · obtain ⟨a, g, p, n, s, d, ⟨rfl, Dk, hg, hb⟩, D⟩ := h
    obtain ⟨w, dx, l0, v, ha, hl, hv⟩ := Dk.some
    have e : Kxd7.step (some p) (.setDecision n s d) = if Kxd7.isPoint p n s = false then (some p, .value (-2)) else if 2 < d ∨ (n = p.horizon ∧ d = 0) then (some p, .value (-22))
      else (some { p with table := p.table.set n ((p.table.getD n []).set s d) }, .value (Kxd7.decision p n s)) := rfl
    rw [e] at D
    refine ⟨_, rfl, g, _, rfl, SqL.of hg, rfl, _, _, rfl, _, _, rfl, _, _, rfl, rfl, ?_⟩
    refine ⟨_, rfl, a, dx, _, rfl, ha, rfl, a, dx, l0, v, rfl, ha, hl, ?_⟩
    refine ⟨_, rfl, _, rfl, _, rfl, v, p, n, s, rfl, w.len, hv, _, rfl, _, _, rfl, fun c => ?_, fun c => ?_⟩
    · rw [if_neg (by rw [c]; decide)] at D
      obtain ⟨c1, c2⟩ := isPoint_iff.mp c
      obtain ⟨b0, rows, rfl, hr0, hrows⟩ := id hv
      obtain ⟨b, row, g1, g2, g3⟩ := plan_dec w.lay hrows c1 c2
      refine ⟨_, rfl, (by show 3 ≤ sizeLine; decide), fun q hq => ⟨q, [.int 0, .int 1, .int 2], rfl, .inr (SqT.of upd_same), rfl, rfl, _, rfl, ?_⟩⟩
      have eq := same_new (o := .tup [V.int 0, .int 1, .int 2]) hq
      have haq := eq _ _ ha
      have Dkq := Dk.mono eq
      have hin : inV (.int (d : Int)) [.int 0, .int 1, .int 2] = decide (d ≤ 2) := by
        by_cases hd : d ≤ 2
        · rw [decide_eq_true hd]
          rcases (show d = 0 ∨ d = 1 ∨ d = 2 by omega) with rfl | rfl | rfl <;> rfl
        · rw [decide_eq_false hd]
          simp [inV, eqV]
          omega
      by_cases hd : d ≤ 2
      · refine if_true_of (show inV (.int (d : Int)) [.int 0, .int 1, .int 2] = true by rw [hin]; exact decide_eq_true hd) ?_
        refine ⟨_, rfl, _, _, rfl, rfl, _, rfl, ?_⟩
        by_cases h0 : d = 0
        · refine if_false_of (ne_f (by omega)) ⟨_, rfl, _, rfl, a, dx, _, rfl, haq, rfl, a, p, rfl, Dkq, _, _, rfl, rfl, _, rfl, _, _, rfl, fun cc => ?_, fun cc => ?_⟩
          · have c3 : n < p.horizon := by have := of_decide_eq_true cc; omega
            rw [if_neg (by omega)] at D
            have w2 := set_wf w (n := n) (s := s) (d := d) c1 c2 (by omega) (by omega)
            refine ⟨_, rfl, _, rfl, b0, _, _, _, rfl, rfl, SqL.of (eq _ _ hr0), g1, _, rfl, b, _, _, _, rfl, rfl, SqL.of (eq _ _ g2), g3, ?_⟩
            refine ⟨_, rfl, a, dx, _, rfl, haq, rfl, _, rfl, _, rfl, _, rfl, _, rfl, .ref b0, p, n, s, d, rfl, w.lay, (pPlan _).mono eq hv, c1, c2, fun v1 H2 e2 hv1 => ?_⟩
            refine ⟨a, dx, l0, _, v1, rfl, e2 _ _ haq, w2.lay, (pPlan _).mono nw_same hv1, fun l r H' e3 h1 h2 h3 h4 => ?_⟩
            refine ⟨_, rfl, (by show 1 ≤ sizeLine; decide), fun z hz => ?_⟩
            have ez := same_new (o := .lst [V.int (Kxd7.decision p n s : Nat)]) hz
            exact D.give w2 ha (eq.trans e2) ((pPlan _).mono (nw_ground eq.dm) hv1) l z _ (e3.trans ez) h1 (ez _ _ h2) (ez _ _ h3) _ ⟨z, _, rfl, upd_same, rfl, trivial⟩
          · have c3 : ¬ n < p.horizon := by have := of_decide_eq_false cc; omega
            rw [if_pos (by omega)] at D
            exact D.ref.from eq
        · refine if_true_of (ne_t (by omega)) ⟨_, rfl, _, _, rfl, fun cc => ?_, fun cc => nomatch cc⟩
          rw [if_neg (by omega)] at D
          have w2 := set_wf w (n := n) (s := s) (d := d) c1 c2 (by omega) (by omega)
          refine ⟨_, rfl, _, rfl, b0, _, _, _, rfl, rfl, SqL.of (eq _ _ hr0), g1, _, rfl, b, _, _, _, rfl, rfl, SqL.of (eq _ _ g2), g3, ?_⟩
          refine ⟨_, rfl, a, dx, _, rfl, haq, rfl, _, rfl, _, rfl, _, rfl, _, rfl, .ref b0, p, n, s, d, rfl, w.lay, (pPlan _).mono eq hv, c1, c2, fun v1 H2 e2 hv1 => ?_⟩
          refine ⟨a, dx, l0, _, v1, rfl, e2 _ _ haq, w2.lay, (pPlan _).mono nw_same hv1, fun l r H' e3 h1 h2 h3 h4 => ?_⟩
          refine ⟨_, rfl, (by show 1 ≤ sizeLine; decide), fun z hz => ?_⟩
          have ez := same_new (o := .lst [V.int (Kxd7.decision p n s : Nat)]) hz
          exact D.give w2 ha (eq.trans e2) ((pPlan _).mono (nw_ground eq.dm) hv1) l z _ (e3.trans ez) h1 (ez _ _ h2) (ez _ _ h3) _ ⟨z, _, rfl, upd_same, rfl, trivial⟩
      · refine if_false_of (show inV (.int (d : Int)) [.int 0, .int 1, .int 2] = false by rw [hin]; exact decide_eq_false hd) ⟨_, rfl, _, _, rfl, (fun cc => nomatch cc), fun cc => ?_⟩
        rw [if_pos (by omega)] at D
        exact D.ref.from eq
    · rw [if_pos c] at D
      exact D.ref
def sp_single (K : PySem.W.Frag) : Sp := fun vs H Q E => ∃ (a g : Addr) (p : Kxd7.Plan) (c : Nat), Args K vs a g (some p) [c] H ∧ Done K a (some p) (Kxd7.step (some p) (.single c)) H Q E
theorem sc_single : FnScope ["desk", "given"] ["desk", "given"] (defScope (topS 78)) := C8.fnScope_by (by decide +kernel)
theorem c_single {P : Program} {w : World} {K : PySem.W.Frag} {mg : Str → Option Value} {base : Heap} (T : Txt K mg) : CalX P w K mg base 6 "single" (sp_single K) := by
  refine T.calX 54 60 rfl rfl sc_single (fun _ _ _ _ _ _ us hl => match us, hl with | [_, _], _ => rfl) (fun vs H Q E h => ?_) (fun cdv A outer s H vs Q E hr h => ⟨_, pss_cons (ps_expr (pe_cX (c_demand_between T) hr (by decide) rfl (passes_call (takes_of rfl rfl rfl rfl) (fun _ _ _ _ h => h)) (pa_cons (pe_ix ix_list (pv 1) pe_int (fun _ _ => rfl)) (pa_cons pe_int (pa_cons (C8.pe_mt0 (c_Desk_horizon T) hr (by decide) (pv 0)) pa_nil)))))
      (pss_one (ps_ret (C8.pe_mt (c_Desk_give T) hr (by decide) (pv 0) (pa_cons (C8.pe_c (c_single_plan T) hr (by decide) rfl (pa_cons (C8.pe_mt0 (c_Desk_horizon T) hr (by decide) (pv 0)) (pa_cons (pe_ix ix_list (pv 1) pe_int (fun _ _ => rfl)) pa_nil))) pa_nil)))), ?_⟩)
  · obtain ⟨a, g, p, c, ⟨rfl, _⟩, _⟩ := h
    rfl
  · obtain ⟨a, g, p, c, ⟨rfl, Dk, hg, hb⟩, D⟩ := h
    obtain ⟨w, dx, l0, v, ha, hl, hv⟩ := Dk.some
    have e : Kxd7.step (some p) (.single c) = if p.horizon < c then (some p, .value (-22)) else Kxd7.put (Kxd7.fromRule p.horizon (Kxd7.singleRule p.horizon c)) := rfl
    rw [e] at D
    refine ⟨_, rfl, g, _, 0, _, rfl, rfl, SqL.of hg, rfl, _, rfl, a, dx, _, rfl, ha, rfl, a, p, rfl, Dk, (c : Int), 0, (p.horizon : Int), rfl, fun c1 => ?_, fun c1 => ?_⟩
    · rw [if_neg (by omega)] at D
      have w2 : Wf (Kxd7.fromRule p.horizon (Kxd7.singleRule p.horizon c)) := fromRule_wf w.h1 w.h2 fun n s _ _ => by
        unfold Kxd7.singleRule
        repeat' split
        all_goals decide
      refine ⟨_, rfl, a, dx, _, rfl, ha, rfl, _, rfl, a, dx, _, rfl, ha, rfl, a, p, rfl, Dk, _, rfl, g, _, 0, _, rfl, rfl, SqL.of hg, rfl, p.horizon, c, rfl, w.h2, fun v1 H1 e1 hv1 => ?_⟩
      exact ⟨a, dx, l0, _, v1, rfl, e1 _ _ ha, w2.lay, (pPlan _).mono nw_same hv1, fun l r H' e2 h1 h2 h3 h4 => D.give w2 ha e1 hv1 l r H' e2 h1 h2 h3 _ ⟨r, _, rfl, h4, rfl, trivial⟩⟩
    · rw [if_pos (by omega)] at D
      exact D.ref
def sp_curtail (K : PySem.W.Frag) : Sp := fun vs H Q E => ∃ (a g : Addr) (p : Kxd7.Plan), Args K vs a g (some p) [] H ∧ Done K a (some p) (Kxd7.step (some p) .curtail) H Q E
theorem sc_curtail : FnScope ["desk", "given"] ["desk", "given"] (defScope (topS 81)) := C8.fnScope_by (by decide +kernel)
theorem c_curtail {P : Program} {w : World} {K : PySem.W.Frag} {mg : Str → Option Value} {base : Heap} (T : Txt K mg) : CalX P w K mg base 6 "curtail" (sp_curtail K) := by
  refine T.calX 57 63 rfl rfl sc_curtail (fun _ _ _ _ _ _ us hl => match us, hl with | [_, _], _ => rfl) (fun vs H Q E h => ?_) (fun cdv A outer s H vs Q E hr h => ⟨_, pss_one (ps_ret (C8.pe_mt (c_Desk_give T) hr (by decide) (pv 0) (pa_cons (C8.pe_c (c_curtailed T) hr (by decide) rfl (pa_cons (C8.pe_mt0 (c_Desk_plan T) hr (by decide) (pv 0)) pa_nil)) pa_nil))), ?_⟩)
  · obtain ⟨a, g, p, ⟨rfl, _⟩, _⟩ := h
    rfl
  · obtain ⟨a, g, p, ⟨rfl, Dk, hg, hb⟩, D⟩ := h
    obtain ⟨w, dx, l0, v, ha, hl, hv⟩ := Dk.some
    have e : Kxd7.step (some p) .curtail = Kxd7.put (Kxd7.curtailed p) := rfl
    rw [e] at D
    have w2 := curtailed_wf w
    refine ⟨_, rfl, a, dx, _, rfl, ha, rfl, _, rfl, a, dx, _, rfl, ha, rfl, a, dx, l0, v, rfl, ha, hl, v, p, rfl, w, hv, fun v1 H1 e1 hv1 => ?_⟩
    exact ⟨a, dx, l0, _, v1, rfl, e1 _ _ ha, w2.lay, (pPlan _).mono nw_same hv1, fun l r H' e2 h1 h2 h3 h4 => D.give w2 ha e1 hv1 l r H' e2 h1 h2 h3 _ ⟨r, _, rfl, h4, rfl, trivial⟩⟩
def sp_two_stage (K : PySem.W.Frag) : Sp := fun vs H Q E => ∃ (a g : Addr) (p : Kxd7.Plan) (n1 r1 r : Nat), Args K vs a g (some p) [n1, r1, r] H ∧ Done K a (some p) (Kxd7.step (some p) (.twoStage n1 r1 r)) H Q E
theorem sc_two_stage : FnScope ["desk", "given", "first", "first_limit", "limit"] ["desk", "given"] (defScope (topS 80)) := C8.fnScope_by (by decide +kernel)
theorem c_two_stage {P : Program} {w : World} {K : PySem.W.Frag} {mg : Str → Option Value} {base : Heap} (T : Txt K mg) : CalX P w K mg base 6 "two_stage" (sp_two_stage K) := by
  refine T.calX 56 62 rfl rfl sc_two_stage (fun _ _ _ _ _ _ us hl => match us, hl with | [_, _], _ => rfl) (fun vs H Q E h => ?_) (fun cdv A outer s H vs Q E hr h => ⟨_, pss_cons (ps_asg (pv 1) (pg_unl rfl (pgs_cons (pg_name (i := 2) sc_two_stage.nd rfl (Or.inl rfl)) (pgs_cons (pg_name (i := 3) sc_two_stage.nd rfl (Or.inl rfl)) (pgs_cons (pg_name (i := 4) sc_two_stage.nd rfl (Or.inl rfl)) pgs_nil)))))
      (pss_cons (ps_expr (pe_cX (c_demand_between T) hr (by decide) rfl (passes_call (takes_of rfl rfl rfl rfl) (fun _ _ _ _ h => h)) (pa_cons (pv 2) (pa_cons pe_int (pa_cons (pe_op op_sub (C8.pe_mt0 (c_Desk_horizon T) hr (by decide) (pv 0)) pe_int) pa_nil)))))
      (pss_cons (ps_expr (pe_cX (c_demand_between T) hr (by decide) rfl (passes_call (takes_of rfl rfl rfl rfl) (fun _ _ _ _ h => h)) (pa_cons (pv 3) (pa_cons pe_int (pa_cons (pv 2) pa_nil)))))
      (pss_cons (ps_expr (pe_cX (c_demand_between T) hr (by decide) rfl (passes_call (takes_of rfl rfl rfl rfl) (fun _ _ _ _ h => h)) (pa_cons (pv 4) (pa_cons pe_int (pa_cons (C8.pe_mt0 (c_Desk_horizon T) hr (by decide) (pv 0)) pa_nil)))))
      (pss_one (ps_ret (C8.pe_mt (c_Desk_give T) hr (by decide) (pv 0) (pa_cons (C8.pe_c (c_two_stage_plan T) hr (by decide) rfl (pa_cons (C8.pe_mt0 (c_Desk_horizon T) hr (by decide) (pv 0)) (pa_cons (pv 2) (pa_cons (pv 3) (pa_cons (pv 4) pa_nil))))) pa_nil))))))), ?_⟩)
  · obtain ⟨a, g, p, n1, r1, r, ⟨rfl, _⟩, _⟩ := h
    rfl
  · obtain ⟨a, g, p, n1, r1, r, ⟨rfl, Dk, hg, hb⟩, D⟩ := h
    obtain ⟨w, dx, l0, v, ha, hl, hv⟩ := Dk.some
    have e : Kxd7.step (some p) (.twoStage n1 r1 r) = if n1 = 0 ∨ p.horizon ≤ n1 ∨ n1 < r1 ∨ p.horizon < r then (some p, .value (-22)) else Kxd7.put (Kxd7.fromRule p.horizon (Kxd7.twoStageRule n1 r1 p.horizon r)) := rfl
    rw [e] at D
    refine ⟨_, rfl, g, _, rfl, SqL.of hg, rfl, _, _, rfl, _, _, rfl, _, _, rfl, rfl, ?_⟩
    refine ⟨_, rfl, _, rfl, a, dx, _, rfl, ha, rfl, a, p, rfl, Dk, _, _, rfl, rfl, (n1 : Int), 1, (p.horizon : Int) - 1, rfl, fun c1 => ?_, fun c1 => ?_⟩
    · refine ⟨_, rfl, _, rfl, (r1 : Int), 0, (n1 : Int), rfl, fun c2 => ?_, fun c2 => ?_⟩
      · refine ⟨_, rfl, _, rfl, a, dx, _, rfl, ha, rfl, a, p, rfl, Dk, (r : Int), 0, (p.horizon : Int), rfl, fun c3 => ?_, fun c3 => ?_⟩
        · rw [if_neg (by omega)] at D
          have w2 : Wf (Kxd7.fromRule p.horizon (Kxd7.twoStageRule n1 r1 p.horizon r)) := fromRule_wf w.h1 w.h2 fun n s _ _ => by
            unfold Kxd7.twoStageRule
            repeat' split
            all_goals decide
          have h20 := w.h2
          refine ⟨_, rfl, a, dx, _, rfl, ha, rfl, _, rfl, a, dx, _, rfl, ha, rfl, a, p, rfl, Dk, _, rfl, _, rfl, _, rfl, p.horizon, n1, r1, r, rfl, by omega, by omega, fun v1 H1 e1 hv1 => ?_⟩
          exact ⟨a, dx, l0, _, v1, rfl, e1 _ _ ha, w2.lay, (pPlan _).mono nw_same hv1, fun l q H' e2 h1 h2 h3 h4 => D.give w2 ha e1 hv1 l q H' e2 h1 h2 h3 _ ⟨q, _, rfl, h4, rfl, trivial⟩⟩
        · rw [if_pos (by omega)] at D
          exact D.ref
      · rw [if_pos (by omega)] at D
        exact D.ref
    · rw [if_pos (by omega)] at D
      exact D.ref
end SE
/-! ## deeds: likelihood, problems -/
namespace SE
open PySem PySem.Spec PyProof.Rows L2
theorem arePair_iff {p0 p1 d : Nat} : Kxd7.arePair p0 p1 d = true ↔ ((1 ≤ (d : Int) ∧ (d : Int) ≤ 1000) ∧ (1 ≤ (p0 : Int) ∧ (p0 : Int) < p1 ∧ (p1 : Int) < d)) := by
  unfold Kxd7.arePair Kxd7.isStrict Kxd7.isProbability
  simp only [Bool.and_eq_true_iff, decide_eq_true_eq]
  omega
theorem isProb_iff {n d : Nat} : Kxd7.isProbability n d = true ↔ ((1 ≤ (d : Int) ∧ (d : Int) ≤ 1000) ∧ (0 ≤ (n : Int) ∧ (n : Int) ≤ d)) := by
  unfold Kxd7.isProbability
  simp only [Bool.and_eq_true_iff, decide_eq_true_eq]
  omega
theorem not_f {b : Bool} {c : Prop} (h : b = true ↔ c) (k : ¬ c) : b = false := by
  cases b with
  | false => rfl
  | true => exact absurd (h.mp rfl) k
theorem pair_of {p0 p1 d : Nat} (h : (1 ≤ (d : Int) ∧ (d : Int) ≤ 1000) ∧ (1 ≤ (p0 : Int) ∧ (p0 : Int) < p1 ∧ (p1 : Int) < d)) : Pair p0 p1 d := ⟨by omega, by omega, by omega, by omega⟩
theorem share_of {n d : Nat} (h : (1 ≤ (d : Int) ∧ (d : Int) ≤ 1000) ∧ (0 ≤ (n : Int) ∧ (n : Int) ≤ d)) : Share n d := ⟨by omega, by omega, by omega⟩
theorem lt33 {x : Nat} (h : x < 2 ^ 32) : Lt2 40 (x : Int) := nat_lt2 (by omega)
def sp_likelihood (K : PySem.W.Frag) : Sp := fun vs H Q E => ∃ (a g : Addr) (p : Kxd7.Plan) (p0 p1 d lo ld hi hd : Nat), Args K vs a g (some p) [p0, p1, d, lo, ld, hi, hd] H ∧ Done K a (some p) (Kxd7.step (some p) (.likelihood p0 p1 d lo ld hi hd)) H Q E
theorem sc_likelihood : FnScope ["desk", "given", "p0", "p1", "divisor", "low", "low_divisor", "high", "high_divisor", "bounds"] ["desk", "given"] (defScope (topS 79)) := C8.fnScope_by (by decide +kernel)
theorem c_likelihood {P : Program} {w : World} {K : PySem.W.Frag} {mg : Str → Option Value} {base : Heap} (T : Txt K mg) : CalX P w K mg base 6 "likelihood" (sp_likelihood K) := by
  refine T.calX 55 61 rfl rfl sc_likelihood (fun _ _ _ _ _ _ us hl => match us, hl with | [_, _], _ => rfl) (fun vs H Q E h => ?_) (fun cdv A outer s H vs Q E hr h => ⟨_, pss_cons (ps_asg (pv 1) (pg_unl rfl (pgs_cons (pg_name (i := 2) sc_likelihood.nd rfl (Or.inl rfl)) (pgs_cons (pg_name (i := 3) sc_likelihood.nd rfl (Or.inl rfl)) (pgs_cons (pg_name (i := 4) sc_likelihood.nd rfl (Or.inl rfl)) (pgs_cons (pg_name (i := 5) sc_likelihood.nd rfl (Or.inl rfl)) (pgs_cons (pg_name (i := 6) sc_likelihood.nd rfl (Or.inl rfl)) (pgs_cons (pg_name (i := 7) sc_likelihood.nd rfl (Or.inl rfl)) (pgs_cons (pg_name (i := 8) sc_likelihood.nd rfl (Or.inl rfl)) pgs_nil)))))))))
      (pss_cons (ps_expr (pe_cX (c_demand_pair T) hr (by decide) rfl (passes_call (takes_of rfl rfl rfl rfl) (fun _ _ _ _ h => h)) (pa_cons (pv 2) (pa_cons (pv 3) (pa_cons (pv 4) pa_nil)))))
      (pss_cons (ps_expr (pe_cX (c_demand_between T) hr (by decide) rfl (passes_call (takes_of rfl rfl rfl rfl) (fun _ _ _ _ h => h)) (pa_cons (pv 6) (pa_cons pe_int (pa_cons (C8.pe_gc rfl (T.int 99)) pa_nil)))))
      (pss_cons (ps_expr (pe_cX (c_demand_between T) hr (by decide) rfl (passes_call (takes_of rfl rfl rfl rfl) (fun _ _ _ _ h => h)) (pa_cons (pv 8) (pa_cons pe_int (pa_cons (C8.pe_gc rfl (T.int 99)) pa_nil)))))
      (pss_cons (ps_expr (pe_cX (c_demand T) hr (by decide) rfl (passes_call (takes_of rfl rfl rfl rfl) (fun _ _ _ _ h => h)) (pa_cons (pe_and (pe_cmp (pc_le (pe_callB (call_max2 rfl) (by rfl) (T.free 90) (by decide +kernel) (pa_cons (pv 5) (pa_cons (pv 7) pa_nil))) (C8.pe_gc rfl (T.int 100)))) (pe_one (pe_cmp (pc_lt (pe_op op_mulW (pv 5) (pv 8)) (pe_op op_mulW (pv 7) (pv 6)))))) (pa_cons (pe_un un_neg pe_int) pa_nil))))
      (pss_cons (ps_set (i := 9) sc_likelihood.nd rfl (Or.inl rfl) (pe_tup (pa_cons (pv 5) (pa_cons (pv 6) (pa_cons (pv 7) (pa_cons (pv 8) pa_nil))))))
      (pss_one (ps_ret (C8.pe_mt (c_Desk_give T) hr (by decide) (pv 0) (pa_cons (C8.pe_c (c_likelihood_plan T) hr (by decide) rfl (pa_cons (C8.pe_mt0 (c_Desk_horizon T) hr (by decide) (pv 0)) (pa_cons (pe_tup (pa_cons (pv 2) (pa_cons (pv 3) pa_nil))) (pa_cons (pv 4) (pa_cons (pv 9) pa_nil))))) pa_nil))))))))), ?_⟩)
  · obtain ⟨a, g, p, p0, p1, d, lo, ld, hi, hd, ⟨rfl, _⟩, _⟩ := h
    rfl
  · obtain ⟨a, g, p, p0, p1, d, lo, ld, hi, hd, ⟨rfl, Dk, hg, hb⟩, D⟩ := h
    obtain ⟨w, dx, l0, v, ha, hl, hv⟩ := Dk.some
    have e : Kxd7.step (some p) (.likelihood p0 p1 d lo ld hi hd) = if Kxd7.arePair p0 p1 d = false ∨ ld = 0 ∨ 1000 < ld ∨ hd = 0 ∨ 1000 < hd ∨ 1000000 < lo ∨ 1000000 < hi ∨ Kxd7.isLess (Kxd7.share lo ld) (Kxd7.share hi hd) = false then (some p, .value (-22))
      else Kxd7.put (Kxd7.fromRule p.horizon (Kxd7.likelihoodRule (Kxd7.share p0 d) (Kxd7.share p1 d) (Kxd7.share lo ld) (Kxd7.share hi hd))) := rfl
    rw [e] at D
    have b1 := lt33 (hb lo (by simp))
    have b2 := lt33 (hb ld (by simp))
    have b3 := lt33 (hb hi (by simp))
    have b4 := lt33 (hb hd (by simp))
    refine ⟨_, rfl, g, _, rfl, SqL.of hg, rfl, _, _, rfl, _, _, rfl, _, _, rfl, _, _, rfl, _, _, rfl, _, _, rfl, _, _, rfl, rfl, ?_⟩
    refine ⟨_, rfl, _, rfl, _, rfl, (p0 : Int), (p1 : Int), (d : Int), rfl, fun c1 => ?_, fun c1 => ?_⟩
    · refine ⟨_, rfl, (ld : Int), 1, 1000, rfl, fun c2 => ?_, fun c2 => ?_⟩
      · refine ⟨_, rfl, (hd : Int), 1, 1000, rfl, fun c3 => ?_, fun c3 => ?_⟩
        · have lt : Kxd7.isLess (Kxd7.share lo ld) (Kxd7.share hi hd) = decide ((lo : Int) * hd < hi * ld) := (share_frac (show 1 ≤ ld by omega)).lt (share_frac (show 1 ≤ hd by omega))
          have ap := arePair_iff.mpr c1
          refine ⟨_, rfl, _, rfl, _, _, rfl, _, _, rfl, rfl, _, rfl, ?_⟩
          have em : (if (hi : Int) > (lo : Int) then (hi : Int) else (lo : Int)) = max (lo : Int) hi := by omega
          by_cases c4 : max (lo : Int) hi ≤ 1000000
          · refine if_true_of (decide_eq_true (by omega)) ⟨_, rfl, _, rfl, _, _, rfl, rfl, b1.mulW b4 (by decide), _, rfl, _, rfl, _, _, rfl, rfl, b3.mulW b2 (by decide), _, _, rfl, rfl, _, rfl, _, _, rfl, fun c5 => ?_, fun c5 => ?_⟩
            · have c6 : (lo : Int) * hd < hi * ld := of_decide_eq_true c5
              rw [if_neg (by rw [ap, lt, decide_eq_true c6]; rintro (z | z | z | z | z | z | z | z) <;> first | exact absurd z (by decide) | omega)] at D
              have w2 : Wf (Kxd7.fromRule p.horizon (Kxd7.likelihoodRule (Kxd7.share p0 d) (Kxd7.share p1 d) (Kxd7.share lo ld) (Kxd7.share hi hd))) := fromRule_wf w.h1 w.h2 fun n s _ _ => by
                unfold Kxd7.likelihoodRule
                repeat' split
                all_goals decide
              have h20 := w.h2
              refine ⟨_, rfl, _, rfl, _, rfl, _, rfl, (by show 4 ≤ sizeLine; decide), fun q hq => ?_⟩
              have eq := same_new (o := .tup [nV lo, nV ld, nV hi, nV hd]) hq
              have haq := eq _ _ ha
              have Dkq := Dk.mono eq
              refine ⟨_, rfl, a, dx, _, rfl, haq, rfl, _, rfl, a, dx, _, rfl, haq, rfl, a, p, rfl, Dkq, _, rfl, _, rfl, (by show 2 ≤ sizeLine; decide), fun z hz => ?_⟩
              have ez := same_new (o := .tup [nV p0, nV p1]) hz
              refine ⟨_, rfl, _, rfl, .ref z, .ref q, p.horizon, p0, p1, d, lo, ld, hi, hd, rfl, w.h1, h20, pair_of c1, ⟨by omega, by omega, by omega, by omega, by omega, by omega⟩, pT_mk upd_same ⟨rfl, rfl, trivial⟩, pT_mk (ez _ _ upd_same) ⟨rfl, rfl, rfl, rfl, trivial⟩, fun v1 H1 e1 hv1 => ?_⟩
              have e2 := eq.trans ez
              exact ⟨a, dx, l0, _, v1, rfl, e1 _ _ (e2 _ _ ha), w2.lay, (pPlan _).mono nw_same hv1, fun l r H' e3 h1 h2 h3 h4 => D.give w2 ha (e2.trans e1) ((pPlan _).mono (nw_ground e2.dm) hv1) l r H' e3 h1 h2 h3 _ ⟨r, _, rfl, h4, rfl, trivial⟩⟩
            · have c6 : ¬ (lo : Int) * hd < hi * ld := of_decide_eq_false c5
              rw [if_pos (.inr (.inr (.inr (.inr (.inr (.inr (.inr (by rw [lt]; exact decide_eq_false c6))))))))] at D
              exact D.ref
          · refine if_false_of (decide_eq_false (by omega)) ⟨_, rfl, _, _, rfl, (fun c => nomatch c), fun _ => ?_⟩
            rw [if_pos (by omega)] at D
            exact D.ref
        · rw [if_pos (by omega)] at D
          exact D.ref
      · rw [if_pos (by omega)] at D
        exact D.ref
    · rw [if_pos (.inl (not_f arePair_iff c1))] at D
      exact D.ref
def IsPro (p0 p1 d a ad c l0 l1 : Nat) : Prop := ((1 ≤ (d : Int) ∧ (d : Int) ≤ 1000) ∧ (1 ≤ (p0 : Int) ∧ (p0 : Int) < p1 ∧ (p1 : Int) < d)) ∧ ((1 ≤ (ad : Int) ∧ (ad : Int) ≤ 1000) ∧ (0 ≤ (a : Int) ∧ (a : Int) ≤ ad)) ∧ (c : Int) ≤ 1000 ∧ max (l0 : Int) l1 ≤ 100000
theorem isPro_iff {p0 p1 d a ad c l0 l1 : Nat} : Kxd7.isProblem p0 p1 d a ad c l0 l1 = true ↔ IsPro p0 p1 d a ad c l0 l1 := by
  unfold Kxd7.isProblem IsPro
  simp only [Bool.and_eq_true_iff, decide_eq_true_eq, arePair_iff, isProb_iff]
  omega
def sp_problem_of (K : PySem.W.Frag) : Sp := fun vs H Q E => ∃ (a g : Addr) (p : Kxd7.Plan) (b : PB), Args K vs a g (some p) [b.p0, b.p1, b.d, b.a, b.ad, b.c, b.l0, b.l1] H ∧ b.h = p.horizon ∧
  (Kxd7.isProblem b.p0 b.p1 b.d b.a b.ad b.c b.l0 b.l1 = true → b.Ok → ∀ x H', Same H H' → Pro K b H' x → Q x H') ∧ (Kxd7.isProblem b.p0 b.p1 b.d b.a b.ad b.c b.l0 b.l1 = false → Ref K (-22) E H)
theorem sc_problem_of : FnScope ["desk", "given", "p0", "p1", "divisor", "prior", "prior_divisor", "cost", "loss0", "loss1"] ["desk", "given"] (defScope (topS 82)) := C8.fnScope_by (by decide +kernel)
theorem c_problem_of {P : Program} {w : World} {K : PySem.W.Frag} {mg : Str → Option Value} {base : Heap} (T : Txt K mg) : CalX P w K mg base 6 "problem_of" (sp_problem_of K) := by
  refine T.calX 58 64 rfl rfl sc_problem_of (fun _ _ _ _ _ _ us hl => match us, hl with | [_, _], _ => rfl) (fun vs H Q E h => ?_) (fun cdv A outer s H vs Q E hr h => ⟨_, pss_cons (ps_asg (pv 1) (pg_unl rfl (pgs_cons (pg_name (i := 2) sc_problem_of.nd rfl (Or.inl rfl)) (pgs_cons (pg_name (i := 3) sc_problem_of.nd rfl (Or.inl rfl)) (pgs_cons (pg_name (i := 4) sc_problem_of.nd rfl (Or.inl rfl)) (pgs_cons (pg_name (i := 5) sc_problem_of.nd rfl (Or.inl rfl)) (pgs_cons (pg_name (i := 6) sc_problem_of.nd rfl (Or.inl rfl)) (pgs_cons (pg_name (i := 7) sc_problem_of.nd rfl (Or.inl rfl)) (pgs_cons (pg_name (i := 8) sc_problem_of.nd rfl (Or.inl rfl)) (pgs_cons (pg_name (i := 9) sc_problem_of.nd rfl (Or.inl rfl)) pgs_nil))))))))))
      (pss_cons (ps_expr (pe_cX (c_demand_pair T) hr (by decide) rfl (passes_call (takes_of rfl rfl rfl rfl) (fun _ _ _ _ h => h)) (pa_cons (pv 2) (pa_cons (pv 3) (pa_cons (pv 4) pa_nil)))))
      (pss_cons (ps_expr (pe_cX (c_demand_share T) hr (by decide) rfl (passes_call (takes_of rfl rfl rfl rfl) (fun _ _ _ _ h => h)) (pa_cons (pv 5) (pa_cons (pv 6) pa_nil))))
      (pss_cons (ps_expr (pe_cX (c_demand T) hr (by decide) rfl (passes_call (takes_of rfl rfl rfl rfl) (fun _ _ _ _ h => h)) (pa_cons (pe_and (pe_cmp (pc_le (pv 7) (C8.pe_gc rfl (T.int 101)))) (pe_one (pe_cmp (pc_le (pe_callB (call_max2 rfl) (by rfl) (T.free 90) (by decide +kernel) (pa_cons (pv 8) (pa_cons (pv 9) pa_nil))) (C8.pe_gc rfl (T.int 102)))))) (pa_cons (pe_un un_neg pe_int) pa_nil))))
      (pss_one (ps_ret (C8.pe_mk (c_Problem_init T) hr (by decide) rfl (pa_cons (C8.pe_mt0 (c_Desk_horizon T) hr (by decide) (pv 0)) (pa_cons (pv 1) pa_nil)))))))), ?_⟩)
  · obtain ⟨a, g, p, b, ⟨rfl, _⟩, _⟩ := h
    rfl
  · obtain ⟨a, g, p, b, ⟨rfl, Dk, hg, hb⟩, hh, k1, k2⟩ := h
    obtain ⟨w, dx, l0, v, ha, hl, hv⟩ := Dk.some
    refine ⟨_, rfl, g, _, rfl, SqL.of hg, rfl, _, _, rfl, _, _, rfl, _, _, rfl, _, _, rfl, _, _, rfl, _, _, rfl, _, _, rfl, _, _, rfl, rfl, ?_⟩
    refine ⟨_, rfl, _, rfl, _, rfl, (b.p0 : Int), (b.p1 : Int), (b.d : Int), rfl, fun c1 => ?_, fun c1 => k2 (not_f isPro_iff fun q => c1 q.1)⟩
    refine ⟨_, rfl, _, rfl, (b.a : Int), (b.ad : Int), rfl, fun c2 => ?_, fun c2 => k2 (not_f isPro_iff fun q => c2 q.2.1)⟩
    refine ⟨_, rfl, _, _, rfl, rfl, _, rfl, ?_⟩
    by_cases c3 : (b.c : Int) ≤ 1000
    · refine if_true_of (decide_eq_true c3) ⟨_, rfl, _, rfl, _, _, rfl, _, _, rfl, rfl, _, rfl, _, _, rfl, fun c => ?_, fun c => k2 (not_f isPro_iff fun q => ?_)⟩
      · have c4 : (if (b.l1 : Int) > (b.l0 : Int) then (b.l1 : Int) else (b.l0 : Int)) ≤ 100000 := of_decide_eq_true c
        have o : b.Ok := ⟨by rw [hh]; exact w.h2, by omega, by omega, by omega, by omega, by omega, by omega, by omega, by omega, by omega, by omega⟩
        have c5 : IsPro b.p0 b.p1 b.d b.a b.ad b.c b.l0 b.l1 := ⟨c1, c2, c3, by omega⟩
        refine ⟨_, rfl, a, dx, _, rfl, ha, rfl, a, p, rfl, Dk, _, rfl, fun x dx2 hx hdx hne => ?_⟩
        have e1 := (same_new (o := .own x) hdx)
        have hx2 : upd H dx2 (.own x) x = none := by rw [upd_ne hne.symm]; exact hx
        have e2 := e1.trans (same_new (o := .ins (He.ga K "Problem") dx2 []) hx2)
        refine ⟨x, dx2, g, b, by rw [hh]; rfl, upd_same, e2 _ _ hg, rfl, ?_⟩
        rw [upd_upd]
        exact k1 (isPro_iff.mpr c5) o _ _ (e1.trans (same_new hx2)) ⟨x, dx2, rfl, upd_same⟩
      · have c4 : ¬ (if (b.l1 : Int) > (b.l0 : Int) then (b.l1 : Int) else (b.l0 : Int)) ≤ 100000 := of_decide_eq_false c
        have := q.2.2.2
        omega
    · exact if_false_of (decide_eq_false c3) ⟨_, rfl, _, _, rfl, (fun c => nomatch c), fun _ => k2 (not_f isPro_iff fun q => c3 q.2.2.1)⟩
end SE
/-! ## deeds: what is told -/
namespace SE
open PySem PySem.Spec PyProof.Rows L2
def sp_optimal (K : PySem.W.Frag) : Sp := fun vs H Q E => ∃ (a g : Addr) (p : Kxd7.Plan) (b : PB), Args K vs a g (some p) [b.p0, b.p1, b.d, b.a, b.ad, b.c, b.l0, b.l1] H ∧ b.h = p.horizon ∧ Done K a (some p) (Kxd7.step (some p) (.optimal b.p0 b.p1 b.d b.a b.ad b.c b.l0 b.l1)) H Q E
theorem sc_optimal : FnScope ["desk", "given"] ["desk", "given"] (defScope (topS 83)) := C8.fnScope_by (by decide +kernel)
theorem c_optimal {P : Program} {w : World} {K : PySem.W.Frag} {mg : Str → Option Value} {base : Heap} (T : Txt K mg) : CalX P w K mg base 9 "optimal" (sp_optimal K) := by
  refine T.calX 59 65 rfl rfl sc_optimal (fun _ _ _ _ _ _ us hl => match us, hl with | [_, _], _ => rfl) (fun vs H Q E h => ?_) (fun cdv A outer s H vs Q E hr h => ⟨_, pss_one (ps_ret (C8.pe_mt (c_Desk_give T) hr (by decide) (pv 0) (pa_cons (C8.pe_mt0 (c_Problem_optimal_plan T) hr (by decide) (pe_cX (c_problem_of T) hr (by decide) rfl (passes_call (takes_of rfl rfl rfl rfl) (fun _ _ _ _ h => h)) (pa_cons (pv 0) (pa_cons (pv 1) pa_nil)))) pa_nil))), ?_⟩)
  · obtain ⟨a, g, p, b, ⟨rfl, _⟩, _⟩ := h
    rfl
  · obtain ⟨a, g, p, b, ⟨rfl, Dk, hg, hb⟩, hh, D⟩ := h
    obtain ⟨w, dx, l0, v, ha, hl, hv⟩ := Dk.some
    have e : Kxd7.step (some p) (.optimal b.p0 b.p1 b.d b.a b.ad b.c b.l0 b.l1) = if Kxd7.isProblem b.p0 b.p1 b.d b.a b.ad b.c b.l0 b.l1 = false then (some p, .value (-22)) else Kxd7.put (Kxd7.optimalPlan b.K p.horizon) := rfl
    rw [e] at D
    refine ⟨_, rfl, a, dx, _, rfl, ha, rfl, _, rfl, _, rfl, a, g, p, b, ⟨rfl, Dk, hg, hb⟩, hh, fun c o x H1 e1 hx => ?_, fun c => ?_⟩
    · rw [if_neg (by rw [c]; decide), ← hh] at D
      have w2 : Wf (Kxd7.optimalPlan b.K b.h) := optimal_wf o (by rw [hh]; exact w.h1)
      obtain ⟨xa, pdx, rfl, hxa⟩ := id hx
      refine ⟨xa, pdx, _, rfl, hxa, rfl, .ref xa, b, rfl, o, hx, fun v1 H2 e2 hv1 => ?_⟩
      have e12 := e1.trans e2
      exact ⟨a, dx, l0, _, v1, rfl, e12 _ _ ha, w2.lay, (pPlan _).mono nw_same hv1, fun l r H' e3 h1 h2 h3 h4 => D.give w2 ha e12 ((pPlan _).mono (nw_ground e1.dm) hv1) l r H' e3 h1 h2 h3 _ ⟨r, _, rfl, h4, rfl, trivial⟩⟩
    · rw [if_pos c] at D
      exact D.ref
theorem told_one (x : Kxd7.Fraction) : resI (Kxd7.fractionResult x) = toldI [x] := rfl
def sp_plan_cost (K : PySem.W.Frag) : Sp := fun vs H Q E => ∃ (a g : Addr) (p : Kxd7.Plan) (b : PB), Args K vs a g (some p) [b.p0, b.p1, b.d, b.a, b.ad, b.c, b.l0, b.l1] H ∧ b.h = p.horizon ∧ Done K a (some p) (Kxd7.step (some p) (.planCost b.p0 b.p1 b.d b.a b.ad b.c b.l0 b.l1)) H Q E
theorem sc_plan_cost : FnScope ["desk", "given"] ["desk", "given"] (defScope (topS 91)) := C8.fnScope_by (by decide +kernel)
theorem c_plan_cost {P : Program} {w : World} {K : PySem.W.Frag} {mg : Str → Option Value} {base : Heap} (T : Txt K mg) : CalX P w K mg base 7 "plan_cost" (sp_plan_cost K) := by
  refine T.calX 67 73 rfl rfl sc_plan_cost (fun _ _ _ _ _ _ us hl => match us, hl with | [_, _], _ => rfl) (fun vs H Q E h => ?_) (fun cdv A outer s H vs Q E hr h => ⟨_, pss_one (ps_ret (C8.pe_c (c_told T) hr (by decide) rfl (pa_cons (pe_lst (pa_cons (C8.pe_mt (c_Problem_cost_of T) hr (by decide) (pe_cX (c_problem_of T) hr (by decide) rfl (passes_call (takes_of rfl rfl rfl rfl) (fun _ _ _ _ h => h)) (pa_cons (pv 0) (pa_cons (pv 1) pa_nil))) (pa_cons (C8.pe_mt0 (c_Desk_plan T) hr (by decide) (pv 0)) pa_nil)) pa_nil)) pa_nil))), ?_⟩)
  · obtain ⟨a, g, p, b, ⟨rfl, _⟩, _⟩ := h
    rfl
  · obtain ⟨a, g, p, b, ⟨rfl, Dk, hg, hb⟩, hh, D⟩ := h
    obtain ⟨w, dx, l0, v, ha, hl, hv⟩ := Dk.some
    have e : Kxd7.step (some p) (.planCost b.p0 b.p1 b.d b.a b.ad b.c b.l0 b.l1) = (some p, if Kxd7.isProblem b.p0 b.p1 b.d b.a b.ad b.c b.l0 b.l1 = false then .value (-22) else Kxd7.fractionResult (Kxd7.planCost b.K p)) := rfl
    rw [e] at D
    refine ⟨_, rfl, _, rfl, a, g, p, b, ⟨rfl, Dk, hg, hb⟩, hh, fun c o x H1 e1 hx => ?_, fun c => ?_⟩
    · rw [if_neg (by rw [c]; decide)] at D
      obtain ⟨xa, pdx, rfl, hxa⟩ := id hx
      have ha1 := e1 _ _ ha
      have hl1 := e1 _ _ hl
      refine ⟨xa, pdx, _, rfl, hxa, rfl, _, rfl, a, dx, _, rfl, ha1, rfl, a, dx, l0, v, rfl, ha1, hl1, .ref xa, v, b, p, rfl, o, hx, w, hh.symm, (pPlan _).mono e1 hv, fun f1 H2 e2 hf => ⟨(by show 1 ≤ sizeLine; decide), fun q hq => ?_⟩⟩
      have e3 := (e1.trans e2).trans (same_new (o := .lst [f1]) hq)
      exact ⟨q, [f1], [_], rfl, upd_same, ⟨pF_K ((pF _).mono (nw_same.trans (same_new hq)) hf), trivial⟩, (by simp), D.same.from e3⟩
    · rw [if_pos c] at D
      exact D.ref
def sp_least_cost (K : PySem.W.Frag) : Sp := fun vs H Q E => ∃ (a g : Addr) (p : Kxd7.Plan) (b : PB), Args K vs a g (some p) [b.p0, b.p1, b.d, b.a, b.ad, b.c, b.l0, b.l1] H ∧ b.h = p.horizon ∧ Done K a (some p) (Kxd7.step (some p) (.leastCost b.p0 b.p1 b.d b.a b.ad b.c b.l0 b.l1)) H Q E
theorem sc_least_cost : FnScope ["desk", "given"] ["desk", "given"] (defScope (topS 92)) := C8.fnScope_by (by decide +kernel)
theorem c_least_cost {P : Program} {w : World} {K : PySem.W.Frag} {mg : Str → Option Value} {base : Heap} (T : Txt K mg) : CalX P w K mg base 9 "least_cost" (sp_least_cost K) := by
  refine T.calX 68 74 rfl rfl sc_least_cost (fun _ _ _ _ _ _ us hl => match us, hl with | [_, _], _ => rfl) (fun vs H Q E h => ?_) (fun cdv A outer s H vs Q E hr h => ⟨_, pss_one (ps_ret (C8.pe_c (c_told T) hr (by decide) rfl (pa_cons (pe_lst (pa_cons (C8.pe_mt0 (c_Problem_least_cost T) hr (by decide) (pe_cX (c_problem_of T) hr (by decide) rfl (passes_call (takes_of rfl rfl rfl rfl) (fun _ _ _ _ h => h)) (pa_cons (pv 0) (pa_cons (pv 1) pa_nil)))) pa_nil)) pa_nil))), ?_⟩)
  · obtain ⟨a, g, p, b, ⟨rfl, _⟩, _⟩ := h
    rfl
  · obtain ⟨a, g, p, b, ⟨rfl, Dk, hg, hb⟩, hh, D⟩ := h
    obtain ⟨w, dx, l0, v, ha, hl, hv⟩ := Dk.some
    have e : Kxd7.step (some p) (.leastCost b.p0 b.p1 b.d b.a b.ad b.c b.l0 b.l1) = (some p, if Kxd7.isProblem b.p0 b.p1 b.d b.a b.ad b.c b.l0 b.l1 = false then .value (-22) else Kxd7.fractionResult (Kxd7.leastCost b.K p.horizon)) := rfl
    rw [e] at D
    refine ⟨_, rfl, _, rfl, a, g, p, b, ⟨rfl, Dk, hg, hb⟩, hh, fun c o x H1 e1 hx => ?_, fun c => ?_⟩
    · rw [if_neg (by rw [c]; decide), ← hh] at D
      obtain ⟨xa, pdx, rfl, hxa⟩ := id hx
      refine ⟨xa, pdx, _, rfl, hxa, rfl, .ref xa, b, rfl, o, hx, fun f1 H2 e2 hf => ⟨(by show 1 ≤ sizeLine; decide), fun q hq => ?_⟩⟩
      have e3 := (e1.trans e2).trans (same_new (o := .lst [f1]) hq)
      exact ⟨q, [f1], [_], rfl, upd_same, ⟨pF_K ((pF _).mono (nw_same.trans (same_new hq)) hf), trivial⟩, (by simp), D.same.from e3⟩
    · rw [if_pos c] at D
      exact D.ref
def sp_told_acceptance (K : PySem.W.Frag) : Sp := fun vs H Q E => ∃ (a g : Addr) (p : Kxd7.Plan) (x d : Nat), Args K vs a g (some p) [x, d] H ∧ Done K a (some p) (Kxd7.step (some p) (.acceptance x d)) H Q E
theorem sc_told_acceptance : FnScope ["desk", "given"] ["desk", "given"] (defScope (topS 87)) := C8.fnScope_by (by decide +kernel)
theorem c_told_acceptance {P : Program} {w : World} {K : PySem.W.Frag} {mg : Str → Option Value} {base : Heap} (T : Txt K mg) : CalX P w K mg base 6 "told_acceptance" (sp_told_acceptance K) := by
  refine T.calX 63 69 rfl rfl sc_told_acceptance (fun _ _ _ _ _ _ us hl => match us, hl with | [_, _], _ => rfl) (fun vs H Q E h => ?_) (fun cdv A outer s H vs Q E hr h => ⟨_, pss_cons (ps_expr (pe_cX (c_demand_share T) hr (by decide) rfl (passes_call (takes_of rfl rfl rfl rfl) (fun _ _ _ _ h => h)) (pa_cons (pe_ix ix_list (pv 1) pe_int (fun _ _ => rfl)) (pa_cons (pe_ix ix_list (pv 1) pe_int (fun _ _ => rfl)) pa_nil))))
      (pss_one (ps_ret (C8.pe_c (c_told T) hr (by decide) rfl (pa_cons (pe_lst (pa_cons (C8.pe_c (c_acceptance T) hr (by decide) rfl (pa_cons (C8.pe_mt0 (c_Desk_plan T) hr (by decide) (pv 0)) (pa_cons (pe_ix ix_list (pv 1) pe_int (fun _ _ => rfl)) (pa_cons (pe_ix ix_list (pv 1) pe_int (fun _ _ => rfl)) pa_nil)))) pa_nil)) pa_nil)))), ?_⟩)
  · obtain ⟨a, g, p, x, d, ⟨rfl, _⟩, _⟩ := h
    rfl
  · obtain ⟨a, g, p, x, d, ⟨rfl, Dk, hg, hb⟩, D⟩ := h
    obtain ⟨w, dx, l0, v, ha, hl, hv⟩ := Dk.some
    have e : Kxd7.step (some p) (.acceptance x d) = (some p, if Kxd7.isProbability x d = false then .value (-22) else Kxd7.fractionResult (Kxd7.acceptance p (Kxd7.share x d))) := rfl
    rw [e] at D
    refine ⟨_, rfl, g, _, 0, _, rfl, rfl, SqL.of hg, rfl, _, rfl, g, _, 1, _, rfl, rfl, SqL.of hg, rfl, (x : Int), (d : Int), rfl, fun c => ?_, fun c => ?_⟩
    · rw [if_neg (by rw [isProb_iff.mpr c]; decide)] at D
      refine ⟨_, rfl, a, dx, _, rfl, ha, rfl, a, dx, l0, v, rfl, ha, hl, _, rfl, g, _, 0, _, rfl, rfl, SqL.of hg, rfl, _, rfl, g, _, 1, _, rfl, rfl, SqL.of hg, rfl, v, p, x, d, rfl, w.lay, hv, share_of c, fun f1 H1 e1 hf => ⟨(by show 1 ≤ sizeLine; decide), fun q hq => ?_⟩⟩
      have e3 := e1.trans (same_new (o := .lst [f1]) hq)
      exact ⟨q, [f1], [_], rfl, upd_same, ⟨pF_K ((pF _).mono (nw_same.trans (same_new hq)) hf), trivial⟩, (by simp), D.same.from e3⟩
    · rw [if_pos (not_f isProb_iff c)] at D
      exact D.ref
def sp_told_size (K : PySem.W.Frag) : Sp := fun vs H Q E => ∃ (a g : Addr) (p : Kxd7.Plan) (x d : Nat), Args K vs a g (some p) [x, d] H ∧ Done K a (some p) (Kxd7.step (some p) (.expectedSize x d)) H Q E
theorem sc_told_size : FnScope ["desk", "given"] ["desk", "given"] (defScope (topS 88)) := C8.fnScope_by (by decide +kernel)
theorem c_told_size {P : Program} {w : World} {K : PySem.W.Frag} {mg : Str → Option Value} {base : Heap} (T : Txt K mg) : CalX P w K mg base 6 "told_size" (sp_told_size K) := by
  refine T.calX 64 70 rfl rfl sc_told_size (fun _ _ _ _ _ _ us hl => match us, hl with | [_, _], _ => rfl) (fun vs H Q E h => ?_) (fun cdv A outer s H vs Q E hr h => ⟨_, pss_cons (ps_expr (pe_cX (c_demand_share T) hr (by decide) rfl (passes_call (takes_of rfl rfl rfl rfl) (fun _ _ _ _ h => h)) (pa_cons (pe_ix ix_list (pv 1) pe_int (fun _ _ => rfl)) (pa_cons (pe_ix ix_list (pv 1) pe_int (fun _ _ => rfl)) pa_nil))))
      (pss_one (ps_ret (C8.pe_c (c_told T) hr (by decide) rfl (pa_cons (pe_lst (pa_cons (C8.pe_c (c_expected_size T) hr (by decide) rfl (pa_cons (C8.pe_mt0 (c_Desk_plan T) hr (by decide) (pv 0)) (pa_cons (pe_ix ix_list (pv 1) pe_int (fun _ _ => rfl)) (pa_cons (pe_ix ix_list (pv 1) pe_int (fun _ _ => rfl)) pa_nil)))) pa_nil)) pa_nil)))), ?_⟩)
  · obtain ⟨a, g, p, x, d, ⟨rfl, _⟩, _⟩ := h
    rfl
  · obtain ⟨a, g, p, x, d, ⟨rfl, Dk, hg, hb⟩, D⟩ := h
    obtain ⟨w, dx, l0, v, ha, hl, hv⟩ := Dk.some
    have e : Kxd7.step (some p) (.expectedSize x d) = (some p, if Kxd7.isProbability x d = false then .value (-22) else Kxd7.fractionResult (Kxd7.expectedSize p (Kxd7.share x d))) := rfl
    rw [e] at D
    refine ⟨_, rfl, g, _, 0, _, rfl, rfl, SqL.of hg, rfl, _, rfl, g, _, 1, _, rfl, rfl, SqL.of hg, rfl, (x : Int), (d : Int), rfl, fun c => ?_, fun c => ?_⟩
    · rw [if_neg (by rw [isProb_iff.mpr c]; decide)] at D
      refine ⟨_, rfl, a, dx, _, rfl, ha, rfl, a, dx, l0, v, rfl, ha, hl, _, rfl, g, _, 0, _, rfl, rfl, SqL.of hg, rfl, _, rfl, g, _, 1, _, rfl, rfl, SqL.of hg, rfl, v, p, x, d, rfl, w.lay, hv, share_of c, fun f1 H1 e1 hf => ⟨(by show 1 ≤ sizeLine; decide), fun q hq => ?_⟩⟩
      have e3 := e1.trans (same_new (o := .lst [f1]) hq)
      exact ⟨q, [f1], [_], rfl, upd_same, ⟨pF_K ((pF _).mono (nw_same.trans (same_new hq)) hf), trivial⟩, (by simp), D.same.from e3⟩
    · rw [if_pos (not_f isProb_iff c)] at D
      exact D.ref
def sp_told_stop (K : PySem.W.Frag) : Sp := fun vs H Q E => ∃ (a g : Addr) (p : Kxd7.Plan) (x d n : Nat), Args K vs a g (some p) [x, d, n] H ∧ Done K a (some p) (Kxd7.step (some p) (.stopProbability x d n)) H Q E
theorem sc_told_stop : FnScope ["desk", "given", "p", "divisor", "n"] ["desk", "given"] (defScope (topS 89)) := C8.fnScope_by (by decide +kernel)
theorem c_told_stop {P : Program} {w : World} {K : PySem.W.Frag} {mg : Str → Option Value} {base : Heap} (T : Txt K mg) : CalX P w K mg base 6 "told_stop" (sp_told_stop K) := by
  refine T.calX 65 71 rfl rfl sc_told_stop (fun _ _ _ _ _ _ us hl => match us, hl with | [_, _], _ => rfl) (fun vs H Q E h => ?_) (fun cdv A outer s H vs Q E hr h => ⟨_, pss_cons (ps_asg (pv 1) (pg_unl rfl (pgs_cons (pg_name (i := 2) sc_told_stop.nd rfl (Or.inl rfl)) (pgs_cons (pg_name (i := 3) sc_told_stop.nd rfl (Or.inl rfl)) (pgs_cons (pg_name (i := 4) sc_told_stop.nd rfl (Or.inl rfl)) pgs_nil)))))
      (pss_cons (ps_expr (pe_cX (c_demand_share T) hr (by decide) rfl (passes_call (takes_of rfl rfl rfl rfl) (fun _ _ _ _ h => h)) (pa_cons (pv 2) (pa_cons (pv 3) pa_nil))))
      (pss_cons (ps_expr (pe_cX (c_demand T) hr (by decide) rfl (passes_call (takes_of rfl rfl rfl rfl) (fun _ _ _ _ h => h)) (pa_cons (pe_cmp (pc_le (pv 4) (C8.pe_mt0 (c_Desk_horizon T) hr (by decide) (pv 0)))) (pa_cons (pe_un un_neg pe_int) pa_nil))))
      (pss_one (ps_ret (C8.pe_c (c_told T) hr (by decide) rfl (pa_cons (pe_lst (pa_cons (C8.pe_c (c_stop_probability T) hr (by decide) rfl (pa_cons (C8.pe_mt0 (c_Desk_plan T) hr (by decide) (pv 0)) (pa_cons (pv 2) (pa_cons (pv 3) (pa_cons (pv 4) pa_nil))))) pa_nil)) pa_nil)))))), ?_⟩)
  · obtain ⟨a, g, p, x, d, n, ⟨rfl, _⟩, _⟩ := h
    rfl
  · obtain ⟨a, g, p, x, d, n, ⟨rfl, Dk, hg, hb⟩, D⟩ := h
    obtain ⟨w, dx, l0, v, ha, hl, hv⟩ := Dk.some
    have e : Kxd7.step (some p) (.stopProbability x d n) = (some p, if Kxd7.isProbability x d = false then .value (-22) else if p.horizon < n then .value (-2) else Kxd7.fractionResult (Kxd7.stopProbability p (Kxd7.share x d) n)) := rfl
    rw [e] at D
    refine ⟨_, rfl, g, _, rfl, SqL.of hg, rfl, _, _, rfl, _, _, rfl, _, _, rfl, rfl, ?_⟩
    refine ⟨_, rfl, _, rfl, (x : Int), (d : Int), rfl, fun c => ?_, fun c => ?_⟩
    · rw [if_neg (by rw [isProb_iff.mpr c]; decide)] at D
      refine ⟨_, rfl, _, rfl, a, dx, _, rfl, ha, rfl, a, p, rfl, Dk, _, _, rfl, rfl, _, rfl, _, _, rfl, fun c2 => ?_, fun c2 => ?_⟩
      · have c3 : n ≤ p.horizon := by have := of_decide_eq_true c2; omega
        rw [if_neg (by omega)] at D
        refine ⟨_, rfl, a, dx, _, rfl, ha, rfl, a, dx, l0, v, rfl, ha, hl, _, rfl, _, rfl, _, rfl, v, p, x, d, n, rfl, w.lay, hv, share_of c, fun f1 H1 e1 hf => ⟨(by show 1 ≤ sizeLine; decide), fun q hq => ?_⟩⟩
        have e3 := e1.trans (same_new (o := .lst [f1]) hq)
        exact ⟨q, [f1], [_], rfl, upd_same, ⟨pF_K ((pF _).mono (nw_same.trans (same_new hq)) hf), trivial⟩, (by simp), D.same.from e3⟩
      · have c3 : ¬ n ≤ p.horizon := by have := of_decide_eq_false c2; omega
        rw [if_pos (by omega)] at D
        exact D.ref
    · rw [if_pos (not_f isProb_iff c)] at D
      exact D.ref
def sp_errors (K : PySem.W.Frag) : Sp := fun vs H Q E => ∃ (a g : Addr) (p : Kxd7.Plan) (p0 p1 d : Nat), Args K vs a g (some p) [p0, p1, d] H ∧ Done K a (some p) (Kxd7.step (some p) (.errors p0 p1 d)) H Q E
theorem sc_errors : FnScope ["desk", "given", "p0", "p1", "divisor"] ["desk", "given"] (defScope (topS 90)) := C8.fnScope_by (by decide +kernel)
theorem c_errors {P : Program} {w : World} {K : PySem.W.Frag} {mg : Str → Option Value} {base : Heap} (T : Txt K mg) : CalX P w K mg base 7 "errors" (sp_errors K) := by
  refine T.calX 66 72 rfl rfl sc_errors (fun _ _ _ _ _ _ us hl => match us, hl with | [_, _], _ => rfl) (fun vs H Q E h => ?_) (fun cdv A outer s H vs Q E hr h => ⟨_, pss_cons (ps_asg (pv 1) (pg_unl rfl (pgs_cons (pg_name (i := 2) sc_errors.nd rfl (Or.inl rfl)) (pgs_cons (pg_name (i := 3) sc_errors.nd rfl (Or.inl rfl)) (pgs_cons (pg_name (i := 4) sc_errors.nd rfl (Or.inl rfl)) pgs_nil)))))
      (pss_cons (ps_expr (pe_cX (c_demand_pair T) hr (by decide) rfl (passes_call (takes_of rfl rfl rfl rfl) (fun _ _ _ _ h => h)) (pa_cons (pv 2) (pa_cons (pv 3) (pa_cons (pv 4) pa_nil)))))
      (pss_one (ps_ret (C8.pe_c (c_told T) hr (by decide) rfl (pa_cons (pe_lst (pa_cons (C8.pe_c (c_rejection T) hr (by decide) rfl (pa_cons (C8.pe_mt0 (c_Desk_plan T) hr (by decide) (pv 0)) (pa_cons (pv 2) (pa_cons (pv 4) pa_nil)))) (pa_cons (C8.pe_c (c_acceptance T) hr (by decide) rfl (pa_cons (C8.pe_mt0 (c_Desk_plan T) hr (by decide) (pv 0)) (pa_cons (pv 3) (pa_cons (pv 4) pa_nil)))) pa_nil))) pa_nil))))), ?_⟩)
  · obtain ⟨a, g, p, p0, p1, d, ⟨rfl, _⟩, _⟩ := h
    rfl
  · obtain ⟨a, g, p, p0, p1, d, ⟨rfl, Dk, hg, hb⟩, D⟩ := h
    obtain ⟨w, dx, l0, v, ha, hl, hv⟩ := Dk.some
    have e : Kxd7.step (some p) (.errors p0 p1 d) = (some p, if Kxd7.arePair p0 p1 d = false then .value (-22) else .values 0 (Kxd7.fields (Kxd7.minus (Kxd7.ofInt 1) (Kxd7.acceptance p (Kxd7.share p0 d))) ++ Kxd7.fields (Kxd7.acceptance p (Kxd7.share p1 d)))) := rfl
    rw [e] at D
    refine ⟨_, rfl, g, _, rfl, SqL.of hg, rfl, _, _, rfl, _, _, rfl, _, _, rfl, rfl, ?_⟩
    refine ⟨_, rfl, _, rfl, _, rfl, (p0 : Int), (p1 : Int), (d : Int), rfl, fun c => ?_, fun c => ?_⟩
    · rw [if_neg (by rw [arePair_iff.mpr c]; decide)] at D
      refine ⟨_, rfl, a, dx, _, rfl, ha, rfl, a, dx, l0, v, rfl, ha, hl, _, rfl, _, rfl, v, p, p0, d, rfl, w, hv, ⟨by omega, by omega, by omega⟩, fun f1 H1 e1 hf => ?_⟩
      have ha1 := e1 _ _ ha
      have hl1 := e1 _ _ hl
      refine ⟨_, rfl, a, dx, _, rfl, ha1, rfl, a, dx, l0, v, rfl, ha1, hl1, _, rfl, _, rfl, v, p, p1, d, rfl, w.lay, (pPlan _).mono e1 hv, ⟨by omega, by omega, by omega⟩, fun f2 H2 e2 hf2 => ⟨(by show 2 ≤ sizeLine; decide), fun q hq => ?_⟩⟩
      have e3 := (e1.trans e2).trans (same_new (o := .lst [f1, f2]) hq)
      exact ⟨q, [f1, f2], [_, _], rfl, upd_same, ⟨pF_K ((pF _).mono (nw_same.trans (e2.trans (same_new hq))) hf), pF_K ((pF _).mono (nw_same.trans (same_new hq)) hf2), trivial⟩, (by simp), D.same.from e3⟩
    · rw [if_pos (not_f arePair_iff c)] at D
      exact D.ref
end SE
/-! ## deeds: estimates, counts, the best two-stage plan, two treatments -/
namespace SE
open PySem PySem.Spec PyProof.Rows L2
theorem luckyRows_len (p : Kxd7.Plan) : (luckyRows p).length = p.horizon + 1 := by simp [luckyRows]
theorem lucky_getD (p : Kxd7.Plan) {n : Nat} (h1 : 1 ≤ n) (h : n ≤ p.horizon) : (luckyRows p).getD n [] = Kxd7.pathsFromSuccessRow p n := by
  obtain ⟨m, rfl⟩ : ∃ m, n = m + 1 := ⟨n - 1, by omega⟩
  unfold luckyRows
  rw [List.getD_eq_getElem?_getD, List.getElem?_cons_succ, List.getElem?_map, List.getElem?_range (by omega)]
  rfl
theorem lucky_len (p : Kxd7.Plan) : ∀ n, (Kxd7.pathsFromSuccessRow p (n + 1)).length = n + 2
  | 0 => by
    show (if Kxd7.decision p 0 0 = 0 then [0, 1] else [0, 0]).length = 2
    split <;> rfl
  | n + 1 => by
    show (List.zipWith _ _ _).length = _
    simp [lucky_len p n]
def sp_unbiased (K : PySem.W.Frag) : Sp := fun vs H Q E => ∃ (a g : Addr) (p : Kxd7.Plan) (n s : Nat), Args K vs a g (some p) [n, s] H ∧ Done K a (some p) (Kxd7.step (some p) (.unbiased n s)) H Q E
theorem sc_unbiased : FnScope ["desk", "given", "n", "s", "plan"] ["desk", "given"] (defScope (topS 93)) := C8.fnScope_by (by decide +kernel)
theorem c_unbiased {P : Program} {w : World} {K : PySem.W.Frag} {mg : Str → Option Value} {base : Heap} (T : Txt K mg) : CalX P w K mg base 5 "unbiased" (sp_unbiased K) := by
  refine T.calX 69 75 rfl rfl sc_unbiased (fun _ _ _ _ _ _ us hl => match us, hl with | [_, _], _ => rfl) (fun vs H Q E h => ?_) (fun cdv A outer s H vs Q E hr h => ⟨_, pss_cons (ps_asg (pv 1) (pg_unl rfl (pgs_cons (pg_name (i := 2) sc_unbiased.nd rfl (Or.inl rfl)) (pgs_cons (pg_name (i := 3) sc_unbiased.nd rfl (Or.inl rfl)) pgs_nil))))
      (pss_cons (ps_set (i := 4) sc_unbiased.nd rfl (Or.inl rfl) (C8.pe_mt0 (c_Desk_plan T) hr (by decide) (pv 0)))
      (pss_cons (ps_expr (pe_cX (c_demand T) hr (by decide) rfl (passes_call (takes_of rfl rfl rfl rfl) (fun _ _ _ _ h => h)) (pa_cons (C8.pe_c (c_has_point T) hr (by decide) rfl (pa_cons (pv 4) (pa_cons (pv 2) (pa_cons (pv 3) pa_nil)))) (pa_cons (pe_un un_neg pe_int) pa_nil))))
      (pss_cons (ps_expr (pe_cX (c_demand T) hr (by decide) rfl (passes_call (takes_of rfl rfl rfl rfl) (fun _ _ _ _ h => h)) (pa_cons (pe_and (pe_cmp (pc_gt (pv 2) pe_int)) (pe_one (C8.pe_c (c_is_stop T) hr (by decide) rfl (pa_cons (pv 4) (pa_cons (pv 2) (pa_cons (pv 3) pa_nil)))))) (pa_cons (pe_un un_neg pe_int) pa_nil))))
      (pss_one (ps_ret (C8.pe_c (c_told T) hr (by decide) rfl (pa_cons (pe_lst (pa_cons (C8.pe_c (c_ratio T) hr (by decide) rfl (pa_cons (pe_ix ix_list (pe_ix ix_list (C8.pe_c (c_lucky_ways T) hr (by decide) rfl (pa_cons (pv 4) pa_nil)) (pv 2) (fun _ _ => rfl)) (pv 3) (fun _ _ => rfl)) (pa_cons (pe_ix ix_list (pe_ix ix_list (C8.pe_c (c_all_ways T) hr (by decide) rfl (pa_cons (pv 4) pa_nil)) (pv 2) (fun _ _ => rfl)) (pv 3) (fun _ _ => rfl)) pa_nil))) pa_nil)) pa_nil))))))), ?_⟩)
  · obtain ⟨a, g, p, n, s, ⟨rfl, _⟩, _⟩ := h
    rfl
  · obtain ⟨a, g, p, n, s, ⟨rfl, Dk, hg, hb⟩, D⟩ := h
    obtain ⟨w, dx, l0, v, ha, hl, hv⟩ := Dk.some
    have e : Kxd7.step (some p) (.unbiased n s) = (some p, if Kxd7.isPoint p n s = false then .value (-2) else if Kxd7.decision p n s = 0 ∨ Kxd7.paths p n s = 0 ∨ n = 0 then .value (-33) else Kxd7.fractionResult (Kxd7.unbiased p n s)) := rfl
    rw [e] at D
    have h20 := w.h2
    refine ⟨_, rfl, g, _, rfl, SqL.of hg, rfl, _, _, rfl, _, _, rfl, rfl, ?_⟩
    refine ⟨_, rfl, a, dx, _, rfl, ha, rfl, a, dx, l0, v, rfl, ha, hl, ?_⟩
    refine ⟨_, rfl, _, rfl, _, rfl, v, p, n, s, rfl, w.len, hv, _, rfl, _, _, rfl, fun c => ?_, fun c => ?_⟩
    · rw [if_neg (by rw [c]; decide)] at D
      obtain ⟨c1, c2⟩ := isPoint_iff.mp c
      refine ⟨_, rfl, _, _, rfl, rfl, _, rfl, ?_⟩
      by_cases c3 : 0 < n
      · refine if_true_of (decide_eq_true (by omega)) ⟨_, rfl, _, rfl, _, rfl, v, p, n, s, rfl, w.lay, hv, c1, c2, fun H1 e1 => ?_⟩
        refine ⟨_, rfl, _, _, rfl, fun c4 => ?_, fun c4 => ?_⟩
        · have c5 : Kxd7.decision p n s ≠ 0 ∧ Kxd7.paths p n s ≠ 0 := by simpa using c4
          rw [if_neg (by rintro (z | z | z); exact c5.1 z; exact c5.2 z; omega)] at D
          have hv1 := (pPlan p.table).mono e1 hv
          refine ⟨_, rfl, v, p, rfl, w.lay, w.h1, hv1, fun lv H2 e2 hlv => ?_⟩
          obtain ⟨b0, rows, rfl, hr0, hrows⟩ := (pPlan (luckyRows p)).mono nw_same hlv
          obtain ⟨m, rfl⟩ : ∃ m, n = m + 1 := ⟨n - 1, by omega⟩
          obtain ⟨b, row, g1, g2, g3⟩ := rows_ix hrows (n := m + 1) (s := s) (by rw [luckyRows_len]; omega) (by rw [lucky_getD p (by omega) c1, lucky_len]; omega)
          rw [lucky_getD p (by omega) c1] at g3
          refine ⟨_, rfl, b0, _, _, _, rfl, rfl, SqL.of hr0, g1, _, rfl, b, _, _, _, rfl, rfl, SqL.of g2, g3, ?_⟩
          refine ⟨_, rfl, v, p, rfl, w.lay, (pPlan _).mono e2 hv1, fun wv H3 e3 hw => ?_⟩
          obtain ⟨q0, rows2, rfl, hq0, hrows2⟩ := (pPlan (pathRows p)).mono nw_same hw
          obtain ⟨b2, row2, k1, k2, k3⟩ := rows_ix hrows2 (n := m + 1) (s := s) (by rw [pathRows_len]; omega) (by rw [pathRows_getD p c1, pathRow_len]; omega)
          rw [pathRows_getD p c1] at k3
          have pos : 0 < (Kxd7.pathRow p (m + 1)).getD s 0 := Nat.pos_of_ne_zero c5.2
          have plt : Lt2 8000 (((Kxd7.pathRow p (m + 1)).getD s 0 : Nat) : Int) := (paths_lt p (n := m + 1) s (by omega)).mono (by decide)
          refine ⟨_, rfl, q0, _, _, _, rfl, rfl, SqL.of hq0, k1, _, rfl, b2, _, _, _, rfl, rfl, SqL.of k2, k3, _, _, rfl, by omega, by omega, plt, fun f1 H4 e4 hf => ⟨(by show 1 ≤ sizeLine; decide), fun z hz => ?_⟩⟩
          have e5 := (((e1.trans e2).trans e3).trans e4).trans (same_new (o := .lst [f1]) hz)
          exact ⟨z, [f1], [_], rfl, upd_same, ⟨pF_K ((pF _).mono (nw_same.trans (same_new hz)) hf), trivial⟩, (by simp), D.same.from e5⟩
        · have c5 : ¬ (Kxd7.decision p n s ≠ 0 ∧ Kxd7.paths p n s ≠ 0) := fun q => by simp [q.1, q.2] at c4
          rw [if_pos (by
            by_cases z : Kxd7.decision p n s = 0
            · exact .inl z
            · exact .inr (.inl (by
                by_cases z2 : Kxd7.paths p n s = 0
                · exact z2
                · exact absurd ⟨z, z2⟩ c5)))] at D
          exact D.ref.from e1
      · refine if_false_of (decide_eq_false (by omega)) ⟨_, rfl, _, _, rfl, (fun c => nomatch c), fun _ => ?_⟩
        rw [if_pos (.inr (.inr (by omega)))] at D
        exact D.ref
    · rw [if_pos c] at D
      exact D.ref
def sp_stop_count (K : PySem.W.Frag) : Sp := fun vs H Q E => ∃ (a g : Addr) (p : Kxd7.Plan), Args K vs a g (some p) [] H ∧ Done K a (some p) (Kxd7.step (some p) .stopCount) H Q E
theorem count_nat (l : List (Nat × Nat)) (f : Nat × Nat → Nat) (k : Nat) : (l.map fun z => ((f z : Nat) : Int)).count (k : Int) = l.countP fun z => f z == k := by
  induction l with
  | nil => rfl
  | cons z l ih =>
    rw [List.map_cons, List.count_cons, List.countP_cons, ih]
    by_cases h : f z = k
    · rw [if_pos (by simp [h]), if_pos (by simp [h])]
    · rw [if_neg (by simp; omega), if_neg (by simp [h])]
theorem sc_stop_count : FnScope ["desk", "given", "decisions", "n", "s", "many", "decision"] ["desk", "given"] (defScope (topS 86)) := C8.fnScope_by (by decide +kernel)
theorem c_stop_count {P : Program} {w : World} {K : PySem.W.Frag} {mg : Str → Option Value} {base : Heap} (T : Txt K mg) : CalX P w K mg base 5 "stop_count" (sp_stop_count K) := by
  refine T.calX 62 68 rfl rfl sc_stop_count (fun _ _ _ _ _ _ us hl => match us, hl with | [_, _], _ => rfl) (fun vs H Q E h => ?_) (fun cdv A outer s H vs Q E hr h => ⟨_, pss_cons (ps_setLc (i := 2) (own := [("n", 3), ("s", 4), ("many", 5), ("decision", 6)]) (g := gTup K 4 (gCons (gName 3) (gCons (gName 4) (gCons (gName 5) (gCons (gName 6) gNil))))) rfl sc_stop_count.nd rfl rfl (sw_true rfl rfl rfl (by decide +kernel)) (pi_list (C8.pe_c (c_stops_of T) hr (by decide) rfl (pa_cons (C8.pe_mt0 (c_Desk_plan T) hr (by decide) (pv 0)) pa_nil))) (blkOk_by (N := ["desk", "given", "decisions", "n", "s", "many", "decision"]) (sc := defScope (topS 86)) (by decide +kernel)) (fun _ _ _ _ _ => by exact pg_tup rfl (pgs_cons (pg_name (i := 3) sc_stop_count.nd rfl (Or.inl rfl)) (pgs_cons (pg_name (i := 4) sc_stop_count.nd rfl (Or.inl rfl)) (pgs_cons (pg_name (i := 5) sc_stop_count.nd rfl (Or.inl rfl)) (pgs_cons (pg_name (i := 6) sc_stop_count.nd rfl (Or.inl rfl)) pgs_nil))))) (fun _ _ _ _ _ => pts_nil) (fun _ _ _ _ _ => by exact pv 6))
      (pss_one (ps_ret (pe_lst (pa_cons (pe_callB call_len_seq (by rfl) (T.free 83) PySem.boot_len (pa_cons (pv 2) pa_nil)) (pa_cons (pe_bm PySem.F.plainAttrs_list PySem.F.slot_list_count PySem.F.type_list_count mt_lcount (pv 2) (pa_cons (C8.pe_gc rfl (T.int 95)) pa_nil)) (pa_cons (pe_bm PySem.F.plainAttrs_list PySem.F.slot_list_count PySem.F.type_list_count mt_lcount (pv 2) (pa_cons (C8.pe_gc rfl (T.int 96)) pa_nil)) pa_nil)))))), ?_⟩)
  · obtain ⟨a, g, p, ⟨rfl, _⟩, _⟩ := h
    rfl
  · obtain ⟨a, g, p, ⟨rfl, Dk, hg, hb⟩, D⟩ := h
    obtain ⟨w, dx, l0, v, ha, hl, hv⟩ := Dk.some
    have hsl := stops_len w.h2
    have e : Kxd7.step (some p) .stopCount = (some p, .values (Kxd7.stops p).length [((Kxd7.stops p).countP fun z => Kxd7.decision p z.1 z.2 == 1 : Nat), ((Kxd7.stops p).countP fun z => Kxd7.decision p z.1 z.2 == 2 : Nat)]) := rfl
    rw [e] at D
    refine ⟨_, rfl, a, dx, _, rfl, ha, rfl, a, dx, l0, v, rfl, ha, hl, v, p, rfl, w.lay, hv, fun sv H1 e1 hsv => ?_⟩
    obtain ⟨b, us, rfl, hbs, hus⟩ := (pStops p).mono nw_same hsv
    have hul : us.length = (Kxd7.stops p).length := by rw [hus.len, List.length_map]
    refine ⟨b, rfl, ⟨us, SqL.of hbs⟩, ?_⟩
    refine lc_ints (walk_list (K := K) (a := b) (xs := us)) (fun i => ((Kxd7.decision p ((Kxd7.stops p).getD i default).1 ((Kxd7.stops p).getD i default).2 : Nat) : Int)) [some (.ref a), some (.ref g), none, none, none, none, none] (by omega) rfl (fun H' e => SqL.of (e _ _ hbs)) ?_ ?_
    · rintro i x Hb H' Q' hi e ⟨rfl, hx⟩ q
      obtain ⟨z, hz, t, rfl, ht⟩ := stops_item hus hx
      have ez : (Kxd7.stops p).getD i default = z := by rw [List.getD_eq_getElem?_getD, hz]; rfl
      rw [ez] at q
      exact ⟨t, _, rfl, SqT.of (e _ _ ht), rfl, _, _, rfl, _, _, rfl, _, _, rfl, _, _, rfl, rfl, rfl, _, rfl, q _ (Same.refl _)⟩
    · rintro c H2 e2 ⟨c', ws, ec, hc, hws⟩
      cases ec
      rw [hul, map_getD (fun z : Nat × Nat => ((Kxd7.decision p z.1 z.2 : Nat) : Int))] at hws
      rw [ints_all hws] at hc
      have hc2 := (of_nw hc).2
      refine ⟨_, rfl, c, _, rfl, .inl (SqL.of hc2), _, rfl, .inl ⟨rfl, _, SqL.of hc2⟩, c, _, 1, rfl, rfl, SqL.of hc2, _, rfl, .inl ⟨rfl, _, SqL.of hc2⟩, c, _, 2, rfl, rfl, SqL.of hc2, (by show 3 ≤ sizeLine; decide), fun r hr => ?_⟩
      refine D.same _ _ ((e1.trans e2).trans (same_new hr)) (new_ints (e1.trans e2) hr ?_)
      show [V.int _, V.int _, V.int _] = [V.int _, V.int _, V.int _]
      rw [List.length_map, List.length_map]
      have q1 := count_nat (Kxd7.stops p) (fun z => Kxd7.decision p z.1 z.2) 1
      have q2 := count_nat (Kxd7.stops p) (fun z => Kxd7.decision p z.1 z.2) 2
      rw [show ((1 : Nat) : Int) = 1 from rfl] at q1
      rw [show ((2 : Nat) : Int) = 2 from rfl] at q2
      rw [q1, q2]
end SE
/-! ## deeds: the best two-stage plan, two treatments -/
namespace SE
open PySem PySem.Spec PyProof.Rows L2
def sp_best_two_stage (K : PySem.W.Frag) : Sp := fun vs H Q E => ∃ (a g : Addr) (p : Kxd7.Plan) (p0 p1 d al ad be bd m : Nat), Args K vs a g (some p) [p0, p1, d, al, ad, be, bd, m] H ∧ Done K a (some p) (Kxd7.step (some p) (.bestTwoStage p0 p1 d al ad be bd m)) H Q E
theorem stg_list {z : Z4} {H : Hp} {v : V} (h : (stgP z).p H v) : ∃ t, v = .ref t ∧ H t = some (.tup [nV z.1, nV z.2.1, nV z.2.2.1, nV z.2.2.2]) := pT4_at h
theorem sc_best_two_stage : FnScope ["desk", "given", "p0", "p1", "divisor", "alpha", "alpha_divisor", "beta", "beta_divisor", "most", "found"] ["desk", "given"] (defScope (topS 94)) := C8.fnScope_by (by decide +kernel)
theorem c_best_two_stage {P : Program} {w : World} {K : PySem.W.Frag} {mg : Str → Option Value} {base : Heap} (T : Txt K mg) : CalX P w K mg base 8 "best_two_stage" (sp_best_two_stage K) := by
  refine T.calX 70 76 rfl rfl sc_best_two_stage (fun _ _ _ _ _ _ us hl => match us, hl with | [_, _], _ => rfl) (fun vs H Q E h => ?_) (fun cdv A outer s H vs Q E hr h => ⟨_, pss_cons (ps_asg (pv 1) (pg_unl rfl (pgs_cons (pg_name (i := 2) sc_best_two_stage.nd rfl (Or.inl rfl)) (pgs_cons (pg_name (i := 3) sc_best_two_stage.nd rfl (Or.inl rfl)) (pgs_cons (pg_name (i := 4) sc_best_two_stage.nd rfl (Or.inl rfl)) (pgs_cons (pg_name (i := 5) sc_best_two_stage.nd rfl (Or.inl rfl)) (pgs_cons (pg_name (i := 6) sc_best_two_stage.nd rfl (Or.inl rfl)) (pgs_cons (pg_name (i := 7) sc_best_two_stage.nd rfl (Or.inl rfl)) (pgs_cons (pg_name (i := 8) sc_best_two_stage.nd rfl (Or.inl rfl)) (pgs_cons (pg_name (i := 9) sc_best_two_stage.nd rfl (Or.inl rfl)) pgs_nil))))))))))
      (pss_cons (ps_expr (pe_cX (c_demand_pair T) hr (by decide) rfl (passes_call (takes_of rfl rfl rfl rfl) (fun _ _ _ _ h => h)) (pa_cons (pv 2) (pa_cons (pv 3) (pa_cons (pv 4) pa_nil)))))
      (pss_cons (ps_expr (pe_cX (c_demand_share T) hr (by decide) rfl (passes_call (takes_of rfl rfl rfl rfl) (fun _ _ _ _ h => h)) (pa_cons (pv 5) (pa_cons (pv 6) pa_nil))))
      (pss_cons (ps_expr (pe_cX (c_demand_share T) hr (by decide) rfl (passes_call (takes_of rfl rfl rfl rfl) (fun _ _ _ _ h => h)) (pa_cons (pv 7) (pa_cons (pv 8) pa_nil))))
      (pss_cons (ps_expr (pe_cX (c_demand_between T) hr (by decide) rfl (passes_call (takes_of rfl rfl rfl rfl) (fun _ _ _ _ h => h)) (pa_cons (pv 9) (pa_cons pe_int (pa_cons pe_int pa_nil)))))
      (pss_cons (ps_set (i := 10) sc_best_two_stage.nd rfl (Or.inl rfl) (C8.pe_c (c_best_stages T) hr (by decide) rfl (pa_cons (pe_tup (pa_cons (pv 2) (pa_cons (pv 3) pa_nil))) (pa_cons (pv 4) (pa_cons (pe_tup (pa_cons (pv 5) (pa_cons (pv 6) (pa_cons (pv 7) (pa_cons (pv 8) pa_nil))))) (pa_cons (pv 9) pa_nil))))))
      (pss_cons (ps_expr (pe_cX (c_demand T) hr (by decide) rfl (passes_call (takes_of rfl rfl rfl rfl) (fun _ _ _ _ h => h)) (pa_cons (pe_cmpR (op_neD (hu64 hr)) (pv 10) (pe_lst (pa_nil)) (nomark _)) (pa_cons (pe_un un_neg pe_int) pa_nil))))
      (pss_one (ps_ret (pe_op op_cat (pe_callTy call_list_of (by rfl) (T.free 91) (by decide +kernel) (pa_cons (pe_ix ix_tup (pe_ix ix_list (pv 10) pe_int (fun _ _ => rfl)) pe_int (fun _ _ => rfl)) pa_nil)) (pe_callTy call_list_of (by rfl) (T.free 91) (by decide +kernel) (pa_cons (pe_ix ix_tup (pe_ix ix_list (pv 10) pe_int (fun _ _ => rfl)) pe_int (fun _ _ => rfl)) pa_nil))))))))))), ?_⟩)
  · obtain ⟨a, g, p, p0, p1, d, al, ad, be, bd, m, ⟨rfl, _⟩, _⟩ := h
    rfl
  · obtain ⟨a, g, p, p0, p1, d, al, ad, be, bd, m, ⟨rfl, Dk, hg, hb⟩, D⟩ := h
    obtain ⟨w, dx, l0, v, ha, hl, hv⟩ := Dk.some
    have e : Kxd7.step (some p) (.bestTwoStage p0 p1 d al ad be bd m) = (some p, if Kxd7.arePair p0 p1 d = false ∨ Kxd7.isProbability al ad = false ∨ Kxd7.isProbability be bd = false ∨ m < 2 ∨ 8 < m then .value (-22) else match Kxd7.bestTwoStage (Kxd7.share p0 d) (Kxd7.share p1 d) (Kxd7.share al ad) (Kxd7.share be bd) m with
      | none => .value (-33)
      | some z => .values z.1.1 (Kxd7.toInts [z.1.2.1, z.1.2.2.1, z.1.2.2.2] ++ Kxd7.fields z.2)) := rfl
    rw [e] at D
    refine ⟨_, rfl, g, _, rfl, SqL.of hg, rfl, _, _, rfl, _, _, rfl, _, _, rfl, _, _, rfl, _, _, rfl, _, _, rfl, _, _, rfl, _, _, rfl, rfl, ?_⟩
    refine ⟨_, rfl, _, rfl, _, rfl, (p0 : Int), (p1 : Int), (d : Int), rfl, fun c1 => ?_, fun c1 => ?_⟩
    · refine ⟨_, rfl, _, rfl, (al : Int), (ad : Int), rfl, fun c2 => ?_, fun c2 => ?_⟩
      · refine ⟨_, rfl, _, rfl, (be : Int), (bd : Int), rfl, fun c3 => ?_, fun c3 => ?_⟩
        · refine ⟨_, rfl, (m : Int), 2, 8, rfl, fun c4 => ?_, fun c4 => ?_⟩
          · rw [if_neg (by rw [arePair_iff.mpr c1, isProb_iff.mpr c2, isProb_iff.mpr c3]; rintro (z | z | z | z | z) <;> first | exact absurd z (by decide) | omega)] at D
            refine ⟨_, rfl, _, rfl, (by show 2 ≤ sizeLine; decide), fun q hq => ?_⟩
            have eq := same_new (o := .tup [nV p0, nV p1]) hq
            refine ⟨_, rfl, _, rfl, _, rfl, _, rfl, _, rfl, (by show 4 ≤ sizeLine; decide), fun z hz => ?_⟩
            have ez := same_new (o := .tup [nV al, nV ad, nV be, nV bd]) hz
            have e2 := eq.trans ez
            refine ⟨_, rfl, .ref q, .ref z, p0, p1, d, al, ad, be, bd, m, rfl, ⟨by omega, by omega, by omega⟩, ⟨by omega, by omega, by omega⟩, share_of c2, share_of c3, by omega, by omega, pT_mk (ez _ _ upd_same) ⟨rfl, rfl, trivial⟩, pT_mk upd_same ⟨rfl, rfl, rfl, rfl, trivial⟩, fun f1 H1 e1 hf => ?_⟩
            generalize Kxd7.bestTwoStage (Kxd7.share p0 d) (Kxd7.share p1 d) (Kxd7.share al ad) (Kxd7.share be bd) m = bt at *
            have e3 := e2.trans e1
            have hf1 := (bestP bt).mono nw_same hf
            refine ⟨_, rfl, (by show 0 ≤ sizeLine; decide), fun y hy => ?_⟩
            have ey := same_new (o := .lst []) hy
            refine ⟨bestD bt, .list [], best_dp ((bestP bt).mono ey hf1), .lst (SqL.of upd_same) .nil, bestD_shaped bt, rfl, _, rfl, _, _, rfl, fun c => ?_, fun c => ?_⟩
            · cases bt with
              | none => exact nomatch c
              | some t =>
                obtain ⟨la, ta, s1, f2, rfl, g1, g2, g3, g4⟩ := best_at ((bestP (some t)).mono ey hf1)
                obtain ⟨sa, rfl, hsa⟩ := stg_list g3
                obtain ⟨fa, rfl, hfa⟩ := pF_at g4
                refine ⟨_, rfl, la, _, 0, _, rfl, rfl, SqL.of g1, rfl, ta, _, 0, _, rfl, rfl, SqT.of g2, rfl, sa, _, rfl, .inr (SqT.of hsa), fun x hx => ?_⟩
                have ex := same_new (o := .lst [nV t.1.1, nV t.1.2.1, nV t.1.2.2.1, nV t.1.2.2.2]) hx
                refine ⟨_, rfl, la, _, 0, _, rfl, rfl, SqL.of (ex _ _ g1), rfl, ta, _, 1, _, rfl, rfl, SqT.of (ex _ _ g2), rfl, fa, _, rfl, .inr (SqT.of (ex _ _ hfa)), fun u hu => ?_⟩
                have eu := same_new (o := .lst [V.int t.2.numerator, V.int (t.2.denominator : Int)]) hu
                refine ⟨x, u, _, _, rfl, rfl, eu _ _ upd_same, upd_same, (by show 6 ≤ sizeLine; decide), fun r hr => ?_⟩
                have e9 := ((e3.trans ey).trans ex).trans eu
                exact D.same _ _ (e9.trans (same_new hr)) (new_ints e9 hr rfl)
            · cases bt with
              | none => exact D.ref.from (e3.trans ey)
              | some t => exact nomatch c
          · rw [if_pos (by omega)] at D
            exact D.ref
        · rw [if_pos (.inr (.inr (.inl (not_f isProb_iff c3))))] at D
          exact D.ref
      · rw [if_pos (.inr (.inl (not_f isProb_iff c2)))] at D
        exact D.ref
    · rw [if_pos (.inl (not_f arePair_iff c1))] at D
      exact D.ref
def sp_told_successes (K : PySem.W.Frag) : Sp := fun vs H Q E => ∃ (a g : Addr) (p : Kxd7.Plan) (h w1 w2 w3 w4 : Nat), Args K vs a g (some p) [h, w1, w2, w3, w4] H ∧ Done K a (some p) (Kxd7.step (some p) (.successes h w1 w2 w3 w4)) H Q E
theorem sc_told_successes : FnScope ["desk", "given", "weight"] ["desk", "given"] (defScope (topS 95)) := C8.fnScope_by (by decide +kernel)
theorem c_told_successes {P : Program} {w : World} {K : PySem.W.Frag} {mg : Str → Option Value} {base : Heap} (T : Txt K mg) : CalX P w K mg base 8 "told_successes" (sp_told_successes K) := by
  refine T.calX 71 77 rfl rfl sc_told_successes (fun _ _ _ _ _ _ us hl => match us, hl with | [_, _], _ => rfl) (fun vs H Q E h => ?_) (fun cdv A outer s H vs Q E hr h => ⟨_, pss_cons (ps_expr (pe_cX (c_demand_between T) hr (by decide) rfl (passes_call (takes_of rfl rfl rfl rfl) (fun _ _ _ _ h => h)) (pa_cons (pe_ix ix_list (pv 1) pe_int (fun _ _ => rfl)) (pa_cons pe_int (pa_cons (C8.pe_gc rfl (T.int 103)) pa_nil)))))
      (pss_cons (ps_for (passes_of rfl) rfl (pi_list (pe_slice sl_list (pv 1) (po_some pe_int) po_none)) (pg_name (i := 2) sc_told_successes.nd rfl (Or.inl rfl)) (pss_one (ps_expr (pe_cX (c_demand_between T) hr (by decide) rfl (passes_call (takes_of rfl rfl rfl rfl) (fun _ _ _ _ h => h)) (pa_cons (pv 2) (pa_cons pe_int (pa_cons (C8.pe_gc rfl (T.int 104)) pa_nil)))))))
      (pss_one (ps_ret (C8.pe_c (c_told T) hr (by decide) rfl (pa_cons (C8.pe_c (c_successes T) hr (by decide) rfl (pa_cons (pe_ix ix_list (pv 1) pe_int (fun _ _ => rfl)) (pa_cons (pe_callTy call_tuple_of (by rfl) (T.free 92) (by decide +kernel) (pa_cons (pe_slice sl_list (pv 1) (po_some pe_int) po_none) pa_nil)) pa_nil))) pa_nil))))), ?_⟩)
  · obtain ⟨a, g, p, h, w1, w2, w3, w4, ⟨rfl, _⟩, _⟩ := h
    rfl
  · obtain ⟨a, g, p, h, w1, w2, w3, w4, ⟨rfl, Dk, hg, hb⟩, D⟩ := h
    obtain ⟨w, dx, l0, v, ha, hl, hv⟩ := Dk.some
    have e : Kxd7.step (some p) (.successes h w1 w2 w3 w4) = (some p, if 7 < h ∨ w1 = 0 ∨ w2 = 0 ∨ w3 = 0 ∨ w4 = 0 ∨ 100 < w1 ∨ 100 < w2 ∨ 100 < w3 ∨ 100 < w4 then .value (-22) else .values 0 (Kxd7.fields (Kxd7.successValue h w1 w2 w3 w4) ++ Kxd7.fields (Kxd7.firstValue 0 h w1 w2 w3 w4) ++ Kxd7.fields (Kxd7.firstValue 1 h w1 w2 w3 w4))) := rfl
    rw [e] at D
    refine ⟨_, rfl, g, _, 0, _, rfl, rfl, SqL.of hg, rfl, (h : Int), 0, 7, rfl, fun c1 => ?_, fun c1 => ?_⟩
    · refine ⟨_, rfl, _, rfl, g, _, rfl, SqL.of hg, fun q hq => ?_⟩
      have eq := same_new (o := .lst ([w1, w2, w3, w4].map nV)) hq
      refine ⟨q, rfl, ⟨[w1, w2, w3, w4].map nV, SqL.of upd_same⟩, for_it (walk_list (K := K) (a := q) (xs := [w1, w2, w3, w4].map nV)) (fun i σ H' => H' = upd H q (.lst ([w1, w2, w3, w4].map nV)) ∧ (∀ j x, j < i → [w1, w2, w3, w4][j]? = some x → 1 ≤ x ∧ x ≤ 100) ∧ ∃ y, σ = [some (.ref a), some (.ref g), y])
        ⟨rfl, fun j x hj => absurd hj (Nat.not_lt_zero _), none, rfl⟩ (fun i σ H' _ z => by rw [z.1]; exact SqL.of upd_same) ?_ ?_⟩
      · rintro i x σ H1 H2 hi ⟨rfl, hw, y, rfl⟩ ⟨rfl, hx⟩
        have hx : ([w1, w2, w3, w4].map nV)[i]? = some x := hx
        rw [List.getElem?_map] at hx
        cases hz : [w1, w2, w3, w4][i]? with
        | none => rw [hz] at hx; cases hx
        | some z =>
          rw [hz] at hx
          cases hx
          refine ⟨_, rfl, (z : Int), 1, 100, rfl, fun c => ?_, fun c => ?_⟩
          · refine ⟨rfl, fun j x hj hjx => ?_, _, rfl⟩
            rcases Nat.lt_succ_iff_lt_or_eq.mp hj with k | k
            · exact hw j x k hjx
            · subst k
              rw [hz] at hjx
              cases hjx
              omega
          · have hz2 := List.mem_of_getElem? hz
            have : z = w1 ∨ z = w2 ∨ z = w3 ∨ z = w4 := by simpa using hz2
            rw [if_pos (by omega)] at D
            exact D.ref.from eq
      · rintro σ H1 ⟨rfl, hw, y, rfl⟩
        have c1' := hw 0 w1 (by show 0 < 4; decide) rfl
        have c2' := hw 1 w2 (by show 1 < 4; decide) rfl
        have c3' := hw 2 w3 (by show 2 < 4; decide) rfl
        have c4' := hw 3 w4 (by show 3 < 4; decide) rfl
        rw [if_neg (by omega)] at D
        have hg1 := eq _ _ hg
        refine ⟨_, rfl, g, _, 0, _, rfl, rfl, SqL.of hg1, rfl, _, rfl, _, rfl, g, _, rfl, SqL.of hg1, fun q2 hq2 => ⟨q2, _, rfl, .inl ⟨SqL.of upd_same, fun t ht => ?_⟩⟩⟩
        have e2 := same_new (o := .lst ([w1, w2, w3, w4].map nV)) hq2
        have e3 := same_new (o := .tup ([w1, w2, w3, w4].map nV)) ht
        refine ⟨.ref t, (w1, w2, w3, w4), h, rfl, pT_mk upd_same ⟨rfl, rfl, rfl, rfl, trivial⟩, ⟨⟨c1'.1, c2'.1, c3'.1, c4'.1⟩, ⟨c1'.2, c2'.2, c3'.2, c4'.2⟩, by omega⟩, fun sv1 H2 e4 hs => ?_⟩
        obtain ⟨l, us, rfl, hl, hus⟩ := (pL _).mono nw_same hs
        refine ⟨l, us, [sv h (w1, w2, w3, w4), fv 0 h (w1, w2, w3, w4), fv 1 h (w1, w2, w3, w4)], rfl, hl, hus, (by simp), D.same.from (((eq.trans e2).trans e3).trans e4)⟩
    · rw [if_pos (by omega)] at D
      exact D.ref
end SE
/-! ## a deed called by its number -/
namespace SE
open PySem PySem.Spec PyProof.Rows L2
structure HeldX (P : Program) (w : World) (K : PySem.W.Frag) (mg : Str → Option Value) (base : Heap) (k : Nat) (f : Addr) (sp : Sp) : Prop where
  ex : ∃ (fd : FuncData) (ps : List Str), FnOk P w K mg base (L2.CX P w) k f fd ps sp ∧ PySem.W.keepIn K (.ref f) = true ∧ Binds K fd ps []
def tCallT (P : Program) (w : World) (K : PySem.W.Frag) (mg : Str → Option Value) (base : Heap) (k i : Nat) (W : WX) (t : TA) : TE := fun σ H Q => ∃ f sp, σ[i]? = some (some (.ref f)) ∧ HeldX P w K mg base k f sp ∧ t σ H fun vs H1 => sp vs H1 Q (fun cls d H' => W cls d σ H')
section
variable {X : Cx} {k j i : Nat} {x : Str} {p pos : Pos} {e : Expr} {es : List Expr} {t : TA} {W : WX}
theorem pe_callT (hr : Room j X.A) (hk : k ≤ j) (tk : Takes X W) (hN : X.N[i]? = some x) (hv : Vis X.env.scope x) (ha : PA X (e :: es) t)
    (hdb : (x == ("__debug__" : Str)) = false := by decide) (hcd : (x == ("__classdict__" : Str)) = false := by decide)
    (he : starEach (e :: es) X.env = (false, eval e X.env) :: starEach es X.env := by rfl) (hpl : (backTo pos (starEach es X.env)).any (·.1) = false := by rfl) :
    PE X (.Call (.Name x p) (e :: es) [] pos) (tCallT X.prog X.w X.K X.mg X.base k i W t) := by
  refine ⟨fun pins s σ H Q I h => ?_⟩
  obtain ⟨f, sp, hs, held, ht⟩ := h
  obtain ⟨fd, ps, F, kp, hb⟩ := held.ex
  refine wpAny_Call_Name_kw (thn ((pe_var (pos := p) hN hv hdb hcd).run pins s σ H (fun v H1 => v = .ref f ∧ H1 = H) I ⟨.ref f, hs, rfl, rfl⟩) fun u s1 ⟨v, H1, I1, r1, q1⟩ => ?_)
  obtain ⟨rfl, rfl⟩ := q1
  cases r1
  refine PySem.W.callWith_K (h₀ := X.base) I.ok.mod.kin kp (thn (ha.run pos pins s1 σ _ _ I1 ht) fun us s2 ⟨vs, H2, I2, r, q⟩ => ⟨I2.kIn, ?_⟩) he hpl
  have hl : (us ++ []).length = ps.length := by rw [List.append_nil, ← r.length]; exact F.len _ _ _ _ q
  refine wpAny_call (codeAny_mono (F.run X.A X.stack s2 H2 ⟨us, []⟩ (us ++ []) vs Q _ (hr.mono hk) I2.env0 (hb s2 us I2.kIn hl) (by rw [List.append_nil]; exact r) q) fun r s' hq => ?_)
  cases r with
  | error er => exact tk er s' (XE.of_call I2 (fun _ _ _ h => h) hq)
  | ok fl =>
    cases fl with
    | ret u => exact I2.after hq
    | next => exact False.elim hq
    | brk => exact False.elim hq
    | cont => exact False.elim hq
end
section
variable {P : Program} {w : World} {K : PySem.W.Frag} {mg : Str → Option Value} {base : Heap}
theorem CalX.held {k j : Nat} {x : Str} {sp : Sp} (c : CalX P w K mg base k x sp) (h : k ≤ j) : HeldX P w K mg base j (He.ga K x) sp := by
  obtain ⟨fd, ps, F, _, kp, b⟩ := c.ex
  exact ⟨fd, ps, F.mono h, kp, b⟩
def deedsV (K : PySem.W.Frag) : List V := deedsD.map fun x => .ref (He.ga K x)
theorem deeds_at (ex : exD K = true) (H : Hp) : SqT K H (He.ga K "DEEDS") (deedsV K) := by
  unfold exD at ex
  obtain ⟨_, ex⟩ := He.ba ex
  obtain ⟨h, _⟩ := He.ba ex
  have := He.tupB_ok h H
  rw [List.map_map] at this
  exact this
theorem many_at (ex : exD K = true) (H : Hp) : SqT K H (He.ga K "MANY") (manyL.map nV) := by
  unfold exD at ex
  obtain ⟨h, _⟩ := He.ba ex
  have := He.tupB_ok h H
  rw [List.map_map] at this
  exact this
/-- the deed of a request -/
def DeedOf (P : Program) (w : World) (K : PySem.W.Frag) (mg : Str → Option Value) (base : Heap) (num : Nat) (ns : List Nat) (q : Kxd7.Request) (st : Option Kxd7.Plan) : Prop :=
  ∃ f sp, atI (deedsV K) (num : Int) = some (.ref f) ∧ HeldX P w K mg base 9 f sp ∧ ∀ a g H Q E, Args K [.ref a, .ref g] a g st ns H → Done K a st (Kxd7.step st q) H Q E → sp [.ref a, .ref g] H Q E
theorem deed_of (T : Txt K mg) {num : Nat} {ns : List Nat} {q : Kxd7.Request} {st : Option Kxd7.Plan} (h : req num ns = some q) (h0 : num = 0 ∨ ∃ p, st = some p) : DeedOf P w K mg base num ns q st := by
  unfold req at h
  split at h
  all_goals first | cases h | skip
  · exact ⟨_, _, rfl, (c_create T).held (by decide), fun a g H Q E A D => ⟨a, g, st, _, A, D⟩⟩
  all_goals obtain ⟨p, rfl⟩ : ∃ p, st = some p := h0.elim (fun z => absurd z (by decide)) id
  · exact ⟨_, _, rfl, (c_set_decision T).held (by decide), fun a g H Q E A D => ⟨a, g, p, _, _, _, A, D⟩⟩
  · exact ⟨_, _, rfl, (c_single T).held (by decide), fun a g H Q E A D => ⟨a, g, p, _, A, D⟩⟩
  · exact ⟨_, _, rfl, (c_likelihood T).held (by decide), fun a g H Q E A D => ⟨a, g, p, _, _, _, _, _, _, _, A, D⟩⟩
  · exact ⟨_, _, rfl, (c_two_stage T).held (by decide), fun a g H Q E A D => ⟨a, g, p, _, _, _, A, D⟩⟩
  · exact ⟨_, _, rfl, (c_curtail T).held (by decide), fun a g H Q E A D => ⟨a, g, p, A, D⟩⟩
  · next x0 x1 x2 x3 x4 x5 x6 x7 => exact ⟨_, _, rfl, (c_optimal T).held (by decide), fun a g H Q E A D => ⟨a, g, p, ⟨p.horizon, x0, x1, x2, x3, x4, x5, x6, x7⟩, A, rfl, D⟩⟩
  · exact ⟨_, _, rfl, (c_decision_at T).held (by decide), fun a g H Q E A D => ⟨a, g, p, _, _, A, D⟩⟩
  · exact ⟨_, _, rfl, (c_paths T).held (by decide), fun a g H Q E A D => ⟨a, g, p, _, _, A, D⟩⟩
  · exact ⟨_, _, rfl, (c_stop_count T).held (by decide), fun a g H Q E A D => ⟨a, g, p, A, D⟩⟩
  · exact ⟨_, _, rfl, (c_told_acceptance T).held (by decide), fun a g H Q E A D => ⟨a, g, p, _, _, A, D⟩⟩
  · exact ⟨_, _, rfl, (c_told_size T).held (by decide), fun a g H Q E A D => ⟨a, g, p, _, _, A, D⟩⟩
  · exact ⟨_, _, rfl, (c_told_stop T).held (by decide), fun a g H Q E A D => ⟨a, g, p, _, _, _, A, D⟩⟩
  · exact ⟨_, _, rfl, (c_errors T).held (by decide), fun a g H Q E A D => ⟨a, g, p, _, _, _, A, D⟩⟩
  · next x0 x1 x2 x3 x4 x5 x6 x7 => exact ⟨_, _, rfl, (c_plan_cost T).held (by decide), fun a g H Q E A D => ⟨a, g, p, ⟨p.horizon, x0, x1, x2, x3, x4, x5, x6, x7⟩, A, rfl, D⟩⟩
  · next x0 x1 x2 x3 x4 x5 x6 x7 => exact ⟨_, _, rfl, (c_least_cost T).held (by decide), fun a g H Q E A D => ⟨a, g, p, ⟨p.horizon, x0, x1, x2, x3, x4, x5, x6, x7⟩, A, rfl, D⟩⟩
  · exact ⟨_, _, rfl, (c_unbiased T).held (by decide), fun a g H Q E A D => ⟨a, g, p, _, _, A, D⟩⟩
  · exact ⟨_, _, rfl, (c_best_two_stage T).held (by decide), fun a g H Q E A D => ⟨a, g, p, _, _, _, _, _, _, _, _, A, D⟩⟩
  · exact ⟨_, _, rfl, (c_told_successes T).held (by decide), fun a g H Q E A D => ⟨a, g, p, _, _, _, _, _, A, D⟩⟩
  · exact ⟨_, _, rfl, (c_told_row T).held (by decide), fun a g H Q E A D => ⟨a, g, p, _, A, D⟩⟩
  · exact ⟨_, _, rfl, (c_summary T).held (by decide), fun a g H Q E A D => ⟨a, g, p, A, D⟩⟩
end
end SE
/-! ## answers -/
namespace SE
open PySem PySem.Spec PyProof.Rows L2
/-- the plans of a desk as data -/
def planD (t : List (List Nat)) : PyData := .list (t.map fun r => .list (r.map fun (x : Nat) => .int (x : Int)))
def plansD : Option Kxd7.Plan → PyData
  | none => .list []
  | some p => .list [planD p.table]
theorem dp_row {K : PySem.W.Frag} {H : Hp} {l : List Nat} {v : V} (h : (pRow l).p H v) : Dp K H v (.list (l.map fun (x : Nat) => .int (x : Int))) := by
  obtain ⟨a, rfl, h2⟩ := pRow_at h
  have e := dp_ints (K := K) (H := H) (l.map fun (x : Nat) => (x : Int))
  rw [List.map_map, List.map_map] at e
  exact .lst (SqL.of h2) e
theorem dp_rows {K : PySem.W.Frag} {H : Hp} : ∀ {t : List (List Nat)} {vs : List V}, All2 (t.map pRow) H vs → DpAll K H vs (t.map fun r => .list (r.map fun (x : Nat) => .int (x : Int)))
  | [], [], _ => .nil
  | r :: t, v :: vs, h => .cons (dp_row h.1) (dp_rows h.2)
  | [], _ :: _, h => h.elim
  | _ :: _, [], h => h.elim
theorem dp_plans {K : PySem.W.Frag} {H : Hp} {st : Option Kxd7.Plan} {l : Addr} {vs : List V} (hl : H l = some (.lst vs)) (h : PlansAre st H vs) : Dp K H (.ref l) (plansD st) := by
  cases st with
  | none =>
    have e : vs = [] := h
    subst e
    exact .lst (SqL.of hl) .nil
  | some p =>
    obtain ⟨_, v, rfl, b, us, rfl, h2, h3⟩ := h
    exact .lst (SqL.of hl) (.cons (.lst (SqL.of h2) (dp_rows h3)) .nil)
theorem ints_lay (l : List Nat) : PyData.canLayAll0 (l.map fun (x : Nat) => .int (x : Int)) = true ∧ PyData.depthAll (l.map fun (x : Nat) => .int (x : Int)) ≤ 1 := by
  induction l with
  | nil => exact ⟨rfl, Nat.zero_le _⟩
  | cons x l ih =>
    refine ⟨?_, ?_⟩
    · show (true && _) = true
      rw [Bool.true_and]
      exact ih.1
    · exact Nat.max_le.mpr ⟨(by decide : 0 ≤ 1), ih.2⟩
theorem rows_lay (t : List (List Nat)) : PyData.canLayAll0 (t.map fun r => .list (r.map fun (x : Nat) => .int (x : Int))) = true ∧ PyData.depthAll (t.map fun r => .list (r.map fun (x : Nat) => .int (x : Int))) ≤ 2 := by
  induction t with
  | nil => exact ⟨rfl, Nat.zero_le _⟩
  | cons r t ih =>
    obtain ⟨h1, h2⟩ := ints_lay r
    refine ⟨?_, ?_⟩
    · show (PyData.canLayAll0 (r.map fun (x : Nat) => .int (x : Int)) && _) = true
      rw [h1, Bool.true_and]
      exact ih.1
    · exact Nat.max_le.mpr ⟨Nat.succ_le_succ h2, ih.2⟩
theorem plansD_shaped (st : Option Kxd7.Plan) : SeqAt.shaped (plansD st) = true := by
  cases st with
  | none => rfl
  | some p =>
    obtain ⟨h1, h2⟩ := rows_lay p.table
    unfold SeqAt.shaped
    rw [Bool.and_eq_true_iff, decide_eq_true_eq]
    refine ⟨?_, ?_⟩
    · show (PyData.canLayAll0 (p.table.map fun r => .list (r.map fun (x : Nat) => .int (x : Int))) && true) = true
      rw [h1]
      rfl
    · show max (PyData.depthAll (p.table.map fun r => .list (r.map fun (x : Nat) => .int (x : Int))) + 1) 0 + 1 ≤ 64
      omega
theorem plansD_eqv (st : Option Kxd7.Plan) : PyData.eqv (plansD st) (.list []) = st.isNone := by
  cases st <;> rfl
theorem step_none {num : Nat} {ns : List Nat} {q : Kxd7.Request} (h : req num ns = some q) (h0 : num ≠ 0) : Kxd7.step none q = (none, .value (-11)) := by
  unfold req at h
  split at h
  all_goals first | (cases h; rfl) | (cases h; exact absurd rfl h0) | cases h
theorem Out.from {K : PySem.W.Frag} {a : Addr} {st st' : Option Kxd7.Plan} {H H1 H' : Hp} (o : Out K a st st' H1 H') (e : Same H H1) : Out K a st st' H H' := by
  rcases o with ⟨h1, h2⟩ | ⟨p', dx, l, pv, h1, w, h2, h3, h4, h5, h6⟩
  · exact .inl ⟨h1, e.trans h2⟩
  · exact .inr ⟨p', dx, l, pv, h1, w, (e.wo a).trans h2, h3, e.free h4, h5, (pPlan _).mono (nw_ground e.dm) h6⟩
def sp_answer_of (K : PySem.W.Frag) : Sp := fun vs H Q _ => ∃ (a g : Addr) (num : Nat) (ns : List Nat) (q : Kxd7.Request) (st : Option Kxd7.Plan), vs = [.ref a, nV num, .ref g] ∧ Args K [.ref a, .ref g] a g st ns H ∧ req num ns = some q ∧
  ∀ v H', Out K a st (Kxd7.step st q).1 H H' → (pL ((resI (Kxd7.step st q).2).map pI)).p H' v → Q v H'
theorem sc_answer_of : FnScope ["desk", "number", "given", "deed", "found", "refusal"] ["desk", "number", "given"] (defScope (topS 99)) := C8.fnScope_by (by decide +kernel)
theorem c_answer_of {P : Program} {w : World} {K : PySem.W.Frag} {mg : Str → Option Value} {base : Heap} (T : Txt K mg) : C8.Cal P w K mg base 10 "answer_of" (sp_answer_of K) [] := by
  refine T.cal 74 81 rfl rfl sc_answer_of (fun _ _ _ _ _ _ us hl => match us, hl with | [_, _, _], _ => rfl) (fun vs H Q E h => ?_) (fun cdv A outer s H vs Q E hr h => ⟨_, pss_cons (ps_if (PW.pt (pw_and (pt_cmp (pc_neI (pv 1) (C8.pe_gc rfl (T.int 97)))) (pw_and1 (pt_cmpR (op_eqD (hu64 hr)) (pe_fld (pv 0) rfl) (pe_lst (pa_nil)) (nomark _))))) (pss_one (ps_ret (pe_lst (pa_cons (pe_un un_neg pe_int) pa_nil)))) (pss_nil))
      (pss_cons (ps_set (i := 3) sc_answer_of.nd rfl (Or.inl rfl) (pe_ix ix_tup (pe_glob rfl (T.glo 80) (show RelV (.ref (He.ga K "DEEDS")) (.ref (He.ga K "DEEDS")) from rfl)) (pv 1) (fun _ _ => rfl)))
      (pss_cons (ps_try_as (i := 5) (tb := fun W => tAsg (tCallT P w K mg base 9 3 W (tCons (tVar 0) (tCons (tVar 2) tNil))) (gName 4)) (ts := fun a cls d => tRet (tLst (tCons (tXf a cls d (RC K) "code" (tVar 5)) tNil))) rfl rfl sc_answer_of.nd rfl rfl ⟨rfl, by decide, .inl (T.glo 51)⟩ takes_none5 (fun W pn xe tk po => pss_one (ps_set (i := 4) sc_answer_of.nd rfl (Or.inl rfl) (pe_callT (k := 9) (i := 3) (x := "deed") hr (by decide) tk rfl (Or.inl rfl) (pa_cons (pv 0) (pa_cons (pv 2) pa_nil))))) (fun a oe cls d pn hz hf => pss_one (ps_ret (pe_lst (pa_cons (pe_xf (refF T.ex).xf (refF T.ex).code hz hf (pv 5)) pa_nil)))))
      (pss_one (ps_ret (pv 4))))), ?_⟩)
  · obtain ⟨a, g, num, ns, q, st, rfl, _⟩ := h
    rfl
  · obtain ⟨a, g, num, ns, q, st, rfl, A, hq, k⟩ := h
    obtain ⟨_, Dk, hg, hb⟩ := id A
    obtain ⟨dx, l0, vs0, ha, hl0, hp0⟩ := id Dk
    have F := refF T.ex
    have rest : ∀ H1 : Hp, Same H H1 → (num = 0 ∨ ∃ p, st = some p) → tSeq (tAsg (tOp (rIxT K) (tC (.ref (He.ga K "DEEDS"))) (tVar 1)) (gName 3)) (tSeq (fun D σ H => tAsg (tCallT P w K mg base 9 3 (wAs K (.ref (RC K)) 5 (fun a cls d => tRet (tLst (tCons (tXf a cls d (RC K) "code" (tVar 5)) tNil))) (fun _ _ _ _ => False) D) (tCons (tVar 0) (tCons (tVar 2) tNil))) (gName 4) D σ H) (tRet (tVar 4)))
        { nx := fun _ H' => Q .non H', rt := Q } [some (.ref a), some (nV num), some (.ref g), none, none, none] H1 := fun H1 e1 h0 => by
      obtain ⟨f, sp, hat, held, prom⟩ := deed_of (P := P) (w := w) (base := base) T hq h0
      refine ⟨_, rfl, _, _, _, _, rfl, rfl, deeds_at T.ex H1, hat, ?_⟩
      refine ⟨f, sp, rfl, held, _, rfl, _, rfl, prom a g H1 _ _ ⟨rfl, Dk.mono e1, e1 _ _ hg, hb⟩ ⟨fun v H' out hv => ⟨_, rfl, k v H' (out.from e1) hv⟩, fun c h1 h2 d H' e hd => ?_⟩⟩
      refine ⟨true, F.exm, fun _ a' ha' => ?_, fun z => nomatch z⟩
      refine ⟨_, rfl, rfl, rfl, d, _, _, rfl, hd, rfl, (by show 1 ≤ sizeLine; decide), fun r hr => ?_⟩
      exact k _ _ (.inl ⟨h1, (e1.trans e).trans (same_new hr)⟩) (by rw [h2]; exact ⟨r, _, rfl, upd_same, rfl, trivial⟩)
    by_cases c : num = 0
    · refine ⟨_, rfl, _, _, rfl, rfl, _, rfl, ?_⟩
      refine if_false_of (ne_f (by omega)) ?_
      exact rest H (Same.refl _) (.inl c)
    · refine ⟨_, rfl, _, _, rfl, rfl, _, rfl, ?_⟩
      refine if_true_of (ne_t (by omega)) ?_
      refine ⟨_, rfl, a, _, dx, _, _, rfl, ha, T.clsOf 107, T.noat 118, rfl, (by show 0 ≤ sizeLine; decide), fun z hz => ?_⟩
      have ez := same_new (o := .lst []) hz
      refine ⟨plansD st, .list [], dp_plans (ez _ _ hl0) (hp0.mono ez), .lst (SqL.of upd_same) .nil, plansD_shaped st, rfl, _, rfl, ?_⟩
      cases st with
      | none =>
        refine if_true_of rfl ⟨_, rfl, (by show 1 ≤ sizeLine; decide), fun r hr => ?_⟩
        rw [step_none hq c] at k
        exact k _ _ (.inl ⟨rfl, ez.trans (same_new hr)⟩) ⟨r, _, rfl, upd_same, rfl, trivial⟩
      | some p =>
        refine if_false_of rfl ?_
        exact rest _ ez (.inr ⟨p, rfl⟩)
end SE
/-! ## answers to all calls -/
namespace SE
open PySem PySem.Spec PyProof.Rows L2
theorem pe_mk0 {X : Cx} {k j : Nat} {C : Addr} {x : Str} {sp : Sp} {p pos : Pos} (c : C8.Mak X.prog X.w X.K X.mg X.base k x C sp []) (hr : Room j X.A) (hk : k + 1 ≤ j) (hg : Gl X x) (hdb : (x == ("__debug__" : Str)) = false := by decide) :
    PE X (.Call (.Name x p) [] [] pos) (tMake C sp [] C8.E0 tNil) := by
  obtain ⟨f, fd, ps, ds, M, F, hm, b, d⟩ := c.ex
  exact pe_make0 M F (hr.mono hk) hg hm b d pass0 hdb
theorem resI_fields (r : Kxd7.Result) : Kxd7Neutral.fields r = resI r := by cases r <;> rfl
theorem Out.keep {K : PySem.W.Frag} {a : Addr} {st st' : Option Kxd7.Plan} {H H' : Hp} (o : Out K a st st' H H') {b : Addr} {u : HO} (h : b ≠ a) (e : H b = some u) : H' b = some u := by
  rcases o with ⟨_, h2⟩ | ⟨p', dx, l, pv, _, _, h2, _⟩
  · exact h2 _ _ e
  · exact h2 _ _ (by rw [wo_ne h]; exact e)
theorem Out.desk {K : PySem.W.Frag} {a f : Addr} {st st' : Option Kxd7.Plan} {H H' : Hp} (o : Out K a st st' H H') (hfa : f ≠ a) {u : HO} (hf : H f = some u) (d : DeskAt K st (wo f H) a) : DeskAt K st' (wo f H') a := by
  rcases o with ⟨rfl, h2⟩ | ⟨p', dx, l, pv, rfl, w, h2, h3, h4, h5, h6⟩
  · exact d.mono (h2.wo f)
  · have hlf : l ≠ f := fun e => by rw [e, hf] at h4; cases h4
    exact ⟨dx, l, [pv], by rw [wo_ne hfa.symm]; exact h3, by rw [wo_ne hlf]; exact h5, w, pv, rfl, (pPlan _).mono (nw_in_wo (some_ne hf)) h6⟩
theorem cut_at (zs : List Int) (i n : Nat) (h : i + n ≤ zs.length) : cutV (zs.map V.int) (some (i : Int)) (some ((i + n : Nat) : Int)) = ((zs.drop i).take n).map V.int := by
  unfold cutV
  rw [HT.sIx_nat, HT.sIx_nat, List.length_map, Nat.min_eq_left (by omega), Nat.min_eq_left (by omega), ← List.map_drop, ← List.map_take, show i + n - i = n by omega]
def sp_answers (K : PySem.W.Frag) : Sp := fun vs H Q _ => ∃ (l : Addr) (zs : List Int), vs = [.ref l] ∧ SqL K H l (zs.map V.int) ∧ PyKxd7.answers_asked zs = true ∧
  ∀ (f : Addr) (H' : Hp), H' f = some (.lst ((PyKxd7.answers zs).map V.int)) → Q (.ref f) H'
theorem asked_out {zs : List Int} (h : PyKxd7.answers_asked zs = true) : ∃ raw, PyFlat.calls PyKxd7.shape zs.length zs = some raw ∧ PyInside.calls PyKxd7.bound raw = true ∧ PyKxd7.answers zs = PyFlat.told (PyFlat.played Kxd7Neutral.step none (raw.map PyKxd7.whole)) ∧ (PyKxd7.answers zs).length ≤ 10000000 := by
  unfold PyKxd7.answers_asked at h
  cases hc : PyFlat.calls PyKxd7.shape zs.length zs with
  | none => rw [hc] at h; cases h
  | some raw =>
    rw [hc] at h
    dsimp only at h
    simp only [Bool.and_eq_true_iff] at h
    obtain ⟨⟨⟨⟨_, _⟩, h3⟩, _⟩, h5⟩ := h
    refine ⟨raw, rfl, h3, ?_, of_decide_eq_true h5⟩
    unfold PyKxd7.answers PyKxd7.calls
    rw [hc]
    rfl
theorem SqL.keep {K : PySem.W.Frag} {H H' : Hp} {l : Addr} {xs : List V} (h : SqL K H l xs) (e : Same H H') : SqL K H' l xs := by
  rcases h with h | h
  · exact .inl (by rcases h with h | ⟨o, h⟩; exact .inl (e _ _ h); exact .inr ⟨o, e _ _ h⟩)
  · exact .inr h
theorem Txt.calB {P : Program} {w : World} {K : PySem.W.Frag} {mg : Str → Option Value} (T : Txt K mg) (i j : Nat) {x : Str} {n k : Nat} {N ps : List Str} {sp : Sp} (e : glD[i]? = some (x, n)) (ef : faD[j]? = some (.glo x)) (S : FnScope N ps (defScope (topS n)))
    (hb : ∀ (kV doc pm : Value) (an : Option Addr) (cdv ct : Value) (us : List Value), us.length = ps.length → bindArgs (PySem.W.fnOf x x (defArgs (topS n)) (defBody (topS n)) (defScope (topS n)) .none kV doc pm an cdv ct) ⟨us, []⟩ = pure (ps.zip us))
    (len : ∀ vs H Q E, sp vs H Q E → vs.length = ps.length)
    (hbody : ∀ (base : Heap) (cdv : Value) (A : Around) (outer : List Env) (s : Shared) (H : Hp) (vs : List V) (Q : VK) (E : XK), Room k (A.deeper (envOfC x (defScope (topS n)) s.heap.objs.size (He.ga K x) cdv)) → sp vs H Q E →
      ∃ t, PSs (cxOf CX0 P w K mg base N x (defScope (topS n)) (He.ga K x) cdv A outer s H E).nox (defBody (topS n)) t ∧ t { nx := fun _ H' => Q .non H', rt := Q } (start N vs) H) :
    ∃ fd : FuncData, (∀ (s : Shared) (us : List Value), us.length = ps.length → BindsTo s fd ⟨us, []⟩ (ps.zip us)) ∧ ∀ base : Heap, FnOk P w K mg base CX0 (k + 1) (He.ga K x) fd ps sp := by
  have e2 : fnD[i]? = some (dG (x, n)) := by
    have hi : i < glD.length := (List.getElem?_eq_some_iff.mp e).1
    show (glD.map dG ++ msD.map dM)[i]? = _
    rw [List.getElem?_append_left (by rw [List.length_map]; exact hi), List.getElem?_map, e]
    rfl
  obtain ⟨fd, F⟩ := T.d i _ e2
  have F' : FunD K x x (defArgs (topS n)) (defBody (topS n)) (defScope (topS n)) [] [] (He.ga K x) fd := F
  exact ⟨fd, fun s us hl => F'.bindsA hb s us hl, fun base => F'.ok S len fun cdv A outer s H vs Q E hr h => by
    obtain ⟨t, h1, h2⟩ := hbody base cdv A outer s H vs Q E hr h
    exact ⟨t, h1.nox, h2⟩⟩
theorem sc_answers : FnScope ["calls", "desk", "found", "at", "number", "behind", "answer"] ["calls"] (defScope (topS 100)) := C8.fnScope_by (by decide +kernel)
theorem b_answers {P : Program} {w : World} {K : PySem.W.Frag} {mg : Str → Option Value} (T : Txt K mg) : ∃ fd : FuncData, (∀ (s : Shared) (us : List Value), us.length = (["calls"] : List Str).length → BindsTo s fd ⟨us, []⟩ ((["calls"] : List Str).zip us)) ∧ ∀ base : Heap, FnOk P w K mg base CX0 11 (He.ga K "answers") fd ["calls"] (sp_answers K) := by
  refine T.calB 75 82 rfl rfl sc_answers (fun _ _ _ _ _ _ us hl => match us, hl with | [_], _ => rfl) (fun vs H Q E h => ?_) (fun base cdv A outer s H vs Q E hr h => ⟨_, pss_cons (ps_par3 (i := 1) (j := 2) (l := 3) rfl sc_answers.nd rfl rfl rfl (by decide) (by decide) (by decide) rfl rfl rfl (pa_cons (pe_mk0 (c_Desk_init T) hr (by decide) rfl) (pa_cons (pe_lst (pa_nil)) (pa_cons pe_int pa_nil))) (by rfl))
      (pss_cons (ps_while PassesOwn.never (pt_cmp (pc_lt (pv 3) (pe_callB call_len_seq (by rfl) (T.free 83) PySem.boot_len (pa_cons (pv 0) pa_nil)))) (pss_cons (ps_set (i := 4) sc_answers.nd rfl (Or.inl rfl) (pe_ix ix_list (pv 0) (pv 3) (fun _ _ => rfl)))
      (pss_cons (ps_set (i := 5) sc_answers.nd rfl (Or.inl rfl) (pe_op op_add (pe_op op_add (pv 3) pe_int) (pe_ix ix_tup (pe_glob rfl (T.glo 50) (show RelV (.ref (He.ga K "MANY")) (.ref (He.ga K "MANY")) from rfl)) (pv 4) (fun _ _ => rfl))))
      (pss_cons (ps_set (i := 6) sc_answers.nd rfl (Or.inl rfl) (C8.pe_c (c_answer_of T) hr (by decide) rfl (pa_cons (pv 1) (pa_cons (pv 4) (pa_cons (pe_slice sl_list (pv 0) (po_some (pe_op op_add (pv 3) pe_int)) (po_some (pv 5))) pa_nil)))))
      (pss_cons (ps_expr (pe_bm PySem.F.plainAttrs_list PySem.F.slot_list_extend PySem.F.type_list_extend mt_extend (pv 2) (pa_cons (pe_op op_cat (pe_lst (pa_cons (pe_callB call_len_seq (by rfl) (T.free 83) PySem.boot_len (pa_cons (pv 6) pa_nil)) pa_nil)) (pv 6)) pa_nil)))
      (pss_one (ps_set (i := 3) sc_answers.nd rfl (Or.inl rfl) (pv 5))))))))
      (pss_one (ps_ret (pv 2)))), ?_⟩)
  · obtain ⟨l, zs, rfl, _⟩ := h
    rfl
  · obtain ⟨l, zs, rfl, hl, hask, k⟩ := h
    obtain ⟨raw, hraw, hin, htot, hlen⟩ := asked_out hask
    generalize PyKxd7.answers zs = tot at *
    intro a dx ha hdx hne
    have e1 := same_new (o := .own a) hdx
    have ha1 : upd H dx (.own a) a = none := by rw [upd_ne hne.symm]; exact ha
    have e2 := e1.trans (same_new (o := .ins (DC K) dx []) ha1)
    refine ⟨a, dx, rfl, upd_same, fun pl hpl => ⟨rfl, ?_⟩⟩
    have e3 := same_new (o := .lst []) hpl
    have hpa : pl ≠ a := fun e => by rw [e, upd_same] at hpl; cases hpl
    refine ⟨(by show 0 ≤ sizeLine; decide), fun f hf => ?_⟩
    have hfa : f ≠ a := fun e => by rw [e, upd_same] at hf; cases hf
    have hfp : pl ≠ f := fun e => by rw [← e, upd_ne hpa, upd_same] at hf; cases hf
    have hfH : H f = none := by
      rw [upd_ne hfa] at hf
      exact (e2.trans e3).free hf
    refine ⟨_, _, _, rfl, ?_⟩
    refine ⟨fun m σ H' => ∃ (at_ : Nat) (st : Option Kxd7.Plan) (cs : List (List (List Int))) (fuel : Nat) (done : List Int) (x4 x5 x6 : Option V), m = zs.length - at_ ∧ at_ ≤ zs.length ∧ σ = [some (.ref l), some (.ref a), some (.ref f), some (nV at_), x4, x5, x6] ∧
      Same H (wo a H') ∧ DeskAt K st (wo f H') a ∧ H' f = some (.lst (done.map V.int)) ∧ PyFlat.calls PyKxd7.shape fuel (zs.drop at_) = some cs ∧ PyInside.calls PyKxd7.bound cs = true ∧ tot = done ++ PyFlat.told (PyFlat.played Kxd7Neutral.step st (cs.map PyKxd7.whole)),
      ⟨_, 0, none, raw, zs.length, [], none, none, none, rfl, Nat.zero_le _, rfl, ?_, ?_, upd_same, hraw, hin, htot⟩, ?_⟩
    · intro b u q
      have b1 : b ≠ a := ne_of_none q ha
      have b2 : b ≠ dx := ne_of_none q hdx
      have b3 : b ≠ pl := ne_of_none (e2 _ _ q) hpl
      have b4 : b ≠ f := ne_of_none q hfH
      rw [wo_ne b1, upd_ne b4, upd_ne b1, upd_ne b3, upd_ne b1, upd_ne b2]
      exact q
    · exact ⟨dx, pl, [], by rw [wo_ne hfa.symm, upd_ne hfa.symm, upd_same]; rfl, by rw [wo_ne hfp, upd_ne hfp, upd_ne hpa, upd_same], rfl⟩
    · rintro m σ H' ⟨at_, st, cs, fuel, done, x4, x5, x6, rfl, hat, rfl, sm, D, hf', hcs, hin', htot'⟩
      have hlH := SqL.keep hl (sm.trans wo_le)
      refine ⟨_, rfl, _, rfl, l, _, rfl, .inl hlH, _, _, rfl, rfl, _, rfl, ?_⟩
      rw [List.length_map]
      by_cases c : at_ < zs.length
      · refine if_true_of (decide_eq_true (by omega)) ?_
        rw [List.drop_eq_getElem_cons c] at hcs
        obtain ⟨num, n, f', cs', ep, hm, hn, rfl, hcs'⟩ := calls_cons hcs
        rw [List.length_drop] at hn
        unfold PyInside.calls at hin'
        rw [List.all_cons, Bool.and_eq_true_iff] at hin'
        obtain ⟨hin1, hin2⟩ := hin'
        rw [ep] at hin1
        have htl : ((zs.drop (at_ + 1)).take n).length = n := by rw [List.length_take, List.length_drop]; omega
        obtain ⟨ns, ens, hsm⟩ := each_ok hm htl hin1
        have hnl : ns.length = n := by rw [ens, List.length_map] at htl; exact htl
        obtain ⟨q, hreq, hstep⟩ := step_of (num := num) (ns := ns) (by rw [hnl]; exact hm) st
        have hz : (zs.map V.int)[at_]? = some (nV num) := by rw [List.getElem?_map, List.getElem?_eq_getElem c, ep]; rfl
        have hcut : cutV (zs.map V.int) (some ((at_ : Int) + 1)) (some ((at_ : Int) + 1 + (n : Int))) = ns.map nV := by
          have := cut_at zs (at_ + 1) n (by omega)
          rw [ens, List.map_map] at this
          exact this
        refine ⟨_, fun _ _ z => z, _, rfl, _, rfl, l, _, _, _, rfl, rfl, hlH, atI_nat hz, ?_⟩
        refine ⟨_, rfl, _, _, rfl, rfl, _, rfl, _, _, _, _, rfl, rfl, many_at T.ex _, nat_at hm, _, _, rfl, rfl, ?_⟩
        refine ⟨_, rfl, _, rfl, _, rfl, _, rfl, _, _, rfl, rfl, _, rfl, _, rfl, _, rfl, l, _, rfl, hlH, fun g hg => ?_⟩
        have eg := same_new (o := .lst (cutV (zs.map V.int) (some ((at_ : Int) + 1)) (some ((at_ : Int) + 1 + (n : Int))))) hg
        refine ⟨a, g, num, ns, q, st, rfl, ⟨rfl, D.mono (wo_le.trans eg), by rw [← hcut]; exact upd_same, hsm⟩, hreq, fun v H2 out hv => ?_⟩
        obtain ⟨b, vs, rfl, hb, hvs⟩ := hv
        rw [ints_all hvs] at hb
        have hf2 := out.keep hfa (eg _ _ hf')
        have D2 := out.desk hfa (eg _ _ hf') (D.mono (eg.wo f))
        have sm2 : Same H (wo a H2) := fun x u z => by
          have x1 : x ≠ a := ne_of_none z ha
          rw [wo_ne x1]
          exact out.keep x1 (eg _ _ (wo_le _ _ (sm _ _ z)))
        have ht2 : tot = (done ++ (((resI (Kxd7.step st q).2).length : Int) :: resI (Kxd7.step st q).2)) ++ PyFlat.told (PyFlat.played Kxd7Neutral.step (Kxd7.step st q).1 (cs'.map PyKxd7.whole)) := by
          rw [htot', ep, ens, List.map_cons]
          have hp : PyFlat.played Kxd7Neutral.step st (PyKxd7.whole [((num : Nat) : Int) :: ns.map (fun (x : Nat) => (x : Int))] :: cs'.map PyKxd7.whole) = (Kxd7Neutral.step st (PyKxd7.whole [((num : Nat) : Int) :: ns.map (fun (x : Nat) => (x : Int))])).2 :: PyFlat.played Kxd7Neutral.step (Kxd7Neutral.step st (PyKxd7.whole [((num : Nat) : Int) :: ns.map (fun (x : Nat) => (x : Int))])).1 (cs'.map PyKxd7.whole) := rfl
          rw [hp, hstep, resI_fields]
          unfold PyFlat.told
          rw [List.flatMap_cons, ← List.append_assoc]
        generalize resI (Kxd7.step st q).2 = as at *
        have hdl : done.length + (as.length + 1) ≤ 10000000 := by
          have := congrArg List.length ht2
          rw [List.length_append, List.length_append, List.length_cons] at this
          omega
        refine ⟨_, rfl, .inl ⟨rfl, _, SqL.of hf2⟩, _, rfl, b, _, rfl, .inl (SqL.of hb), (by show 1 ≤ sizeLine; decide), fun q1 hq1 => ?_⟩
        have eq1 := same_new (o := .lst [V.int ((as.map V.int).length : Int)]) hq1
        refine ⟨_, rfl, q1, b, _, _, rfl, rfl, upd_same, eq1 _ _ hb, ?_, fun r1 hr1 => ?_⟩
        · rw [List.length_map, sizeLine_eq]
          show 1 + as.length ≤ 16777216
          omega
        have er1 := same_new (o := .lst ([V.int ((as.map V.int).length : Int)] ++ as.map V.int)) hr1
        refine ⟨f, r1, _, _, rfl, rfl, er1 _ _ (eq1 _ _ hf2), upd_same, ?_, ?_⟩
        · rw [List.length_append, List.length_map, List.length_map, sizeLine_eq]
          show done.length + (1 + as.length) ≤ 16777216
          omega
        have e5 := eq1.trans er1
        refine ⟨_, rfl, zs.length - (at_ + 1 + n), by omega, at_ + 1 + n, (Kxd7.step st q).1, cs', f', done ++ ((as.length : Int) :: as), _, _, _, rfl, by omega, rfl, ?_, ?_, ?_, ?_, hin2, ht2⟩
        · intro x u z
          have x1 : x ≠ a := ne_of_none z ha
          have x2 : x ≠ f := ne_of_none z hfH
          rw [wo_ne x1, upd_ne x2]
          exact e5 _ _ (wo_le _ _ (sm2 _ _ z))
        · rw [wo_upd]
          exact D2.mono (e5.wo f)
        · rw [upd_same, List.map_append, List.length_map]
          rfl
        · rw [List.drop_drop] at hcs'
          exact hcs'
      · refine if_false_of (decide_eq_false (by omega)) ⟨_, rfl, k f H' ?_⟩
        have e0 : zs.drop at_ = [] := List.drop_eq_nil_of_le (by omega)
        rw [e0] at hcs
        have e9 : cs = [] := by cases fuel <;> exact (Option.some.inj hcs).symm
        rw [e9] at htot'
        rw [htot']
        show H' f = some (HO.lst ((done ++ []).map V.int))
        rw [List.append_nil]
        exact hf'
end SE
/-! ## the row's end -/
namespace SE
open PySem PySem.Spec PyProof.Rows L2
open PySem.W (OpenSpec Codec WData WellAll os_pre_some)
theorem walk_specE {r : OpenSpec} {k : Nat} {q : Program} {loose : List Str} {XP : (Str → Option Value) → Heap → Prop} {YP : World → Heap → Prop} {d : DefRec} {CX : CXT} {ps : List Str}
    (hwell : r.wellSaid = true) (hlen : r.args.length = ps.length) (hr : Room k callerA)
    (F : ∀ (w : World) (mg : Str → Option Value) (fa : Addr) (h : Heap), YP w h → h.Ns mainGlobals mg → mg d.name = some (.ref fa) →
      ∃ (K : PySem.W.Frag) (fd : FuncData) (sp : Sp), K.In h ∧ (∀ (s : Shared) (us : List Value), us.length = ps.length → BindsTo s fd ⟨us, []⟩ (ps.zip us)) ∧
        (∀ base : Heap, K.In base → base.Ns mainGlobals mg → FnOk r.prog w K mg base CX k fa fd ps sp) ∧
        ∀ (H : Hp) (xs : List V) (a : Codec.denoteAll r.args), OnlyF H → Codec.withinAll r.args a = true → Codec.app r.args r.asked a = true → DwAll K H xs (Codec.encAll r.args a) →
          sp xs H (fun v H' => Dw K H' v (r.ret.enc (Codec.app r.args r.f a))) fun _ _ _ => False)
    (hCX : ∀ (H : Hp) (s : Shared) (e : Value) (s' : Shared), CX [] H s (fun _ _ _ => False) e s' → False) :
    PySem.W.WalkOS q loose XP YP r d [] (fun f vs => PySem.call f vs) := by
  intro w s₀ s₁ mg mb G Y fa o pm cd doc dV kV ho hd hcd hD hmg hg args vals as hpre hlay hrd hwl hlo
  obtain ⟨a, e1, e2⟩ := PySem.W.os_pre_some hpre
  obtain ⟨e3, hwi⟩ := Codec.encAll_of_decAll r.args args a e1
  subst e3
  obtain ⟨K, fd, sp, KX, hb, hF, hsp⟩ := F w mg fa _ Y G.T.g hmg
  refine PySem.W.enter_call (codeAny_mono (spec_call (R := []) (cl := classAt s₀.heap) (d0 := r.ret.enc (Codec.app r.args r.f a)) KX G.T.g G.T.b G.T.builtins G.T.nolimit hg hwl (pl_encAll _ _) (layable_weight hlay) hr hF hb (by rw [encAll_len]; exact hlen)
    (fun H xs hO hS => hsp H xs a hO hwi e2 hS) fun H e s' => hCX H s₁ e s') fun r' s' hq => ?_)
  obtain ⟨u, as', rfl, h1, h2, h3, h4⟩ := hq
  exact ⟨.inl ⟨u, _, as', rfl, fun _ => rfl, h1, (OpenSpec.post_iff hwell hwi _ _).mpr rfl, fun z => Bool.noConfusion (show false = true from z)⟩, h2, h3, h4⟩
theorem the_call : PySem.W.WalkOS qvD loD (PySem.W.XL qvD []) hkD.says rwD (HandSHeadRun.topDef rwD.prog 100) [] (fun f vs => PySem.call f vs) := by
  refine walk_specE (k := 11) (CX := CX0) (ps := ["calls"]) (by decide +kernel) rfl ⟨rfl, by decide, by decide⟩ ?_ (fun _ _ _ _ z => z)
  intro w mg fa h Y G hmg0
  obtain ⟨K, KX, c⟩ := Y
  have T := txt_of KX c G
  have hmg : mg ("answers" : PySem.Str) = some (.ref fa) := by
    have e : (HandSHeadRun.topDef rwD.prog 100).name = ("answers" : PySem.Str) := by kernel_rfl
    rw [← e]
    exact hmg0
  have ef := hmg.symm.trans (T.glo 82)
  cases ef
  obtain ⟨fd, hb, hF⟩ := b_answers (P := rwD.prog) (w := w) T
  refine ⟨K, fd, sp_answers K, KX, hb, fun base _ _ => hF base, ?_⟩
  intro H xs a hO hwi hask hx
  cases hx with
  | cons h1 h2 =>
    cases h2
    cases h1 with
    | lst hs ha =>
      have e := L2.ints_dw a.1 _ ha
      subst e
      exact ⟨_, a.1, rfl, hs, hask, fun f H' hf => .lst (L2.SqL.of hf) (L2.dw_ints _)⟩
end SE
theorem PySem.Challenge.cw_stopearly_s01_answers_holds : PySem.Challenge.rw_stopearly_s01_answers.Holds := by
  refine HandSHeadRun.head_spec (r := SE.rwD) (q := SE.qvD) (H := SE.hkD) (ob := SE.obD) (M := 6000) (loose := SE.loD) (d := HandSHeadRun.topDef SE.rwD.prog 100) (kwd := []) SE.obD_eq
    (by kernel_rfl) (fun s => by kernel_rfl) SE.runD (by kernel_rfl) (by kernel_rfl) (by kernel_rfl) (fun as h => PySem.W.os_shapes as h) (by decide +kernel) (by decide +kernel) ⟨rfl, rfl, rfl, rfl, rfl, by decide +kernel⟩ ⟨[.list [.int 20]], by decide +kernel, by decide +kernel⟩ SE.the_call
