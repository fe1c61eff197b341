/- It is proved that the law LocateKnown returns true, whatever the world it starts in, as long as the package variables that its row lists hold what the program's text gives them. Part 6 of 6. -/
import Derived.Test.YtbphnigdbffpmaaGreatDoorTie
import Derived.Test.YtbphnigdbffpmaaGreatDoorCards
import Derived.ProofKit
import Derived.LaidMore
import Derived.OpenShut
import Derived.Stop.Joined
import Derived.Test.YtbphnigdbffpmaaGreatDoorAe
set_option linter.unusedVariables false
set_option linter.unusedSimpArgs false
set_option exponentiation.threshold 1000
section
set_option linter.unusedVariables false
set_option linter.unusedSimpArgs false
set_option maxRecDepth 100000
namespace Go.AV
open Go Go.Proofs
noncomputable section
abbrev foldD : List Int := [0, 0, 0, 0, 0, 60000, 0, 60000, 0, 0, 60000, 60000, 60000, 0, 0, 60000, 0, 60000, 60000, 60000, 0, 60000, 60000, 60000, 0, 0, 0, 0, 0, 60000, 0, 60000, 0, 0, 60000, 60000]
abbrev halfD : List Int := [0, 0, 0, 0, 0, 60000, 0, 60000, 0, 0, 60000, 60000, 0, 0, 0, 0, 0, 60000, 0, 60000, 0, 0, 60000, 60000, 60000, 0, 0, 60000, 0, 60000, 60000, 60000, 0, 60000, 60000, 60000]
abbrev turnD : List Int := [0, 0, 0, 0, 0, 65535, 65535, 0, 0, 65535, 0, 65535, 0, 65535, 0, 0, 65535, 65535, 65535, 65535, 0, 65535, 65535, 65535]
abbrev foldG : GridT := ([3, 2, 2], 3, foldD, ())
abbrev halfG : GridT := ([3, 2, 2], 3, halfD, ())
abbrev turnG : GridT := ([2, 2, 2], 3, turnD, ())
noncomputable def qab : Shape := ⟨[.loc 0 [], .loc 1 [], .j, .j, .j, .dat (.int .i64), .j, .j, .j, .j, .j, .j, .j, .j, .j, .j, .j, .j, .j, .j, .j, .j, .j, .j, .j], [[.j, .j, .j, .dat (.int .i64), .j, .dat (.int .i64), .j, .j, .j, .j, .j, .j, .j, .j, .j, .j, .j, .j, .j, .j, .j, .j, .j, .j, .j, .j, .j, .j, .j, .j, .j, .j, .j, .j, .j, .j, .j, .j, .j, .j, .j, .j, .j, .j, .j, .j, .j, .j, .j, .j, .j, .j, .j, .j, .j, .j, .j, .j, .j, .j, .j, .j, .j, .j, .j, .j, .j, .j, .j, .j, .j, .j, .j, .j, .j, .j, .j, .j, .j, .j, .j, .j, .j, .j, .j, .j, .j, .j, .j, .j, .j, .j, .j, .j, .j, .j, .j, .j, .j, .j, .j, .j, .j, .j, .j, .j, .j, .j, .j, .j, .j, .j, .j, .j, .j, .j, .j, .j, .j, .j, .j, .j, .j, .j, .j, .j, .j, .j, .j, .j, .j, .j, .j, .j, .j, .j, .j, .j, .j, .j, .j, .j, .j, .j, .j, .j, .j, .j, .j, .j, .j, .j, .j, .j, .j, .j, .j, .j, .j, .j, .j, .j, .j, .j, .j, .j, .j, .j, .j, .j, .j, .j, .j, .j, .j, .j, .j, .j, .j, .j, .j, .j, .j, .j, .j, .j, .j, .j, .j, .j, .j, .j, .j, .j, .j], []], [.box false (.agg [.nils, .dat (.int .i64), .nils]), .box false (.agg [.own 2 (.int .i64), .dat (.int .i64), .own 3 (.int .i64)]), .row false (.int .i64), .row false (.int .i64)], []⟩
noncomputable def qbf : List (Ex × Shape) := [(.exit 0, ⟨[.loc 0 [], .loc 1 [], .j, .j, .j, .j, .j, .j, .j, .j, .j, .j, .j, .j, .j, .j, .j, .j, .j, .j, .j, .j, .j, .j, .j], [[.j, .j, .j, .dat (.int .i64), .j, .dat (.int .i64), .j, .j, .j, .j, .j, .j, .j, .j, .j, .j, .j, .j, .j, .j, .j, .j, .j, .j, .j, .j, .j, .j, .j, .j, .j, .j, .j, .j, .j, .j, .j, .j, .j, .j, .j, .j, .j, .j, .j, .j, .j, .j, .j, .j, .j, .j, .j, .j, .j, .j, .j, .j, .j, .j, .j, .j, .j, .j, .j, .j, .j, .j, .j, .j, .j, .j, .j, .j, .j, .j, .j, .j, .j, .j, .j, .j, .j, .j, .j, .j, .j, .j, .j, .j, .j, .j, .j, .j, .j, .j, .j, .j, .j, .j, .j, .j, .j, .j, .j, .j, .j, .j, .j, .j, .j, .j, .j, .j, .j, .j, .j, .j, .j, .j, .j, .j, .j, .j, .j, .j, .j, .j, .j, .j, .j, .j, .j, .j, .j, .j, .j, .j, .j, .j, .j, .j, .j, .j, .j, .j, .j, .j, .j, .j, .j, .j, .j, .j, .j, .j, .j, .j, .j, .j, .j, .j, .j, .j, .j, .j, .j, .j, .j, .j, .j, .j, .j, .j, .j, .j, .j, .j, .j, .j, .j, .j, .j, .j, .j, .j, .j, .j, .j, .j, .j, .j, .j, .j, .j], []], [.box false (.agg [.nils, .dat (.int .i64), .nils]), .box false (.agg [.own 2 (.int .i64), .dat (.int .i64), .own 3 (.int .i64)]), .row false (.int .i64), .row false (.int .i64)], []⟩)]
abbrev qcd : Type := Int × Int × Int × Int × Int × (List Int) × (List Int) × Unit
abbrev qce : Type := (Int × Int × Int × Int × (List Int) × (List Int) × Unit)
noncomputable def qnc : Env := Env.mk' tyF fnF gl (lookT []) (lookL []) (fun f c => match Nat.beq f 20 && Nat.beq c 0 with | true => some qab | false => none)
theorem qq7 : EnvAll Tryz.prog qnc := EnvAll.mk' tabs _ (qb trivial) (qa trivial)
noncomputable def qam : Env := (qnc).up 1000
theorem qrw : EnvAll Tryz.prog qam := EnvAll.up (qq7) 1000
noncomputable def qbe : List Lp := []
noncomputable def qj5 (rec : qcd → Option qce) (v : Int) (o : Int) (o1 : Int) (v1 : Int) (g : Int) (g1 : (List Int)) (g2 : (List Int)) : Option qce :=
  cond' ((decide (v < (8 : Int)))) (
    (some (IntKind.i64.wrap ((65535 : Int) * (IntKind.i64.wrap (v.tdiv (4 : Int)))))).bind fun z1 =>
    (some (IntKind.i64.wrap ((65535 : Int) * ((IntKind.i64.wrap (v.tdiv (2 : Int))).tmod (2 : Int))))).bind fun z2 =>
    cond' (decide ((g2.length + [z1, z2, (IntKind.i64.wrap ((65535 : Int) * (v.tmod (2 : Int))))].length) * 8 ≤ 140737488355328)) (
    rec ((IntKind.i64.wrap (v + (1 : Int))), o, o1, v1, g, g1, (g2 ++ [z1, z2, (IntKind.i64.wrap ((65535 : Int) * (v.tmod (2 : Int))))]), ())) none) (
    some (o, o1, v1, g, g1, g2, ()))
noncomputable def qiu : Nat → qcd → Option qce
  | 0, _ => none
  | n + 1, x => qj5 (qiu n) x.1 x.2.1 x.2.2.1 x.2.2.2.1 x.2.2.2.2.1 x.2.2.2.2.2.1 x.2.2.2.2.2.2.1
theorem qq8 (fu : Nat) (v : Int) (o : Int) (o1 : Int) (v1 : Int) (g : Int) (g1 : (List Int)) (g2 : (List Int)) : ev qam (fu + 1) 20 0 (.loop (loopAt Tryz.f20 0)) (qab.enc qbe (v, o, o1, v1, g, g1, g2, ())) (exitD qbf) = qj5 (fun x => ev qam fu 20 0 (.loop (loopAt Tryz.f20 0)) (qab.enc qbe x) (exitD qbf)) v o o1 v1 g g1 g2 := by kernel_rfl
theorem qsn (n : Nat) (x : qcd) : ev qam n 20 0 (.loop (loopAt Tryz.f20 0)) (qab.enc qbe x) (exitD qbf) = qiu n x :=
  fuel_eq (f := fun n x => ev qam n 20 0 (.loop (loopAt Tryz.f20 0)) (qab.enc qbe x) (exitD qbf)) (st := fun rec x => qj5 rec x.1 x.2.1 x.2.2.1 x.2.2.2.1 x.2.2.2.2.1 x.2.2.2.2.2.1 x.2.2.2.2.2.2.1) (fun _ => rfl) (fun n x => qq8 n x.1 x.2.1 x.2.2.1 x.2.2.2.1 x.2.2.2.2.1 x.2.2.2.2.2.1 x.2.2.2.2.2.2.1) qiu (fun _ => rfl) (fun _ _ => rfl) n x
def qgv : qcd → Option qce
  | (v, o, o1, v1, g, g1, g2, ()) => wh (v = 0 ∧ g2 = []) (o, o1, v1, g, g1, cubeD, ())
theorem qso (x : qcd) (y : qce) (h : qgv x = some y) : ∃ n, qiu n x = some y := by
  obtain ⟨v, o, o1, v1, g, g1, g2, ⟨⟩⟩ := x
  obtain ⟨⟨h1, h2⟩, rfl⟩ := wh_some h
  subst h1; subst h2
  exact ⟨9, by kernel_rfl⟩
noncomputable def qnt : LoopC := ⟨qab, qbf, qgv⟩
theorem qrm : LoopSpec Tryz.prog gl 20 0 qnt := qd (canon := qbe) .nil (fun c hc x y h => by
  obtain rfl := loopAt_eq (fn := Tryz.f20) Tryz.func20 (by kernel_rfl) hc
  obtain ⟨n, hn⟩ := qso x y h
  exact ⟨qam, n, rfl, qrw, (qsn n x).trans hn⟩)
noncomputable def qac : Shape := ⟨[.j, .j, .j, .dat (.int .i64), .j, .dat (.int .i64), .j, .dat (.int .i64), .j, .j, .dat (.int .i64), .loc 0 [], .j, .j, .j, .j, .j, .j, .j, .j, .j, .j, .j, .j, .j, .j, .j, .j, .j, .j, .j, .j, .j, .j, .j, .j, .j, .j, .j, .j, .j, .j, .j, .j, .j, .j, .j, .j, .j, .j, .j, .j, .j, .j, .j, .j, .j, .dat (.int .i64), .j, .j, .j, .j, .j, .j, .j, .j, .j, .j, .j, .j, .j, .j, .j, .j, .j, .j, .j, .j, .j, .j, .j, .j, .j, .j, .j, .j, .j, .j, .j, .j, .j, .j, .j, .j, .j, .j, .j, .j, .j, .j, .j, .j, .j, .j, .j, .j, .j, .j, .j, .j, .j, .j, .j, .j, .j, .j, .j, .j, .j, .j, .j, .j, .j, .j, .j, .j, .j, .j, .j, .j, .j, .j, .j, .j, .j, .j, .j, .j, .j, .j, .j, .j, .j, .j, .j, .j, .j, .j, .j, .j, .j, .j, .j, .j, .j, .j, .j, .j, .j, .j, .j, .j, .j, .j, .j, .j, .j, .j, .j, .j, .j, .j, .j, .j, .j, .j, .j, .j, .j, .j, .j, .j, .j, .j, .j, .j, .j, .j, .j, .j, .j, .j, .j, .j, .j], [[]], [.box false (.agg [.own 1 (.int .i64), .dat (.int .i64), .own 2 (.int .i64)]), .row false (.int .i64), .row false (.int .i64)], []⟩
noncomputable def qbh : List (Ex × Shape) := [(.exit 0, ⟨[.j, .j, .j, .dat (.int .i64), .j, .dat (.int .i64), .j, .dat (.int .i64), .j, .j, .dat (.int .i64), .loc 0 [], .j, .j, .j, .j, .j, .j, .j, .j, .j, .j, .j, .j, .j, .j, .j, .j, .j, .j, .j, .j, .j, .j, .j, .j, .j, .j, .j, .j, .j, .j, .j, .j, .j, .j, .j, .j, .j, .j, .j, .j, .j, .j, .j, .j, .j, .j, .j, .j, .j, .j, .j, .j, .j, .j, .j, .j, .j, .j, .j, .j, .j, .j, .j, .j, .j, .j, .j, .j, .j, .j, .j, .j, .j, .j, .j, .j, .j, .j, .j, .j, .j, .j, .j, .j, .j, .j, .j, .j, .j, .j, .j, .j, .j, .j, .j, .j, .j, .j, .j, .j, .j, .j, .j, .j, .j, .j, .j, .j, .j, .j, .j, .j, .j, .j, .j, .j, .j, .j, .j, .j, .j, .j, .j, .j, .j, .j, .j, .j, .j, .j, .j, .j, .j, .j, .j, .j, .j, .j, .j, .j, .j, .j, .j, .j, .j, .j, .j, .j, .j, .j, .j, .j, .j, .j, .j, .j, .j, .j, .j, .j, .j, .j, .j, .j, .j, .j, .j, .j, .j, .j, .j, .j, .j, .j, .j, .j, .j, .j, .j, .j, .j, .j, .j], [[]], [.box false (.agg [.own 1 (.int .i64), .dat (.int .i64), .own 2 (.int .i64)]), .row false (.int .i64), .row false (.int .i64)], []⟩)]
abbrev qcf : Type := Int × Int × Int × Int × Int × Int × (List Int) × (List Int) × Unit
abbrev qcg : Type := (Int × Int × Int × Int × Int × (List Int) × (List Int) × Unit)
noncomputable def qnd : Env := Env.mk' tyF fnF gl (lookT []) (lookL []) (fun f c => match Nat.beq f 6 && Nat.beq c 0 with | true => some qac | false => none)
theorem qq9 : EnvAll Tryz.prog qnd := EnvAll.mk' tabs _ (qb trivial) (qa trivial)
noncomputable def qan : Env := (qnd).up 1000
theorem qrx : EnvAll Tryz.prog qan := EnvAll.up (qq9) 1000
noncomputable def qbg : List Lp := []
noncomputable def qj6 (rec : qcf → Option qcg) (a : Int) (b : Int) (c : Int) (d : Int) (v : Int) (fold : Int) (fold1 : (List Int)) (fold2 : (List Int)) : Option qcg :=
  cond' ((decide (v < (12 : Int)))) (
    cond' (decide (0 ≤ (IntKind.i64.wrap (v.tdiv (4 : Int))) ∧ (IntKind.i64.wrap (v.tdiv (4 : Int))) < ((3 : Nat) : Int))) (
    (some ([(0 : Int), (60000 : Int), (0 : Int)].getD ((IntKind.i64.wrap (v.tdiv (4 : Int))).toNat) (0 : Int))).bind fun z1 =>
    (some (IntKind.i64.wrap ((60000 : Int) * ((IntKind.i64.wrap (v.tdiv (2 : Int))).tmod (2 : Int))))).bind fun z2 =>
    cond' (decide ((fold2.length + [z1, z2, (IntKind.i64.wrap ((60000 : Int) * (v.tmod (2 : Int))))].length) * 8 ≤ 140737488355328)) (
    rec (a, b, c, d, (IntKind.i64.wrap (v + (1 : Int))), fold, fold1, (fold2 ++ [z1, z2, (IntKind.i64.wrap ((60000 : Int) * (v.tmod (2 : Int))))]), ())) none) none) (
    some (a, b, c, d, fold, fold1, fold2, ()))
noncomputable def qiv : Nat → qcf → Option qcg
  | 0, _ => none
  | n + 1, x => qj6 (qiv n) x.1 x.2.1 x.2.2.1 x.2.2.2.1 x.2.2.2.2.1 x.2.2.2.2.2.1 x.2.2.2.2.2.2.1 x.2.2.2.2.2.2.2.1
theorem qra (fu : Nat) (a : Int) (b : Int) (c : Int) (d : Int) (v : Int) (fold : Int) (fold1 : (List Int)) (fold2 : (List Int)) : ev qan (fu + 1) 6 0 (.loop (loopAt Tryz.f6 0)) (qac.enc qbg (a, b, c, d, v, fold, fold1, fold2, ())) (exitD qbh) = qj6 (fun x => ev qan fu 6 0 (.loop (loopAt Tryz.f6 0)) (qac.enc qbg x) (exitD qbh)) a b c d v fold fold1 fold2 := by kernel_rfl
theorem qsp (n : Nat) (x : qcf) : ev qan n 6 0 (.loop (loopAt Tryz.f6 0)) (qac.enc qbg x) (exitD qbh) = qiv n x :=
  fuel_eq (f := fun n x => ev qan n 6 0 (.loop (loopAt Tryz.f6 0)) (qac.enc qbg x) (exitD qbh)) (st := fun rec x => qj6 rec x.1 x.2.1 x.2.2.1 x.2.2.2.1 x.2.2.2.2.1 x.2.2.2.2.2.1 x.2.2.2.2.2.2.1 x.2.2.2.2.2.2.2.1) (fun _ => rfl) (fun n x => qra n x.1 x.2.1 x.2.2.1 x.2.2.2.1 x.2.2.2.2.1 x.2.2.2.2.2.1 x.2.2.2.2.2.2.1 x.2.2.2.2.2.2.2.1) qiv (fun _ => rfl) (fun _ _ => rfl) n x
def qgw : qcf → Option qcg
  | (a, b, c, d, v, f, f1, f2, ()) => wh (v = 0 ∧ f2 = []) (a, b, c, d, f, f1, foldD, ())
theorem qsq (x : qcf) (y : qcg) (h : qgw x = some y) : ∃ n, qiv n x = some y := by
  obtain ⟨a, b, c, d, v, f, f1, f2, ⟨⟩⟩ := x
  obtain ⟨⟨h1, h2⟩, rfl⟩ := wh_some h
  subst h1; subst h2
  exact ⟨13, by kernel_rfl⟩
noncomputable def qnu : LoopC := ⟨qac, qbh, qgw⟩
theorem qrn : LoopSpec Tryz.prog gl 6 0 qnu := qd (canon := qbg) .nil (fun c hc x y h => by
  obtain rfl := loopAt_eq (fn := Tryz.f6) Tryz.func6 (by kernel_rfl) hc
  obtain ⟨n, hn⟩ := qsq x y h
  exact ⟨qan, n, rfl, qrx, (qsp n x).trans hn⟩)
noncomputable def qad : Shape := ⟨[.j, .j, .j, .dat (.int .i64), .j, .dat (.int .i64), .j, .dat (.int .i64), .j, .j, .dat (.int .i64), .j, .j, .j, .j, .dat .bool, .loc 0 [], .j, .j, .j, .j, .j, .j, .j, .j, .j, .j, .j, .j, .j, .j, .j, .j, .j, .j, .j, .j, .j, .j, .j, .j, .j, .j, .j, .j, .j, .j, .j, .j, .j, .j, .j, .j, .j, .j, .j, .j, .j, .j, .j, .j, .j, .j, .j, .j, .j, .j, .j, .j, .j, .j, .j, .j, .j, .j, .j, .j, .j, .j, .j, .j, .j, .j, .j, .j, .j, .j, .j, .j, .j, .j, .j, .j, .j, .j, .j, .j, .j, .j, .j, .dat (.int .i64), .j, .j, .j, .j, .j, .j, .j, .j, .j, .j, .j, .j, .j, .j, .j, .j, .j, .j, .j, .j, .j, .j, .j, .j, .j, .j, .j, .j, .j, .j, .j, .j, .j, .j, .j, .j, .j, .j, .j, .j, .j, .j, .j, .j, .j, .j, .j, .j, .j, .j, .j, .j, .j, .j, .j, .j, .j, .j, .j, .j, .j, .j, .j, .j, .j, .j, .j, .j, .j, .j, .j, .j, .j, .j, .j, .j, .j, .j, .j, .j, .j, .j, .j, .j, .j, .j, .j, .j, .j, .j, .j, .j, .j, .j], [[]], [.box false (.agg [.own 1 (.int .i64), .dat (.int .i64), .own 2 (.int .i64)]), .row false (.int .i64), .row false (.int .i64)], []⟩
noncomputable def qbj : List (Ex × Shape) := [(.exit 2, ⟨[.j, .j, .j, .dat (.int .i64), .j, .dat (.int .i64), .j, .dat (.int .i64), .j, .j, .dat (.int .i64), .j, .j, .j, .j, .dat .bool, .loc 0 [], .j, .j, .j, .j, .j, .j, .j, .j, .j, .j, .j, .j, .j, .j, .j, .j, .j, .j, .j, .j, .j, .j, .j, .j, .j, .j, .j, .j, .j, .j, .j, .j, .j, .j, .j, .j, .j, .j, .j, .j, .j, .j, .j, .j, .j, .j, .j, .j, .j, .j, .j, .j, .j, .j, .j, .j, .j, .j, .j, .j, .j, .j, .j, .j, .j, .j, .j, .j, .j, .j, .j, .j, .j, .j, .j, .j, .j, .j, .j, .j, .j, .j, .j, .j, .j, .j, .j, .j, .j, .j, .j, .j, .j, .j, .j, .j, .j, .j, .j, .j, .j, .j, .j, .j, .j, .j, .j, .j, .j, .j, .j, .j, .j, .j, .j, .j, .j, .j, .j, .j, .j, .j, .j, .j, .j, .j, .j, .j, .j, .j, .j, .j, .j, .j, .j, .j, .j, .j, .j, .j, .j, .j, .j, .j, .j, .j, .j, .j, .j, .j, .j, .j, .j, .j, .j, .j, .j, .j, .j, .j, .j, .j, .j, .j, .j, .j, .j, .j, .j, .j, .j, .j, .j, .j, .j, .j, .j, .j], [[]], [.box false (.agg [.own 1 (.int .i64), .dat (.int .i64), .own 2 (.int .i64)]), .row false (.int .i64), .row false (.int .i64)], []⟩)]
abbrev qch : Type := Int × Int × Int × Int × Bool × Int × Int × (List Int) × (List Int) × Unit
abbrev qci : Type := (Int × Int × Int × Int × Bool × Int × (List Int) × (List Int) × Unit)
noncomputable def qne : Env := Env.mk' tyF fnF gl (lookT []) (lookL []) (fun f c => match Nat.beq f 6 && Nat.beq c 2 with | true => some qad | false => none)
theorem qrb : EnvAll Tryz.prog qne := EnvAll.mk' tabs _ (qb trivial) (qa trivial)
noncomputable def qao : Env := (qne).up 1000
theorem qry : EnvAll Tryz.prog qao := EnvAll.up (qrb) 1000
noncomputable def qbi : List Lp := []
noncomputable def qj7 (rec : qch → Option qci) (a : Int) (b : Int) (c : Int) (d : Int) (twice : Bool) (v : Int) (half : Int) (half1 : (List Int)) (half2 : (List Int)) : Option qci :=
  cond' ((decide (v < (12 : Int)))) (
    cond' (decide (0 ≤ (IntKind.i64.wrap (v.tdiv (4 : Int))) ∧ (IntKind.i64.wrap (v.tdiv (4 : Int))) < ((3 : Nat) : Int))) (
    (some ([(0 : Int), (0 : Int), (60000 : Int)].getD ((IntKind.i64.wrap (v.tdiv (4 : Int))).toNat) (0 : Int))).bind fun z1 =>
    (some (IntKind.i64.wrap ((60000 : Int) * ((IntKind.i64.wrap (v.tdiv (2 : Int))).tmod (2 : Int))))).bind fun z2 =>
    cond' (decide ((half2.length + [z1, z2, (IntKind.i64.wrap ((60000 : Int) * (v.tmod (2 : Int))))].length) * 8 ≤ 140737488355328)) (
    rec (a, b, c, d, twice, (IntKind.i64.wrap (v + (1 : Int))), half, half1, (half2 ++ [z1, z2, (IntKind.i64.wrap ((60000 : Int) * (v.tmod (2 : Int))))]), ())) none) none) (
    some (a, b, c, d, twice, half, half1, half2, ()))
noncomputable def qiw : Nat → qch → Option qci
  | 0, _ => none
  | n + 1, x => qj7 (qiw n) x.1 x.2.1 x.2.2.1 x.2.2.2.1 x.2.2.2.2.1 x.2.2.2.2.2.1 x.2.2.2.2.2.2.1 x.2.2.2.2.2.2.2.1 x.2.2.2.2.2.2.2.2.1
theorem qrc (fu : Nat) (a : Int) (b : Int) (c : Int) (d : Int) (twice : Bool) (v : Int) (half : Int) (half1 : (List Int)) (half2 : (List Int)) : ev qao (fu + 1) 6 2 (.loop (loopAt Tryz.f6 2)) (qad.enc qbi (a, b, c, d, twice, v, half, half1, half2, ())) (exitD qbj) = qj7 (fun x => ev qao fu 6 2 (.loop (loopAt Tryz.f6 2)) (qad.enc qbi x) (exitD qbj)) a b c d twice v half half1 half2 := by kernel_rfl
theorem qsr (n : Nat) (x : qch) : ev qao n 6 2 (.loop (loopAt Tryz.f6 2)) (qad.enc qbi x) (exitD qbj) = qiw n x :=
  fuel_eq (f := fun n x => ev qao n 6 2 (.loop (loopAt Tryz.f6 2)) (qad.enc qbi x) (exitD qbj)) (st := fun rec x => qj7 rec x.1 x.2.1 x.2.2.1 x.2.2.2.1 x.2.2.2.2.1 x.2.2.2.2.2.1 x.2.2.2.2.2.2.1 x.2.2.2.2.2.2.2.1 x.2.2.2.2.2.2.2.2.1) (fun _ => rfl) (fun n x => qrc n x.1 x.2.1 x.2.2.1 x.2.2.2.1 x.2.2.2.2.1 x.2.2.2.2.2.1 x.2.2.2.2.2.2.1 x.2.2.2.2.2.2.2.1 x.2.2.2.2.2.2.2.2.1) qiw (fun _ => rfl) (fun _ _ => rfl) n x
def qap : qch → Option qci
  | (a, b, c, d, tw, v, f, f1, f2, ()) => wh (v = 0 ∧ f2 = []) (a, b, c, d, tw, f, f1, halfD, ())
theorem qss (x : qch) (y : qci) (h : qap x = some y) : ∃ n, qiw n x = some y := by
  obtain ⟨a, b, c, d, tw, v, f, f1, f2, ⟨⟩⟩ := x
  obtain ⟨⟨h1, h2⟩, rfl⟩ := wh_some h
  subst h1; subst h2
  exact ⟨13, by kernel_rfl⟩
noncomputable def qnv : LoopC := ⟨qad, qbj, qap⟩
theorem qro : LoopSpec Tryz.prog gl 6 2 qnv := qd (canon := qbi) .nil (fun c hc x y h => by
  obtain rfl := loopAt_eq (fn := Tryz.f6) Tryz.func6 (by kernel_rfl) hc
  obtain ⟨n, hn⟩ := qss x y h
  exact ⟨qao, n, rfl, qry, (qsr n x).trans hn⟩)
noncomputable def qae : Shape := ⟨[.loc 0 [], .loc 1 [], .j, .j, .j, .dat (.int .i64), .j, .j, .j, .j, .j, .j, .j, .j, .j, .j, .j, .j, .j, .j, .j, .j, .j, .j, .j], [[.j, .j, .j, .dat (.int .i64), .j, .dat (.int .i64), .j, .dat (.int .i64), .j, .j, .dat (.int .i64), .j, .j, .j, .j, .dat .bool, .j, .j, .dat .bool, .j, .j, .j, .j, .j, .j, .j, .j, .j, .j, .j, .j, .j, .j, .j, .j, .j, .j, .j, .j, .j, .j, .j, .j, .j, .j, .j, .j, .j, .j, .j, .j, .j, .j, .j, .j, .j, .j, .j, .j, .j, .j, .j, .j, .j, .j, .j, .j, .j, .j, .j, .j, .j, .j, .j, .j, .j, .j, .j, .j, .j, .j, .j, .j, .j, .j, .j, .j, .j, .j, .j, .j, .j, .j, .j, .j, .j, .j, .j, .j, .j, .j, .j, .j, .j, .j, .j, .j, .j, .j, .j, .j, .j, .j, .j, .j, .j, .j, .j, .j, .j, .j, .j, .j, .j, .j, .j, .j, .j, .j, .j, .j, .j, .j, .j, .j, .j, .j, .j, .j, .j, .j, .j, .j, .j, .j, .j, .j, .j, .j, .j, .j, .j, .j, .j, .j, .j, .j, .j, .j, .j, .j, .j, .j, .j, .j, .j, .j, .j, .j, .j, .j, .j, .j, .j, .j, .j, .j, .j, .j, .j, .j, .j, .j, .j, .j, .j, .j, .j, .j, .j, .j, .j, .j, .j, .j], []], [.box false (.agg [.nils, .dat (.int .i64), .nils]), .box false (.agg [.own 2 (.int .i64), .dat (.int .i64), .own 3 (.int .i64)]), .row false (.int .i64), .row false (.int .i64)], []⟩
noncomputable def qbl : List (Ex × Shape) := [(.exit 0, ⟨[.loc 0 [], .loc 1 [], .j, .j, .j, .j, .j, .j, .j, .j, .j, .j, .j, .j, .j, .j, .j, .j, .j, .j, .j, .j, .j, .j, .j], [[.j, .j, .j, .dat (.int .i64), .j, .dat (.int .i64), .j, .dat (.int .i64), .j, .j, .dat (.int .i64), .j, .j, .j, .j, .dat .bool, .j, .j, .dat .bool, .j, .j, .j, .j, .j, .j, .j, .j, .j, .j, .j, .j, .j, .j, .j, .j, .j, .j, .j, .j, .j, .j, .j, .j, .j, .j, .j, .j, .j, .j, .j, .j, .j, .j, .j, .j, .j, .j, .j, .j, .j, .j, .j, .j, .j, .j, .j, .j, .j, .j, .j, .j, .j, .j, .j, .j, .j, .j, .j, .j, .j, .j, .j, .j, .j, .j, .j, .j, .j, .j, .j, .j, .j, .j, .j, .j, .j, .j, .j, .j, .j, .j, .j, .j, .j, .j, .j, .j, .j, .j, .j, .j, .j, .j, .j, .j, .j, .j, .j, .j, .j, .j, .j, .j, .j, .j, .j, .j, .j, .j, .j, .j, .j, .j, .j, .j, .j, .j, .j, .j, .j, .j, .j, .j, .j, .j, .j, .j, .j, .j, .j, .j, .j, .j, .j, .j, .j, .j, .j, .j, .j, .j, .j, .j, .j, .j, .j, .j, .j, .j, .j, .j, .j, .j, .j, .j, .j, .j, .j, .j, .j, .j, .j, .j, .j, .j, .j, .j, .j, .j, .j, .j, .j, .j, .j, .j], []], [.box false (.agg [.nils, .dat (.int .i64), .nils]), .box false (.agg [.own 2 (.int .i64), .dat (.int .i64), .own 3 (.int .i64)]), .row false (.int .i64), .row false (.int .i64)], []⟩)]
abbrev qcj : Type := Int × Int × Int × Int × Int × Bool × Bool × Int × Int × (List Int) × (List Int) × Unit
abbrev qck : Type := (Int × Int × Int × Int × Bool × Bool × Int × Int × (List Int) × (List Int) × Unit)
noncomputable def qnf : Env := Env.mk' tyF fnF gl (lookT []) (lookL []) (fun f c => match Nat.beq f 20 && Nat.beq c 0 with | true => some qae | false => none)
theorem qrd : EnvAll Tryz.prog qnf := EnvAll.mk' tabs _ (qb trivial) (qa trivial)
noncomputable def qaq : Env := (qnf).up 1000
theorem qrz : EnvAll Tryz.prog qaq := EnvAll.up (qrd) 1000
noncomputable def qbk : List Lp := []
noncomputable def qj8 (rec : qcj → Option qck) (v : Int) (o : Int) (o1 : Int) (o2 : Int) (o3 : Int) (o4 : Bool) (o5 : Bool) (v1 : Int) (g : Int) (g1 : (List Int)) (g2 : (List Int)) : Option qck :=
  cond' ((decide (v < (8 : Int)))) (
    (some (IntKind.i64.wrap ((65535 : Int) * (IntKind.i64.wrap (v.tdiv (4 : Int)))))).bind fun z1 =>
    (some (IntKind.i64.wrap ((65535 : Int) * ((IntKind.i64.wrap (v.tdiv (2 : Int))).tmod (2 : Int))))).bind fun z2 =>
    cond' (decide ((g2.length + [z1, z2, (IntKind.i64.wrap ((65535 : Int) * (v.tmod (2 : Int))))].length) * 8 ≤ 140737488355328)) (
    rec ((IntKind.i64.wrap (v + (1 : Int))), o, o1, o2, o3, o4, o5, v1, g, g1, (g2 ++ [z1, z2, (IntKind.i64.wrap ((65535 : Int) * (v.tmod (2 : Int))))]), ())) none) (
    some (o, o1, o2, o3, o4, o5, v1, g, g1, g2, ()))
noncomputable def qix : Nat → qcj → Option qck
  | 0, _ => none
  | n + 1, x => qj8 (qix n) x.1 x.2.1 x.2.2.1 x.2.2.2.1 x.2.2.2.2.1 x.2.2.2.2.2.1 x.2.2.2.2.2.2.1 x.2.2.2.2.2.2.2.1 x.2.2.2.2.2.2.2.2.1 x.2.2.2.2.2.2.2.2.2.1 x.2.2.2.2.2.2.2.2.2.2.1
theorem qre (fu : Nat) (v : Int) (o : Int) (o1 : Int) (o2 : Int) (o3 : Int) (o4 : Bool) (o5 : Bool) (v1 : Int) (g : Int) (g1 : (List Int)) (g2 : (List Int)) : ev qaq (fu + 1) 20 0 (.loop (loopAt Tryz.f20 0)) (qae.enc qbk (v, o, o1, o2, o3, o4, o5, v1, g, g1, g2, ())) (exitD qbl) = qj8 (fun x => ev qaq fu 20 0 (.loop (loopAt Tryz.f20 0)) (qae.enc qbk x) (exitD qbl)) v o o1 o2 o3 o4 o5 v1 g g1 g2 := by kernel_rfl
theorem qst (n : Nat) (x : qcj) : ev qaq n 20 0 (.loop (loopAt Tryz.f20 0)) (qae.enc qbk x) (exitD qbl) = qix n x :=
  fuel_eq (f := fun n x => ev qaq n 20 0 (.loop (loopAt Tryz.f20 0)) (qae.enc qbk x) (exitD qbl)) (st := fun rec x => qj8 rec x.1 x.2.1 x.2.2.1 x.2.2.2.1 x.2.2.2.2.1 x.2.2.2.2.2.1 x.2.2.2.2.2.2.1 x.2.2.2.2.2.2.2.1 x.2.2.2.2.2.2.2.2.1 x.2.2.2.2.2.2.2.2.2.1 x.2.2.2.2.2.2.2.2.2.2.1) (fun _ => rfl) (fun n x => qre n x.1 x.2.1 x.2.2.1 x.2.2.2.1 x.2.2.2.2.1 x.2.2.2.2.2.1 x.2.2.2.2.2.2.1 x.2.2.2.2.2.2.2.1 x.2.2.2.2.2.2.2.2.1 x.2.2.2.2.2.2.2.2.2.1 x.2.2.2.2.2.2.2.2.2.2.1) qix (fun _ => rfl) (fun _ _ => rfl) n x
def qar : qcj → Option qck
  | (v, o, o1, o2, o3, o4, o5, v1, g, g1, g2, ()) => wh (v = 0 ∧ g2 = []) (o, o1, o2, o3, o4, o5, v1, g, g1, cubeD, ())
theorem qsu (x : qcj) (y : qck) (h : qar x = some y) : ∃ n, qix n x = some y := by
  obtain ⟨v, o, o1, o2, o3, o4, o5, v1, g, g1, g2, ⟨⟩⟩ := x
  obtain ⟨⟨h1, h2⟩, rfl⟩ := wh_some h
  subst h1; subst h2
  exact ⟨9, by kernel_rfl⟩
noncomputable def qnw : LoopC := ⟨qae, qbl, qar⟩
theorem qrp : LoopSpec Tryz.prog gl 20 0 qnw := qd (canon := qbk) .nil (fun c hc x y h => by
  obtain rfl := loopAt_eq (fn := Tryz.f20) Tryz.func20 (by kernel_rfl) hc
  obtain ⟨n, hn⟩ := qsu x y h
  exact ⟨qaq, n, rfl, qrz, (qst n x).trans hn⟩)
noncomputable def qaf : Shape := ⟨[.j, .j, .j, .dat (.int .i64), .j, .dat (.int .i64), .j, .dat (.int .i64), .j, .j, .dat (.int .i64), .j, .j, .j, .j, .dat .bool, .j, .j, .dat .bool, .loc 0 [], .j, .j, .j, .j, .j, .j, .j, .j, .j, .j, .j, .j, .j, .j, .j, .j, .j, .j, .j, .j, .j, .j, .j, .j, .j, .j, .j, .j, .j, .j, .j, .j, .j, .j, .j, .j, .j, .j, .j, .j, .j, .j, .j, .j, .j, .j, .j, .j, .j, .j, .j, .j, .j, .j, .j, .j, .j, .j, .j, .j, .j, .j, .j, .j, .j, .j, .j, .j, .j, .j, .j, .j, .j, .j, .j, .j, .j, .j, .j, .j, .j, .j, .j, .j, .j, .j, .j, .j, .j, .j, .j, .j, .j, .j, .j, .j, .j, .j, .j, .j, .j, .j, .j, .j, .j, .j, .j, .j, .dat (.int .i64), .j, .j, .j, .j, .j, .j, .j, .j, .j, .j, .j, .j, .j, .j, .j, .j, .j, .j, .j, .j, .j, .j, .j, .j, .j, .j, .j, .j, .j, .j, .j, .j, .j, .j, .j, .j, .j, .j, .j, .j, .j, .j, .j, .j, .j, .j, .j, .j, .j, .j, .j, .j, .j, .j, .j, .j, .j, .j, .j, .j, .j, .j, .j, .j, .j, .j], [[]], [.box false (.agg [.own 1 (.int .i64), .dat (.int .i64), .own 2 (.int .i64)]), .row false (.int .i64), .row false (.int .i64)], []⟩
noncomputable def qbn : List (Ex × Shape) := [(.exit 4, ⟨[.j, .j, .j, .dat (.int .i64), .j, .dat (.int .i64), .j, .dat (.int .i64), .j, .j, .dat (.int .i64), .j, .j, .j, .j, .dat .bool, .j, .j, .dat .bool, .loc 0 [], .j, .j, .j, .j, .j, .j, .j, .j, .j, .j, .j, .j, .j, .j, .j, .j, .j, .j, .j, .j, .j, .j, .j, .j, .j, .j, .j, .j, .j, .j, .j, .j, .j, .j, .j, .j, .j, .j, .j, .j, .j, .j, .j, .j, .j, .j, .j, .j, .j, .j, .j, .j, .j, .j, .j, .j, .j, .j, .j, .j, .j, .j, .j, .j, .j, .j, .j, .j, .j, .j, .j, .j, .j, .j, .j, .j, .j, .j, .j, .j, .j, .j, .j, .j, .j, .j, .j, .j, .j, .j, .j, .j, .j, .j, .j, .j, .j, .j, .j, .j, .j, .j, .j, .j, .j, .j, .j, .j, .j, .j, .j, .j, .j, .j, .j, .j, .j, .j, .j, .j, .j, .j, .j, .j, .j, .j, .j, .j, .j, .j, .j, .j, .j, .j, .j, .j, .j, .j, .j, .j, .j, .j, .j, .j, .j, .j, .j, .j, .j, .j, .j, .j, .j, .j, .j, .j, .j, .j, .j, .j, .j, .j, .j, .j, .j, .j, .j, .j, .j, .j, .j, .j, .j, .j, .j], [[]], [.box false (.agg [.own 1 (.int .i64), .dat (.int .i64), .own 2 (.int .i64)]), .row false (.int .i64), .row false (.int .i64)], []⟩)]
abbrev qcl : Type := Int × Int × Int × Int × Bool × Bool × Int × Int × (List Int) × (List Int) × Unit
abbrev qcm : Type := (Int × Int × Int × Int × Bool × Bool × Int × (List Int) × (List Int) × Unit)
noncomputable def qng : Env := Env.mk' tyF fnF gl (lookT []) (lookL []) (fun f c => match Nat.beq f 6 && Nat.beq c 4 with | true => some qaf | false => none)
theorem qrf : EnvAll Tryz.prog qng := EnvAll.mk' tabs _ (qb trivial) (qa trivial)
noncomputable def qas : Env := (qng).up 1000
theorem qr0 : EnvAll Tryz.prog qas := EnvAll.up (qrf) 1000
noncomputable def qbm : List Lp := []
noncomputable def qj9 (rec : qcl → Option qcm) (a : Int) (b : Int) (c : Int) (d : Int) (twice : Bool) (past : Bool) (v : Int) (turned : Int) (turned1 : (List Int)) (turned2 : (List Int)) : Option qcm :=
  cond' ((decide (v < (8 : Int)))) (
    (some (IntKind.i64.wrap ((IntKind.i64.wrap ((3 : Int) * v)) + (1 : Int)))).bind fun z1 =>
    (some (IntKind.i64.wrap ((IntKind.i64.wrap ((3 : Int) * v)) + (1 : Int)))).bind fun z2 =>
    cond' (decide (0 ≤ z2 ∧ z2 < ((turned2.length : Nat) : Int))) (
    cond' (decide (0 ≤ (IntKind.i64.wrap ((3 : Int) * v)) ∧ (IntKind.i64.wrap ((3 : Int) * v)) < ((turned2.length : Nat) : Int))) (
    (some (turned2.getD ((IntKind.i64.wrap ((3 : Int) * v)).toNat) (0 : Int))).bind fun z3 =>
    cond' (decide (0 ≤ (IntKind.i64.wrap ((3 : Int) * v)) ∧ (IntKind.i64.wrap ((3 : Int) * v)) < ((turned2.length : Nat) : Int))) (
    cond' (decide (0 ≤ z1 ∧ z1 < (((turned2.set ((IntKind.i64.wrap ((3 : Int) * v)).toNat) (turned2.getD z2.toNat (0 : Int))).length : Nat) : Int))) (
    rec (a, b, c, d, twice, past, (IntKind.i64.wrap (v + (1 : Int))), turned, turned1, ((turned2.set ((IntKind.i64.wrap ((3 : Int) * v)).toNat) (turned2.getD z2.toNat (0 : Int))).set z1.toNat z3), ())) none) none) none) none) (
    some (a, b, c, d, twice, past, turned, turned1, turned2, ()))
noncomputable def qiy : Nat → qcl → Option qcm
  | 0, _ => none
  | n + 1, x => qj9 (qiy n) x.1 x.2.1 x.2.2.1 x.2.2.2.1 x.2.2.2.2.1 x.2.2.2.2.2.1 x.2.2.2.2.2.2.1 x.2.2.2.2.2.2.2.1 x.2.2.2.2.2.2.2.2.1 x.2.2.2.2.2.2.2.2.2.1
theorem qrg (fu : Nat) (a : Int) (b : Int) (c : Int) (d : Int) (twice : Bool) (past : Bool) (v : Int) (turned : Int) (turned1 : (List Int)) (turned2 : (List Int)) : ev qas (fu + 1) 6 4 (.loop (loopAt Tryz.f6 4)) (qaf.enc qbm (a, b, c, d, twice, past, v, turned, turned1, turned2, ())) (exitD qbn) = qj9 (fun x => ev qas fu 6 4 (.loop (loopAt Tryz.f6 4)) (qaf.enc qbm x) (exitD qbn)) a b c d twice past v turned turned1 turned2 := by kernel_rfl
theorem qsv (n : Nat) (x : qcl) : ev qas n 6 4 (.loop (loopAt Tryz.f6 4)) (qaf.enc qbm x) (exitD qbn) = qiy n x :=
  fuel_eq (f := fun n x => ev qas n 6 4 (.loop (loopAt Tryz.f6 4)) (qaf.enc qbm x) (exitD qbn)) (st := fun rec x => qj9 rec x.1 x.2.1 x.2.2.1 x.2.2.2.1 x.2.2.2.2.1 x.2.2.2.2.2.1 x.2.2.2.2.2.2.1 x.2.2.2.2.2.2.2.1 x.2.2.2.2.2.2.2.2.1 x.2.2.2.2.2.2.2.2.2.1) (fun _ => rfl) (fun n x => qrg n x.1 x.2.1 x.2.2.1 x.2.2.2.1 x.2.2.2.2.1 x.2.2.2.2.2.1 x.2.2.2.2.2.2.1 x.2.2.2.2.2.2.2.1 x.2.2.2.2.2.2.2.2.1 x.2.2.2.2.2.2.2.2.2.1) qiy (fun _ => rfl) (fun _ _ => rfl) n x
def qat : qcl → Option qcm
  | (a, b, c, d, tw, pa, v, f, f1, f2, ()) => wh (v = 0 ∧ f2 = cubeD) (a, b, c, d, tw, pa, f, f1, turnD, ())
theorem qsw (x : qcl) (y : qcm) (h : qat x = some y) : ∃ n, qiy n x = some y := by
  obtain ⟨a, b, c, d, tw, pa, v, f, f1, f2, ⟨⟩⟩ := x
  obtain ⟨⟨h1, h2⟩, rfl⟩ := wh_some h
  subst h1; subst h2
  exact ⟨9, by kernel_rfl⟩
noncomputable def qnx : LoopC := ⟨qaf, qbn, qat⟩
theorem qrq : LoopSpec Tryz.prog gl 6 4 qnx := qd (canon := qbm) .nil (fun c hc x y h => by
  obtain rfl := loopAt_eq (fn := Tryz.f6) Tryz.func6 (by kernel_rfl) hc
  obtain ⟨n, hn⟩ := qsw x y h
  exact ⟨qas, n, rfl, qr0, (qsv n x).trans hn⟩)
noncomputable def qo4 : Env := Env.mk' tyF fnF gl (lookT [(14, ⟨[(false, (.prod (.slice (.int .i64)) (.prod (.int .i64) (.prod (.slice (.int .i64)) .unit)))), (false, (.slice (.int .i64)))], [(false, (.int .i64)), (false, (.int .i64))], qdj⟩), (12, ⟨[(false, (.prod (.slice (.int .i64)) (.prod (.int .i64) (.prod (.slice (.int .i64)) .unit)))), (false, (.slice (.int .i64)))], [(false, (.slice (.prod .str (.prod .str .unit)))), (false, (.int .i64)), (false, (.int .i64))], qm⟩), (19, ⟨[(false, (.prod (.slice (.int .i64)) (.prod (.int .i64) (.prod (.slice (.int .i64)) .unit)))), (false, (.arr 3 (.int .i64))), (false, (.int .i64)), (false, (.slice (.prod .str (.prod .str .unit))))], [(false, .bool)], qi⟩), (18, ⟨[(false, (.int .i64)), (false, (.int .i64))], [(false, (.prod .str (.prod .str .unit)))], qf⟩), (17, ⟨[], [(false, .bool)], qmg⟩)]) (lookL [(6, 0, [qnu]), (6, 2, [qnv]), (6, 4, [qnx]), (20, 0, [qo1, qo0, qnw, qnt])]) (fun _ _ => none)
theorem qtv : EnvAll Tryz.prog qo4 := EnvAll.mk' tabs _ (qb ⟨spec_locate_Holds, ⟨spec_locate_Locate, ⟨spec_law22_finds, ⟨spec_law22_of, ⟨spec_law22_works, trivial⟩⟩⟩⟩⟩) (qa ⟨⟨qrn, trivial⟩, ⟨⟨qro, trivial⟩, ⟨⟨qrq, trivial⟩, ⟨⟨qqd, ⟨qqc, ⟨qrp, ⟨qrm, trivial⟩⟩⟩⟩, trivial⟩⟩⟩⟩)
noncomputable def qm3 : Env := (qo4).up 1000
theorem qud : EnvAll Tryz.prog qm3 := EnvAll.up (qtv) 1000
noncomputable def law22_LocateKnown  : Option (Bool × Unit) :=
  (qmg ()).bind fun y1 =>
  cond' ((!y1.1)) (
    some (false, ())) (
    (qm ((([] : List Int), (0 : Int), ([] : List Int), ()), ([] : List Int), ())).bind fun y2 =>
    (qdj (([(2 : Int), (2 : Int)], (3 : Int), [(0 : Int), (0 : Int), (0 : Int), (0 : Int), (0 : Int), (0 : Int), (0 : Int), (0 : Int), (0 : Int), (0 : Int), (0 : Int), (0 : Int)], ()), [(0 : Int), (0 : Int), (0 : Int)], ())).bind fun y3 =>
    (qgv ((0 : Int), y2.2.2.1, y3.2.1, (0 : Int), (3 : Int), [(2 : Int), (2 : Int), (2 : Int)], ([] : List Int), ())).bind fun y4 =>
    (qdj ((y4.2.2.2.2.1, y4.2.2.2.1, y4.2.2.2.2.2.1, ()), [(0 : Int), (-1 : Int), (0 : Int)], ())).bind fun y5 =>
    (qm (([(2 : Int), (2 : Int), (2 : Int)], (2 : Int), [(0 : Int), (0 : Int), (0 : Int), (0 : Int), (0 : Int), (0 : Int), (0 : Int), (0 : Int), (0 : Int), (0 : Int), (0 : Int), (0 : Int), (0 : Int), (0 : Int), (0 : Int), (0 : Int)], ()), [(0 : Int), (0 : Int), (0 : Int)], ())).bind fun y6 =>
    (qgw (y4.1, y4.2.1, y5.2.1, y6.2.2.1, (0 : Int), (3 : Int), [(3 : Int), (2 : Int), (2 : Int)], ([] : List Int), ())).bind fun y7 =>
    (qdj ((y7.2.2.2.2.2.1, y7.2.2.2.2.1, y7.2.2.2.2.2.2.1, ()), [(30000 : Int), (10000 : Int), (20000 : Int)], ())).bind fun y8 =>
    (qf ((1 : Int), (4 : Int), ())).bind fun y9 =>
    (qf ((1 : Int), (6 : Int), ())).bind fun y10 =>
    (qf ((1 : Int), (3 : Int), ())).bind fun y11 =>
    (qi ((y7.2.2.2.2.2.1, y7.2.2.2.2.1, y7.2.2.2.2.2.2.1, ()), [(30000 : Int), (10000 : Int), (20000 : Int)], (1 : Int), [y9.1, y10.1, y11.1], ())).bind fun y12 =>
    cond' (y12.1) (
      cond' ((y8.1 == (2 : Int))) (
        (qap (y7.1, y7.2.1, y7.2.2.1, y7.2.2.2.1, (y8.2.1 == (0 : Int)), (0 : Int), (3 : Int), [(3 : Int), (2 : Int), (2 : Int)], ([] : List Int), ())).bind fun y13 =>
        (qf ((1 : Int), (2 : Int), ())).bind fun y14 =>
        (qf ((1 : Int), (2 : Int), ())).bind fun y15 =>
        (qf ((0 : Int), (1 : Int), ())).bind fun y16 =>
        (qi ((y13.2.2.2.2.2.2.1, y13.2.2.2.2.2.1, y13.2.2.2.2.2.2.2.1, ()), [(0 : Int), (30000 : Int), (0 : Int)], (8 : Int), [y14.1, y15.1, y16.1], ())).bind fun y17 =>
        (qar ((0 : Int), y13.1, y13.2.1, y13.2.2.1, y13.2.2.2.1, y13.2.2.2.2.1, y17.1, (0 : Int), (3 : Int), [(2 : Int), (2 : Int), (2 : Int)], ([] : List Int), ())).bind fun y18 =>
        (qat (y18.1, y18.2.1, y18.2.2.1, y18.2.2.2.1, y18.2.2.2.2.1, y18.2.2.2.2.2.1, (0 : Int), y18.2.2.2.2.2.2.2.1, y18.2.2.2.2.2.2.2.2.1, y18.2.2.2.2.2.2.2.2.2.1, ())).bind fun y19 =>
        (qf ((1 : Int), (1 : Int), ())).bind fun y20 =>
        (qf ((1 : Int), (1 : Int), ())).bind fun y21 =>
        (qf ((1 : Int), (1 : Int), ())).bind fun y22 =>
        (qi ((y19.2.2.2.2.2.2.2.1, y19.2.2.2.2.2.2.1, y19.2.2.2.2.2.2.2.2.1, ()), [(65535 : Int), (65535 : Int), (65535 : Int)], (0 : Int), [y20.1, y21.1, y22.1], ())).bind fun y23 =>
        cond' (y23.1) (
          (qf ((2 : Int), (5 : Int), ())).bind fun y24 =>
          (qf ((1 : Int), (5 : Int), ())).bind fun y25 =>
          (qf ((3 : Int), (5 : Int), ())).bind fun y26 =>
          (qi ((y19.2.2.2.2.2.2.2.1, y19.2.2.2.2.2.2.1, y19.2.2.2.2.2.2.2.2.1, ()), [(13107 : Int), (26214 : Int), (39321 : Int)], (4 : Int), [y24.1, y25.1, y26.1], ())).bind fun y27 =>
          cond' ((y19.1 == (100 : Int))) (
            cond' ((y19.2.1 == (2 : Int))) (
              cond' ((y19.2.2.1 == (2 : Int))) (
                cond' ((y19.2.2.2.1 == (2 : Int))) (
                  cond' (y19.2.2.2.2.1) (
                    cond' (y19.2.2.2.2.2.1) (
                      some (y27.1, ())) (
                      some (false, ()))) (
                    some (false, ()))) (
                  some (false, ()))) (
                some (false, ()))) (
              some (false, ()))) (
            some (false, ()))) (
          cond' ((y19.1 == (100 : Int))) (
            cond' ((y19.2.1 == (2 : Int))) (
              cond' ((y19.2.2.1 == (2 : Int))) (
                cond' ((y19.2.2.2.1 == (2 : Int))) (
                  cond' (y19.2.2.2.2.1) (
                    cond' (y19.2.2.2.2.2.1) (
                      some (false, ())) (
                      some (false, ()))) (
                    some (false, ()))) (
                  some (false, ()))) (
                some (false, ()))) (
              some (false, ()))) (
            some (false, ())))) (
        (qap (y7.1, y7.2.1, y7.2.2.1, y7.2.2.2.1, false, (0 : Int), (3 : Int), [(3 : Int), (2 : Int), (2 : Int)], ([] : List Int), ())).bind fun y28 =>
        (qf ((1 : Int), (2 : Int), ())).bind fun y29 =>
        (qf ((1 : Int), (2 : Int), ())).bind fun y30 =>
        (qf ((0 : Int), (1 : Int), ())).bind fun y31 =>
        (qi ((y28.2.2.2.2.2.2.1, y28.2.2.2.2.2.1, y28.2.2.2.2.2.2.2.1, ()), [(0 : Int), (30000 : Int), (0 : Int)], (8 : Int), [y29.1, y30.1, y31.1], ())).bind fun y32 =>
        (qar ((0 : Int), y28.1, y28.2.1, y28.2.2.1, y28.2.2.2.1, y28.2.2.2.2.1, y32.1, (0 : Int), (3 : Int), [(2 : Int), (2 : Int), (2 : Int)], ([] : List Int), ())).bind fun y33 =>
        (qat (y33.1, y33.2.1, y33.2.2.1, y33.2.2.2.1, y33.2.2.2.2.1, y33.2.2.2.2.2.1, (0 : Int), y33.2.2.2.2.2.2.2.1, y33.2.2.2.2.2.2.2.2.1, y33.2.2.2.2.2.2.2.2.2.1, ())).bind fun y34 =>
        (qf ((1 : Int), (1 : Int), ())).bind fun y35 =>
        (qf ((1 : Int), (1 : Int), ())).bind fun y36 =>
        (qf ((1 : Int), (1 : Int), ())).bind fun y37 =>
        (qi ((y34.2.2.2.2.2.2.2.1, y34.2.2.2.2.2.2.1, y34.2.2.2.2.2.2.2.2.1, ()), [(65535 : Int), (65535 : Int), (65535 : Int)], (0 : Int), [y35.1, y36.1, y37.1], ())).bind fun y38 =>
        cond' (y38.1) (
          (qf ((2 : Int), (5 : Int), ())).bind fun y39 =>
          (qf ((1 : Int), (5 : Int), ())).bind fun y40 =>
          (qf ((3 : Int), (5 : Int), ())).bind fun y41 =>
          (qi ((y34.2.2.2.2.2.2.2.1, y34.2.2.2.2.2.2.1, y34.2.2.2.2.2.2.2.2.1, ()), [(13107 : Int), (26214 : Int), (39321 : Int)], (4 : Int), [y39.1, y40.1, y41.1], ())).bind fun y42 =>
          cond' ((y34.1 == (100 : Int))) (
            cond' ((y34.2.1 == (2 : Int))) (
              cond' ((y34.2.2.1 == (2 : Int))) (
                cond' ((y34.2.2.2.1 == (2 : Int))) (
                  cond' (y34.2.2.2.2.1) (
                    cond' (y34.2.2.2.2.2.1) (
                      some (y42.1, ())) (
                      some (false, ()))) (
                    some (false, ()))) (
                  some (false, ()))) (
                some (false, ()))) (
              some (false, ()))) (
            some (false, ()))) (
          cond' ((y34.1 == (100 : Int))) (
            cond' ((y34.2.1 == (2 : Int))) (
              cond' ((y34.2.2.1 == (2 : Int))) (
                cond' ((y34.2.2.2.1 == (2 : Int))) (
                  cond' (y34.2.2.2.2.1) (
                    cond' (y34.2.2.2.2.2.1) (
                      some (false, ())) (
                      some (false, ()))) (
                    some (false, ()))) (
                  some (false, ()))) (
                some (false, ()))) (
              some (false, ()))) (
            some (false, ()))))) (
      (qap (y7.1, y7.2.1, y7.2.2.1, y7.2.2.2.1, false, (0 : Int), (3 : Int), [(3 : Int), (2 : Int), (2 : Int)], ([] : List Int), ())).bind fun y43 =>
      (qf ((1 : Int), (2 : Int), ())).bind fun y44 =>
      (qf ((1 : Int), (2 : Int), ())).bind fun y45 =>
      (qf ((0 : Int), (1 : Int), ())).bind fun y46 =>
      (qi ((y43.2.2.2.2.2.2.1, y43.2.2.2.2.2.1, y43.2.2.2.2.2.2.2.1, ()), [(0 : Int), (30000 : Int), (0 : Int)], (8 : Int), [y44.1, y45.1, y46.1], ())).bind fun y47 =>
      (qar ((0 : Int), y43.1, y43.2.1, y43.2.2.1, y43.2.2.2.1, y43.2.2.2.2.1, y47.1, (0 : Int), (3 : Int), [(2 : Int), (2 : Int), (2 : Int)], ([] : List Int), ())).bind fun y48 =>
      (qat (y48.1, y48.2.1, y48.2.2.1, y48.2.2.2.1, y48.2.2.2.2.1, y48.2.2.2.2.2.1, (0 : Int), y48.2.2.2.2.2.2.2.1, y48.2.2.2.2.2.2.2.2.1, y48.2.2.2.2.2.2.2.2.2.1, ())).bind fun y49 =>
      (qf ((1 : Int), (1 : Int), ())).bind fun y50 =>
      (qf ((1 : Int), (1 : Int), ())).bind fun y51 =>
      (qf ((1 : Int), (1 : Int), ())).bind fun y52 =>
      (qi ((y49.2.2.2.2.2.2.2.1, y49.2.2.2.2.2.2.1, y49.2.2.2.2.2.2.2.2.1, ()), [(65535 : Int), (65535 : Int), (65535 : Int)], (0 : Int), [y50.1, y51.1, y52.1], ())).bind fun y53 =>
      cond' (y53.1) (
        (qf ((2 : Int), (5 : Int), ())).bind fun y54 =>
        (qf ((1 : Int), (5 : Int), ())).bind fun y55 =>
        (qf ((3 : Int), (5 : Int), ())).bind fun y56 =>
        (qi ((y49.2.2.2.2.2.2.2.1, y49.2.2.2.2.2.2.1, y49.2.2.2.2.2.2.2.2.1, ()), [(13107 : Int), (26214 : Int), (39321 : Int)], (4 : Int), [y54.1, y55.1, y56.1], ())).bind fun y57 =>
        cond' ((y49.1 == (100 : Int))) (
          cond' ((y49.2.1 == (2 : Int))) (
            cond' ((y49.2.2.1 == (2 : Int))) (
              cond' ((y49.2.2.2.1 == (2 : Int))) (
                cond' (y49.2.2.2.2.1) (
                  cond' (y49.2.2.2.2.2.1) (
                    some (y57.1, ())) (
                    some (false, ()))) (
                  some (false, ()))) (
                some (false, ()))) (
              some (false, ()))) (
            some (false, ()))) (
          some (false, ()))) (
        cond' ((y49.1 == (100 : Int))) (
          cond' ((y49.2.1 == (2 : Int))) (
            cond' ((y49.2.2.1 == (2 : Int))) (
              cond' ((y49.2.2.2.1 == (2 : Int))) (
                cond' (y49.2.2.2.2.1) (
                  cond' (y49.2.2.2.2.2.1) (
                    some (false, ())) (
                    some (false, ()))) (
                  some (false, ()))) (
                some (false, ()))) (
              some (false, ()))) (
            some (false, ()))) (
          some (false, ())))))
theorem qv2  : evFn qm3 50 6 [] [(false, .bool)] () = law22_LocateKnown  := by kernel_rfl
theorem kn1 : locV ([], 0, [], ()) [] = ([], 0, 100, ()) := by kernel_rfl
theorem kn2 : holdsV ([2, 2], 3, [0, 0, 0, 0, 0, 0, 0, 0, 0, 0, 0, 0], ()) [0, 0, 0] = (0, 2, ()) := by kernel_rfl
theorem kn3 : holdsV cubeG [0, -1, 0] = (0, 2, ()) := by kernel_rfl
theorem kn4 : locV ([2, 2, 2], 2, [0, 0, 0, 0, 0, 0, 0, 0, 0, 0, 0, 0, 0, 0, 0, 0], ()) [0, 0, 0] = ([], 0, 2, ()) := by kernel_rfl
theorem kn5 : holdsV foldG [30000, 10000, 20000] = (2, 0, ()) := by kernel_rfl
theorem kn6 : locV foldG [30000, 10000, 20000] = ([fr 1 4, fr 1 6, fr 1 3], 1, 0, ()) := by kernel_rfl
theorem kn7 : locV halfG [0, 30000, 0] = ([fr 1 2, fr 1 2, fr 0 1], 8, 0, ()) := by kernel_rfl
theorem kn8 : locV turnG [65535, 65535, 65535] = ([fr 1 1, fr 1 1, fr 1 1], 0, 0, ()) := by kernel_rfl
theorem kn9 : locV turnG [13107, 26214, 39321] = ([fr 2 5, fr 1 5, fr 3 5], 4, 0, ()) := by kernel_rfl
def qj4 (x : Unit) : Option (Bool × Unit) := some (true, ())
theorem qv3 (x : Unit) (y : Bool × Unit) (h : qj4 x = some y) : law22_LocateKnown = some y := by
  rw [← h]
  have a0 : ∀ o o1 : Int, qgv ((0 : Int), o, o1, (0 : Int), (3 : Int), [(2 : Int), (2 : Int), (2 : Int)], ([] : List Int), ()) = some (o, o1, (0 : Int), (3 : Int), [(2 : Int), (2 : Int), (2 : Int)], cubeD, ()) := fun o o1 => wh_pos ⟨rfl, rfl⟩
  have a1 : ∀ a b c d : Int, qgw (a, b, c, d, (0 : Int), (3 : Int), [(3 : Int), (2 : Int), (2 : Int)], ([] : List Int), ()) = some (a, b, c, d, (3 : Int), [(3 : Int), (2 : Int), (2 : Int)], foldD, ()) := fun a b c d => wh_pos ⟨rfl, rfl⟩
  have a2 : ∀ (a b c d : Int) (tw : Bool), qap (a, b, c, d, tw, (0 : Int), (3 : Int), [(3 : Int), (2 : Int), (2 : Int)], ([] : List Int), ()) = some (a, b, c, d, tw, (3 : Int), [(3 : Int), (2 : Int), (2 : Int)], halfD, ()) := fun a b c d tw => wh_pos ⟨rfl, rfl⟩
  have a3 : ∀ (a b c d : Int) (tw pa : Bool), qar ((0 : Int), a, b, c, d, tw, pa, (0 : Int), (3 : Int), [(2 : Int), (2 : Int), (2 : Int)], ([] : List Int), ()) = some (a, b, c, d, tw, pa, (0 : Int), (3 : Int), [(2 : Int), (2 : Int), (2 : Int)], cubeD, ()) := fun a b c d tw pa => wh_pos ⟨rfl, rfl⟩
  have a4 : ∀ (a b c d : Int) (tw pa : Bool), qat (a, b, c, d, tw, pa, (0 : Int), (3 : Int), [(2 : Int), (2 : Int), (2 : Int)], cubeD, ()) = some (a, b, c, d, tw, pa, (3 : Int), [(2 : Int), (2 : Int), (2 : Int)], turnD, ()) := fun a b c d tw pa => wh_pos ⟨rfl, rfl⟩
  simp only [law22_LocateKnown, qmg, Option.bind_some, qj4]
  rw [Bool.not_true, cond'_false, loc_val ([], 0, [], ()) _ (by decide) kn1]
  simp only [Option.bind_some]
  rw [holds_val ([2, 2], 3, [0, 0, 0, 0, 0, 0, 0, 0, 0, 0, 0, 0], ()) _ (by decide) kn2]
  simp only [Option.bind_some]
  rw [a0]
  simp only [Option.bind_some]
  rw [holds_val cubeG _ (by decide) kn3]
  simp only [Option.bind_some]
  rw [loc_val ([2, 2, 2], 2, [0, 0, 0, 0, 0, 0, 0, 0, 0, 0, 0, 0, 0, 0, 0, 0], ()) _ (by decide) kn4]
  simp only [Option.bind_some]
  rw [a1]
  simp only [Option.bind_some]
  rw [holds_val foldG _ (by decide) kn5]
  simp only [Option.bind_some]
  rw [of_val 1 4 (by omega), of_val 1 6 (by omega), of_val 1 3 (by omega)]
  simp only [Option.bind_some]
  rw [finds_val foldG _ 1 _ (by decide) kn6]
  simp only [Option.bind_some]
  rw [cond'_true, cond'_eq rfl, a2]
  simp only [Option.bind_some]
  rw [of_val 1 2 (by omega), of_val 0 1 (by omega)]
  simp only [Option.bind_some]
  rw [finds_val halfG _ 8 _ (by decide) kn7]
  simp only [Option.bind_some]
  rw [a3]
  simp only [Option.bind_some]
  rw [a4]
  simp only [Option.bind_some]
  rw [of_val 1 1 (by omega)]
  simp only [Option.bind_some]
  rw [finds_val turnG _ 0 _ (by decide) kn8]
  simp only [Option.bind_some]
  rw [cond'_true, of_val 2 5 (by omega), of_val 1 5 (by omega), of_val 3 5 (by omega)]
  simp only [Option.bind_some]
  rw [finds_val turnG _ 4 _ (by decide) kn9]
  rfl
theorem spec_law22_LocateKnown : FnSpec Tryz.prog gl 6 ⟨[], [(false, .bool)], qj4⟩ := qe fun x y h => ⟨qm3, 50, rfl, qud, (qv2 ).trans (qv3 x y h)⟩
end
end Go.AV
end
section
namespace Go.Proofs.YtbphnigdbffpmaaGreatDoor
open Go.ChangeShapes Go.WideShapes Go.ChangeAt Go.RowKit Go.AV Go.Proofs.Tryz
theorem own : ownKnob Tryz.prog.godebug = none := by kernel_rfl
set_option maxRecDepth 100000 in
theorem door_met (os : Os) (args : Array Value) : laidMetH Tryz.prog laidL ((World.doorLaid Tryz.prog 400 os).forCall (fun _ _ => 0) ⟨#[], args, []⟩).memory :=
  laidMetH_of_parts3 (fuel := 8) (laidMet_of_run' 8 (by kernel_rfl) (by kernel_rfl)) (by kernel_rfl) (by kernel_rfl)
set_option maxRecDepth 100000 in
theorem enters6 : ∀ args w, (callFunc 6 args).run Tryz.prog w = .ok (.enter 6 args) w := enters_of Tryz.func6 (by kernel_rfl) rfl
set_option maxRecDepth 100000 in
theorem locateKnown_walk (W : World) (hG : GlobOk gl W) : Calls Tryz.prog 6 #[] W fun e w' => e = .returned (.bool true) ∧ Below W.heap.size W w' := by
  have h := calls_of_spec (P := Tryz.prog) (gl := gl) (f := 6) (c := ⟨[], [(false, .bool)], qj4⟩) spec_law22_LocateKnown enters6 (w := W) (ok := fun _ => False) (args := []) (x := ()) (y := (true, ())) rfl hG (fun b h => h.elim) rfl
  refine h.mono fun e w' h => ?_
  obtain ⟨v, he, hb, ok', hv⟩ := h
  subst he
  exact ⟨congrArg _ (val_bool.1 hv), hb⟩
set_option maxRecDepth 100000 in
theorem locateKnown_lifted (os : Os) (started : os.Started) (H : Type) (enc : TypeId × Value → H) :
    ReturnsInHanded {} Tryz.checked os 6 .any (fun w args => (Rows.locateKnownSpec.pre enc Tryz.prog Tryz.f6 [] false w args ∧ laidMetH Tryz.prog laidL w) ∧ sizedMet enc Tryz.prog Tryz.f6 (OpenSpec.ofChange Rows.locateKnownSpec) false w args)
      (Rows.locateKnownSpec.post enc Tryz.prog Tryz.f6 false true false false) := by
  refine returnsInHanded_of_change_and (C := Tryz.checked) (X := fun w _ => laidMetH Tryz.prog laidL w) (fun _ _ _ hh h => h.of_heap hh) own started (by kernel_rfl) Tryz.func6
    (ChangeSpec.witness_shaped (enc := enc) (C := Tryz.checked) (os := os) (X := fun w _ => laidMetH Tryz.prog laidL w) false (World.doorLaid Tryz.prog 400 os) #[] 8 rfl (World.shaped_of_RefB (by kernel_rfl) (by kernel_rfl)) (by kernel_rfl) (by kernel_rfl) (by kernel_rfl) (door_met os _)) ?_
  intro W base args ds gs before hval0 hW _ _ hL _
  have hW' := hW
  obtain ⟨p, q, hA0, hV, rfl, hfz, hnd⟩ := hW
  have hA : DataW.TrodAll enc Tryz.prog W 0 (fun _ => true) true Tryz.f6.params.toList args.toList ds p := hA0
  rw [Tryz.params6] at hA
  obtain ⟨rfl, rfl, rfl⟩ := trodAll_none hA
  obtain ⟨rfl, rfl⟩ := trodVars_none hV
  simp only [List.append_nil] at hW'
  refine (locateKnown_walk W (glob_of_laid hL)).mono fun e W' ⟨he, bel⟩ => ?_
  subst he
  exact ⟨_, rfl, _, _, _, [], _, [], hW', trodAll_mk1 (shut_bool Tryz.underlying4 _), trodAll_mk0, rfl, bel.frame _, fun h => by cases h⟩
theorem locateKnown_holds : Rows.LocateKnownSaid :=
  OpenClaim.holds_of_wide 6 Tryz.f6 rfl rfl rfl rfl rfl rfl rfl ⟨rfl, rfl, rfl, rfl, rfl⟩ rfl rfl rfl rfl rfl (by kernel_rfl) Tryz.func6 (by kernel_rfl)
    (of_decide_eq_true (by kernel_rfl)) (by unfold Func.isWrapper; first | (rw [if_pos (by decide +kernel)]; kernel_rfl) | (rw [if_neg (by decide +kernel)]; exact ⟨rfl, rfl⟩))
    (fun os started H enc _ => locateKnown_lifted os started H enc)
theorem locateKnown_card_holds : Rows.LocateKnownCardSaid :=
  Claim7.holds_tied_plain_at .later [] [.data, .data, .data, .sentinel, .sentinel, .data] true (true, "731b201f806b2e2bc1be6a5aa777020f0d20fe4e564818e04132ce31ba9349c1") true
    locateKnown_holds (fun _ h => by cases h) (by kernel_rfl) (fun _ h => by cases h) locateKnown_row_tie rfl ⟨rfl, rfl⟩ (by kernel_rfl) rfl
    (fun f fn hf hfn => by
      obtain rfl : f = 6 := Option.some.inj ((show Tryz.prog.funcNamed "verdigris/verdigrislaw22.LocateKnown" = some 6 by kernel_rfl).symm.trans hf) |>.symm
      obtain rfl : fn = Tryz.f6 := (Option.some.inj (Tryz.func6.symm.trans hfn)).symm
      exact ⟨by kernel_rfl, fun j t ht => by
        rw [Tryz.params6] at ht
        simp at ht⟩)
    (by kernel_rfl)
#print axioms locateKnown_card_holds
end Go.Proofs.YtbphnigdbffpmaaGreatDoor
end
