/- It is proved that the law LocateKnown returns true, whatever the world it starts in, as long as the package variables that its row lists hold what the program's text gives them. Part 5 of 6. The last part holds the statement; this one a part of the way to it. -/
import Derived.Test.YtbphnigdbffpmaaGreatDoorAd
set_option linter.unusedVariables false
set_option linter.unusedSimpArgs false
set_option exponentiation.threshold 1000
section
set_option linter.unusedVariables false
set_option linter.unusedSimpArgs false
set_option maxRecDepth 100000
namespace Go.AV
open Go Go.Proofs
noncomputable section
def bnd (B : Int) (a : List Int) : Prop := (-B ≤ a.getD 0 0 ∧ a.getD 0 0 ≤ B) ∧ (-B ≤ a.getD 1 0 ∧ a.getD 1 0 ≤ B) ∧ (-B ≤ a.getD 2 0 ∧ a.getD 2 0 ≤ B)
theorem mulb {x y A B : Int} (h1 : -A ≤ x ∧ x ≤ A) (h2 : -B ≤ y ∧ y ≤ B) : -(A * B) ≤ x * y ∧ x * y ≤ A * B := by
  have a0 : 0 ≤ A := by omega
  have b0 : 0 ≤ B := by omega
  have hx : x.natAbs ≤ A.natAbs := by omega
  have hy : y.natAbs ≤ B.natAbs := by omega
  have h := Nat.mul_le_mul hx hy
  rw [← Int.natAbs_mul, ← Int.natAbs_mul] at h
  have hp : 0 ≤ A * B := Int.mul_nonneg a0 b0
  omega
def det3 (a b c : List Int) : Int :=
  a.getD 0 0 * (b.getD 1 0 * c.getD 2 0 - b.getD 2 0 * c.getD 1 0) + a.getD 1 0 * (b.getD 2 0 * c.getD 0 0 - b.getD 0 0 * c.getD 2 0) + a.getD 2 0 * (b.getD 0 0 * c.getD 1 0 - b.getD 1 0 * c.getD 0 0)
def qab7 (x : List Int × List Int × List Int × Unit) : Option (Int × Unit) := wh (bnd 65535 x.1 ∧ bnd 65535 x.2.1 ∧ bnd 65535 x.2.2.1) (det3 x.1 x.2.1 x.2.2.1, ())
theorem minor {p q r s : Int} (hp : -65535 ≤ p ∧ p ≤ 65535) (hq : -65535 ≤ q ∧ q ≤ 65535) (hr : -65535 ≤ r ∧ r ≤ 65535) (hs : -65535 ≤ s ∧ s ≤ 65535) :
    IntKind.i64.wrap (IntKind.i64.wrap (p * q) - IntKind.i64.wrap (r * s)) = p * q - r * s ∧ -8589672450 ≤ p * q - r * s ∧ p * q - r * s ≤ 8589672450 := by
  have h1 := mulb hp hq
  have h2 := mulb hr hs
  generalize p * q = u at *
  generalize r * s = v at *
  rw [w64 (x := u) (by omega) (by omega), w64 (x := v) (by omega) (by omega), w64 (by omega) (by omega)]
  omega
theorem det3_bnd {a b c : List Int} (ha : bnd 65535 a) (hb : bnd 65535 b) (hc : bnd 65535 c) : -1688772552032250 ≤ det3 a b c ∧ det3 a b c ≤ 1688772552032250 := by
  obtain ⟨a0, a1, a2⟩ := ha
  obtain ⟨b0, b1, b2⟩ := hb
  obtain ⟨c0, c1, c2⟩ := hc
  obtain ⟨_, m1⟩ := minor b1 c2 b2 c1
  obtain ⟨_, m2⟩ := minor b2 c0 b0 c2
  obtain ⟨_, m3⟩ := minor b0 c1 b1 c0
  unfold det3
  have p1 := mulb a0 m1
  have p2 := mulb a1 m2
  have p3 := mulb a2 m3
  omega
theorem det3_wrap {a b c : List Int} (ha : bnd 65535 a) (hb : bnd 65535 b) (hc : bnd 65535 c) :
    (IntKind.i64.wrap ((IntKind.i64.wrap ((IntKind.i64.wrap ((a.getD 0 (0 : Int)) * (IntKind.i64.wrap ((IntKind.i64.wrap ((b.getD 1 (0 : Int)) * (c.getD 2 (0 : Int)))) - (IntKind.i64.wrap ((b.getD 2 (0 : Int)) * (c.getD 1 (0 : Int)))))))) + (IntKind.i64.wrap ((a.getD 1 (0 : Int)) * (IntKind.i64.wrap ((IntKind.i64.wrap ((b.getD 2 (0 : Int)) * (c.getD 0 (0 : Int)))) - (IntKind.i64.wrap ((b.getD 0 (0 : Int)) * (c.getD 2 (0 : Int)))))))))) + (IntKind.i64.wrap ((a.getD 2 (0 : Int)) * (IntKind.i64.wrap ((IntKind.i64.wrap ((b.getD 0 (0 : Int)) * (c.getD 1 (0 : Int)))) - (IntKind.i64.wrap ((b.getD 1 (0 : Int)) * (c.getD 0 (0 : Int)))))))))) = det3 a b c := by
  obtain ⟨a0, a1, a2⟩ := ha
  obtain ⟨b0, b1, b2⟩ := hb
  obtain ⟨c0, c1, c2⟩ := hc
  obtain ⟨e1, m1⟩ := minor b1 c2 b2 c1
  obtain ⟨e2, m2⟩ := minor b2 c0 b0 c2
  obtain ⟨e3, m3⟩ := minor b0 c1 b1 c0
  rw [e1, e2, e3]
  unfold det3
  have p1 := mulb a0 m1
  have p2 := mulb a1 m2
  have p3 := mulb a2 m3
  generalize a.getD 0 0 * (b.getD 1 0 * c.getD 2 0 - b.getD 2 0 * c.getD 1 0) = u at *
  generalize a.getD 1 0 * (b.getD 2 0 * c.getD 0 0 - b.getD 0 0 * c.getD 2 0) = v at *
  generalize a.getD 2 0 * (b.getD 0 0 * c.getD 1 0 - b.getD 1 0 * c.getD 0 0) = w at *
  rw [w64 (x := u) (by omega) (by omega), w64 (x := v) (by omega) (by omega), w64 (x := w) (by omega) (by omega), w64 (x := u + v) (by omega) (by omega), w64 (by omega) (by omega)]
noncomputable def quv : Env := (Env.mk' tyF fnF gl (lookT []) (lookL []) (fun _ _ => none))
theorem q27 : EnvAll Tryz.prog quv := EnvAll.mk' tabs _ (qb trivial) (qa trivial)
noncomputable def locate_det (a : (List Int)) (b : (List Int)) (c : (List Int)) : Option (Int × Unit) :=
  some ((IntKind.i64.wrap ((IntKind.i64.wrap ((IntKind.i64.wrap ((a.getD 0 (0 : Int)) * (IntKind.i64.wrap ((IntKind.i64.wrap ((b.getD 1 (0 : Int)) * (c.getD 2 (0 : Int)))) - (IntKind.i64.wrap ((b.getD 2 (0 : Int)) * (c.getD 1 (0 : Int)))))))) + (IntKind.i64.wrap ((a.getD 1 (0 : Int)) * (IntKind.i64.wrap ((IntKind.i64.wrap ((b.getD 2 (0 : Int)) * (c.getD 0 (0 : Int)))) - (IntKind.i64.wrap ((b.getD 0 (0 : Int)) * (c.getD 2 (0 : Int)))))))))) + (IntKind.i64.wrap ((a.getD 2 (0 : Int)) * (IntKind.i64.wrap ((IntKind.i64.wrap ((b.getD 0 (0 : Int)) * (c.getD 1 (0 : Int)))) - (IntKind.i64.wrap ((b.getD 1 (0 : Int)) * (c.getD 0 (0 : Int)))))))))), ())
theorem q3s (a : (List Int)) (b : (List Int)) (c : (List Int)) : evFn quv 50 45 [(false, (.arr 3 (.int .i64))), (false, (.arr 3 (.int .i64))), (false, (.arr 3 (.int .i64)))] [(false, (.int .i64))] (a, b, c, ()) = locate_det a b c := by kernel_rfl
def qfe := qab7
theorem q3t (x : List Int × List Int × List Int × Unit) (y : Int × Unit) (h : qfe x = some y) : locate_det x.1 x.2.1 x.2.2.1 = some y := by
  obtain ⟨a, b, c, ⟨⟩⟩ := x
  obtain ⟨⟨h1, h2, h3⟩, rfl⟩ := wh_some h
  simp only [locate_det]
  rw [det3_wrap h1 h2 h3]
theorem spec_locate_det : FnSpec Tryz.prog gl 45 ⟨[(false, (.arr 3 (.int .i64))), (false, (.arr 3 (.int .i64))), (false, (.arr 3 (.int .i64)))], [(false, (.int .i64))], qfe⟩ := qe fun x y h => ⟨quv, 50, rfl, q27, (q3s x.1 x.2.1 x.2.2.1).trans (q3t x y h)⟩
def in16 (a : List Int) : Prop := (0 ≤ a.getD 0 0 ∧ a.getD 0 0 ≤ 65535) ∧ (0 ≤ a.getD 1 0 ∧ a.getD 1 0 ≤ 65535) ∧ (0 ≤ a.getD 2 0 ∧ a.getD 2 0 ≤ 65535)
def sub3 (a b : List Int) : List Int := [a.getD 0 0 - b.getD 0 0, a.getD 1 0 - b.getD 1 0, a.getD 2 0 - b.getD 2 0]
theorem sub3_bnd {a b : List Int} (ha : in16 a) (hb : in16 b) : bnd 65535 (sub3 a b) := by
  unfold in16 at ha hb
  unfold bnd sub3
  simp only [List.getD_cons_zero, List.getD_cons_succ]
  omega
def qab9 (x : List Int × List Int × Unit) : Option (List Int × Unit) := wh (in16 x.1 ∧ in16 x.2.1) (sub3 x.1 x.2.1, ())
noncomputable def qls : Env := (Env.mk' tyF fnF gl (lookT []) (lookL []) (fun _ _ => none))
theorem qs1 : EnvAll Tryz.prog qls := EnvAll.mk' tabs _ (qb trivial) (qa trivial)
noncomputable def locate_triple_minus (a : (List Int)) (b : (List Int)) : Option ((List Int) × Unit) :=
  some ([(IntKind.i64.wrap ((a.getD 0 (0 : Int)) - (b.getD 0 (0 : Int)))), (IntKind.i64.wrap ((a.getD 1 (0 : Int)) - (b.getD 1 (0 : Int)))), (IntKind.i64.wrap ((a.getD 2 (0 : Int)) - (b.getD 2 (0 : Int))))], ())
theorem qtx (a : (List Int)) (b : (List Int)) : evFn qls 50 44 [(false, (.arr 3 (.int .i64))), (false, (.arr 3 (.int .i64)))] [(false, (.arr 3 (.int .i64)))] (a, b, ()) = locate_triple_minus a b := by kernel_rfl
def ql := qab9
theorem qty (x : List Int × List Int × Unit) (y : List Int × Unit) (h : ql x = some y) : locate_triple_minus x.1 x.2.1 = some y := by
  obtain ⟨a, b, ⟨⟩⟩ := x
  obtain ⟨⟨h1, h2⟩, rfl⟩ := wh_some h
  simp only [in16] at h1 h2
  simp only [locate_triple_minus, sub3]
  rw [w64 (by omega) (by omega), w64 (by omega) (by omega), w64 (by omega) (by omega)]
theorem spec_locate_triple_minus : FnSpec Tryz.prog gl 44 ⟨[(false, (.arr 3 (.int .i64))), (false, (.arr 3 (.int .i64)))], [(false, (.arr 3 (.int .i64)))], ql⟩ := qe fun x y h => ⟨qls, 50, rfl, qs1, (qtx x.1 x.2.1).trans (qty x y h)⟩
abbrev Z3 : List Int := [(0 : Int), (0 : Int), (0 : Int)]
def in16c (c : List (List Int)) : Prop := in16 (c.getD 0 Z3) ∧ in16 (c.getD 1 Z3) ∧ in16 (c.getD 2 Z3) ∧ in16 (c.getD 3 Z3)
def sides (c : List (List Int)) : List (List Int) := [sub3 (c.getD 1 Z3) (c.getD 0 Z3), sub3 (c.getD 2 Z3) (c.getD 0 Z3), sub3 (c.getD 3 Z3) (c.getD 0 Z3)]
noncomputable def qx : Shape := ⟨[.j, .j, .loc 0 [], .loc 1 [], .loc 2 [], .j, .j, .loc 3 [], .j, .j, .j, .j, .j, .dat (.int .i64), .j, .j, .j, .j, .j, .j, .j, .j, .j, .j, .j, .j, .j, .j, .j, .j, .j, .j, .j, .j, .j, .j, .j, .j, .j, .j, .j, .j, .j, .j, .j, .j, .j, .j, .j, .j, .j, .j, .j, .j, .j, .j, .j, .j, .j, .j, .j, .j, .j, .j, .j, .j, .j, .j, .j, .j, .j, .j, .j, .j, .j], [[]], [.box false (.dat (.prod (.arr 3 (.int .i64)) (.prod (.arr 3 (.int .i64)) (.prod (.arr 4 (.arr 3 (.int .i64))) .unit)))), .box false (.dat (.arr 3 (.int .i64))), .box false (.dat (.arr 3 (.int .i64))), .box false (.dat (.arr 3 (.arr 3 (.int .i64))))], []⟩
noncomputable def qa4 : List (Ex × Shape) := [(.exit 0, ⟨[.j, .j, .loc 0 [], .loc 1 [], .loc 2 [], .j, .j, .loc 3 [], .j, .j, .j, .j, .j, .j, .j, .j, .j, .j, .j, .j, .j, .j, .j, .j, .j, .j, .j, .j, .j, .j, .j, .j, .j, .j, .j, .j, .j, .j, .j, .j, .j, .j, .j, .j, .j, .j, .j, .j, .j, .j, .j, .j, .j, .j, .j, .j, .j, .j, .j, .j, .j, .j, .j, .j, .j, .j, .j, .j, .j, .j, .j, .j, .j, .j, .j], [[]], [.box false (.dat (.prod (.arr 3 (.int .i64)) (.prod (.arr 3 (.int .i64)) (.prod (.arr 4 (.arr 3 (.int .i64))) .unit)))), .box false (.dat (.arr 3 (.int .i64))), .box false (.dat (.arr 3 (.int .i64))), .box false (.dat (.arr 3 (.arr 3 (.int .i64))))], []⟩)]
abbrev qbu : Type := Int × ((List Int) × ((List Int) × ((List (List Int)) × Unit))) × (List Int) × (List Int) × (List (List Int)) × Unit
abbrev qbv : Type := (((List Int) × ((List Int) × ((List (List Int)) × Unit))) × (List Int) × (List Int) × (List (List Int)) × Unit)
noncomputable def qag : Env := (Env.mk' tyF fnF gl (lookT [(44, ⟨[(false, (.arr 3 (.int .i64))), (false, (.arr 3 (.int .i64)))], [(false, (.arr 3 (.int .i64)))], ql⟩)]) (lookL []) (fun f c => match Nat.beq f 26 && Nat.beq c 0 with | true => some qx | false => none))
theorem qrj : EnvAll Tryz.prog qag := EnvAll.mk' tabs _ (qb ⟨spec_locate_triple_minus, trivial⟩) (qa trivial)
noncomputable def qa3 : List Lp := []
noncomputable def qk (rec : qbu → Option qbv) (v : Int) (t : ((List Int) × ((List Int) × ((List (List Int)) × Unit)))) (target : (List Int)) (w : (List Int)) (side : (List (List Int))) : Option qbv :=
  cond' ((decide (v < (3 : Int)))) (
    cond' (decide (0 ≤ (IntKind.i64.wrap (v + (1 : Int))) ∧ (IntKind.i64.wrap (v + (1 : Int))) < ((4 : Nat) : Int))) (
    (ql ((t.2.2.1.getD ((IntKind.i64.wrap (v + (1 : Int))).toNat) [(0 : Int), (0 : Int), (0 : Int)]), (t.2.2.1.getD 0 [(0 : Int), (0 : Int), (0 : Int)]), ())).bind fun y1 =>
    cond' (decide (0 ≤ v ∧ v < ((3 : Nat) : Int))) (
    rec ((IntKind.i64.wrap (v + (1 : Int))), t, target, w, (side.set v.toNat y1.1), ())) none) none) (
    some (t, target, w, side, ()))
noncomputable def qa2 : Nat → qbu → Option qbv
  | 0, _ => none
  | n + 1, x => qk (qa2 n) x.1 x.2.1 x.2.2.1 x.2.2.2.1 x.2.2.2.2.1
theorem qcb (fu : Nat) (v : Int) (t : ((List Int) × ((List Int) × ((List (List Int)) × Unit)))) (target : (List Int)) (w : (List Int)) (side : (List (List Int))) : qa2 (fu + 1) (v, t, target, w, side, ()) = qk (qa2 fu) v t target w side := rfl
theorem qqg (fu : Nat) (v : Int) (t : ((List Int) × ((List Int) × ((List (List Int)) × Unit)))) (target : (List Int)) (w : (List Int)) (side : (List (List Int))) : ev qag (fu + 1) 26 0 (.loop (loopAt Tryz.f26 0)) (qx.enc qa3 (v, t, target, w, side, ())) (exitD qa4) = qk (fun x => ev qag fu 26 0 (.loop (loopAt Tryz.f26 0)) (qx.enc qa3 x) (exitD qa4)) v t target w side := by kernel_rfl
theorem qr7 (n : Nat) (x : qbu) : ev qag n 26 0 (.loop (loopAt Tryz.f26 0)) (qx.enc qa3 x) (exitD qa4) = qa2 n x :=
  fuel_eq (f := fun n x => ev qag n 26 0 (.loop (loopAt Tryz.f26 0)) (qx.enc qa3 x) (exitD qa4)) (st := fun rec x => qk rec x.1 x.2.1 x.2.2.1 x.2.2.2.1 x.2.2.2.2.1) (fun _ => rfl) (fun n x => qqg n x.1 x.2.1 x.2.2.1 x.2.2.2.1 x.2.2.2.2.1) qa2 (fun _ => rfl) (fun _ _ => rfl) n x
def qfc (x : qbu) : Option qbv := wh (x.1 = 0 ∧ in16c x.2.1.2.2.1 ∧ x.2.2.2.2.1 = [Z3, Z3, Z3]) (x.2.1, x.2.2.1, x.2.2.2.1, sides x.2.1.2.2.1, ())
theorem qr8 (x : qbu) (y : qbv) (h : qfc x = some y) : ∃ n, qa2 n x = some y := by
  obtain ⟨v, t, g, w, s, ⟨⟩⟩ := x
  obtain ⟨⟨h1, h2, h3⟩, rfl⟩ := wh_some h
  simp only at h1 h2 h3
  subst h1; subst h3
  obtain ⟨c0, c1, c2, c3⟩ := h2
  have m : ∀ c, in16 c → ql (c, t.2.2.1.getD 0 Z3, ()) = some (sub3 c (t.2.2.1.getD 0 Z3), ()) := fun c hc => wh_pos ⟨hc, c0⟩
  have e1 : IntKind.i64.wrap ((0 : Int) + 1) = 1 := by decide
  have e2 : IntKind.i64.wrap ((1 : Int) + 1) = 2 := by decide
  have e3 : IntKind.i64.wrap ((2 : Int) + 1) = 3 := by decide
  have n1 : (1 : Int).toNat = 1 := rfl
  have n2 : (2 : Int).toNat = 2 := rfl
  have n3 : (3 : Int).toNat = 3 := rfl
  refine ⟨4, ?_⟩
  rw [qcb]
  simp only [qk, e1, n1]
  rw [cond'_pos (by omega), cond'_pos (by omega), m _ c1, Option.bind_some, cond'_pos (by omega), qcb]
  simp only [qk, e2, n2]
  rw [cond'_pos (by omega), cond'_pos (by omega), m _ c2, Option.bind_some, cond'_pos (by omega), qcb]
  simp only [qk, e3, n3]
  rw [cond'_pos (by omega), cond'_pos (by omega), m _ c3, Option.bind_some, cond'_pos (by omega), qcb]
  simp only [qk]
  rw [cond'_neg (by omega)]
  rfl
noncomputable def qnm : LoopC := ⟨qx, qa4, qfc⟩
theorem qqk : LoopSpec Tryz.prog gl 26 0 qnm := qd (canon := qa3) .nil (fun c hc x y h => by
  obtain rfl := loopAt_eq (fn := Tryz.f26) Tryz.func26 (by kernel_rfl) hc
  obtain ⟨n, hn⟩ := qr8 x y h
  exact ⟨qag, n, rfl, qrj, (qr7 n x).trans hn⟩)
theorem len3 {α : Type} {l : List α} (h : l.length = 3) : ∃ a b c, l = [a, b, c] := by
  match l, h with
  | [a, b, c], _ => exact ⟨a, b, c, rfl⟩
def pickS (q0 q1 q2 wl : Int) : (Int × Bool × List Int × Unit) ⊕ (Int × List Int × Unit) :=
  if q0 < 0 then .inl (0, false, [q0, 0, 0], ()) else if q1 < 0 then .inl (0, false, [q0, q1, 0], ()) else if q2 < 0 then .inl (0, false, [q0, q1, q2], ()) else .inr (wl, [q0, q1, q2], ())
def pickQ (q0 q1 q2 wl : Int) : List Int × Int × Bool × Unit :=
  if q0 < 0 then ([q0, 0, 0], 0, false, ()) else if q1 < 0 then ([q0, q1, 0], 0, false, ()) else if q2 < 0 then ([q0, q1, q2], 0, false, ()) else ([q0, q1, q2], wl, decide (q0 + q1 + q2 ≤ wl), ())
noncomputable def qn : Shape := ⟨[.j, .j, .j, .j, .loc 0 [], .dat (.int .i64), .j, .j, .j, .j, .j, .fn 46 [] [.loc 1 [], .loc 2 [], .loc 3 []], .j, .j, .j, .j, .j, .j, .j, .j, .j, .j, .j, .j, .j, .j, .j, .j, .j, .j, .j, .j, .j, .j, .j, .j, .j, .j, .j, .j, .j, .j, .j, .j, .j, .j, .j, .j, .j, .dat (.int .i64), .j, .j, .j, .j, .j, .j, .j, .j, .j, .j, .j, .j, .j, .j, .j, .j, .j, .j, .j, .j, .j, .j, .j, .j, .j], [[]], [.box false (.dat (.arr 3 (.int .i64))), .box false (.dat (.arr 3 (.arr 3 (.int .i64)))), .box false (.dat (.arr 3 (.int .i64))), .box false (.dat (.int .i64))], []⟩
noncomputable def qz : List (Ex × Shape) := [(.ret, ⟨[.j, .j, .j, .j, .loc 0 [], .dat (.int .i64), .dat .bool, .j, .j, .j, .j, .j, .j, .j, .j, .j, .j, .j, .j, .j, .j, .j, .j, .j, .j, .j, .j, .j, .j, .j, .j, .j, .j, .j, .j, .j, .j, .j, .j, .j, .j, .j, .j, .j, .j, .j, .j, .j, .j, .j, .j, .j, .j, .j, .j, .j, .j, .j, .j, .j, .j, .j, .j, .j, .j, .j, .j, .j, .j, .j, .j, .j, .j, .j, .j], [[]], [.box false (.dat (.arr 3 (.int .i64)))], []⟩), (.exit 2, ⟨[.j, .j, .j, .j, .loc 0 [], .dat (.int .i64), .j, .j, .j, .j, .j, .j, .j, .j, .j, .j, .j, .j, .j, .j, .j, .j, .j, .j, .j, .j, .j, .j, .j, .j, .j, .j, .j, .j, .j, .j, .j, .j, .j, .j, .j, .j, .j, .j, .j, .j, .j, .j, .j, .j, .j, .j, .j, .j, .j, .j, .j, .j, .j, .j, .j, .j, .j, .j, .j, .j, .j, .j, .j, .j, .j, .j, .j, .j, .j], [[]], [.box false (.dat (.arr 3 (.int .i64)))], []⟩)]
abbrev qbx : Type := Int × Int × (List Int) × (List (List Int)) × (List Int) × Int × Unit
abbrev qah : Type := ((Int × Bool × (List Int) × Unit) ⊕ (Int × (List Int) × Unit))
noncomputable def qm8 : Env := Env.mk' tyF fnF gl (lookT [(45, ⟨[(false, (.arr 3 (.int .i64))), (false, (.arr 3 (.int .i64))), (false, (.arr 3 (.int .i64)))], [(false, (.int .i64))], qfe⟩)]) (lookL []) (fun f c => match Nat.beq f 26 && Nat.beq c 2 with | true => some qn | false => none)
theorem qqh : EnvAll Tryz.prog qm8 := EnvAll.mk' tabs _ (qb ⟨spec_locate_det, trivial⟩) (qa trivial)
noncomputable def qt : Env := (qm8).up 1000
theorem qrk : EnvAll Tryz.prog qt := EnvAll.up (qqh) 1000
noncomputable def qy : List Lp := []
noncomputable def qh (rec : qbx → Option qah) (whole : Int) (v : Int) (w : (List Int)) (with1 : (List (List Int))) (with2 : (List Int)) (with3 : Int) : Option qah :=
  cond' ((decide (v < (3 : Int)))) (
    cond' (decide (0 ≤ v ∧ v < ((3 : Nat) : Int))) (
    (qfe (((with1.set v.toNat with2).getD 0 [(0 : Int), (0 : Int), (0 : Int)]), ((with1.set v.toNat with2).getD 1 [(0 : Int), (0 : Int), (0 : Int)]), ((with1.set v.toNat with2).getD 2 [(0 : Int), (0 : Int), (0 : Int)]), ())).bind fun y1 =>
    cond' (decide (0 ≤ v ∧ v < ((3 : Nat) : Int))) (
    cond' (decide (0 ≤ v ∧ v < ((3 : Nat) : Int))) (
    cond' ((decide (((w.set v.toNat (IntKind.i64.wrap (with3 * y1.1))).getD v.toNat (0 : Int)) < (0 : Int)))) (
      some (.inl ((0 : Int), false, (w.set v.toNat (IntKind.i64.wrap (with3 * y1.1))), ()))) (
      rec (whole, (IntKind.i64.wrap (v + (1 : Int))), (w.set v.toNat (IntKind.i64.wrap (with3 * y1.1))), with1, with2, with3, ()))) none) none) none) (
    some (.inr (whole, w, ())))
noncomputable def qa5 : Nat → qbx → Option qah
  | 0, _ => none
  | n + 1, x => qh (qa5 n) x.1 x.2.1 x.2.2.1 x.2.2.2.1 x.2.2.2.2.1 x.2.2.2.2.2.1
theorem qcc (fu : Nat) (whole : Int) (v : Int) (w : (List Int)) (with1 : (List (List Int))) (with2 : (List Int)) (with3 : Int) : qa5 (fu + 1) (whole, v, w, with1, with2, with3, ()) = qh (qa5 fu) whole v w with1 with2 with3 := rfl
theorem qqi (whole : Int) (v : Int) (w : (List Int)) (with1 : (List (List Int))) (with2 : (List Int)) (with3 : Int) : Mono (fun r => qh r whole v w with1 with2 with3) := (mono_cond (mono_cond (mono_bind fun y1 => (mono_cond (mono_cond (mono_cond mono_const mono_rec) mono_const) mono_const)) mono_const) mono_const)
theorem qqj (fu : Nat) (whole : Int) (v : Int) (w : (List Int)) (with1 : (List (List Int))) (with2 : (List Int)) (with3 : Int) : ev qt (fu + 50 + 1) 26 2 (.loop (loopAt Tryz.f26 2)) (qn.enc qy (whole, v, w, with1, with2, with3, ())) (exitD qz) = qh (fun x => ev qt (fu + 50) 26 2 (.loop (loopAt Tryz.f26 2)) (qn.enc qy x) (exitD qz)) whole v w with1 with2 with3 := by kernel_rfl
theorem qr9 (n : Nat) (x : qbx) (y : qah) (h : qa5 n x = some y) : ev qt (n + 50) 26 2 (.loop (loopAt Tryz.f26 2)) (qn.enc qy x) (exitD qz) = some y :=
  fuel_le (f := fun n x => ev qt (n + 50) 26 2 (.loop (loopAt Tryz.f26 2)) (qn.enc qy x) (exitD qz)) (st := fun rec x => qh rec x.1 x.2.1 x.2.2.1 x.2.2.2.1 x.2.2.2.2.1 x.2.2.2.2.2.1) (fun x => qqi x.1 x.2.1 x.2.2.1 x.2.2.2.1 x.2.2.2.2.1 x.2.2.2.2.2.1) (fun n x => (congrArg (fun N => ev qt N 26 2 (.loop (loopAt Tryz.f26 2)) (qn.enc qy x) (exitD qz)) (by omega : n + 1 + 50 = n + 50 + 1)).trans (qqj n x.1 x.2.1 x.2.2.1 x.2.2.2.1 x.2.2.2.2.1 x.2.2.2.2.2.1)) qa5 (fun _ => rfl) (fun _ _ => rfl) n x y h
def qbw (x : qbx) : Option qah :=
  wh (x.2.1 = 0 ∧ x.2.2.1 = Z3 ∧ x.2.2.2.1.length = 3 ∧ bnd 65535 (x.2.2.2.1.getD 0 Z3) ∧ bnd 65535 (x.2.2.2.1.getD 1 Z3) ∧ bnd 65535 (x.2.2.2.1.getD 2 Z3) ∧ bnd 65535 x.2.2.2.2.1 ∧ (x.2.2.2.2.2.1 = 1 ∨ x.2.2.2.2.2.1 = -1))
    (pickS (x.2.2.2.2.2.1 * det3 x.2.2.2.2.1 (x.2.2.2.1.getD 1 Z3) (x.2.2.2.1.getD 2 Z3)) (x.2.2.2.2.2.1 * det3 (x.2.2.2.1.getD 0 Z3) x.2.2.2.2.1 (x.2.2.2.1.getD 2 Z3)) (x.2.2.2.2.2.1 * det3 (x.2.2.2.1.getD 0 Z3) (x.2.2.2.1.getD 1 Z3) x.2.2.2.2.1) x.1)
theorem sg_det {sg : Int} (h : sg = 1 ∨ sg = -1) {a b c : List Int} (ha : bnd 65535 a) (hb : bnd 65535 b) (hc : bnd 65535 c) : IntKind.i64.wrap (sg * det3 a b c) = sg * det3 a b c := by
  have := det3_bnd ha hb hc
  rcases h with rfl | rfl
  · rw [Int.one_mul, w64 (by omega) (by omega)]
  · rw [Int.neg_one_mul, w64 (by omega) (by omega)]
theorem qsa (x : qbx) (y : qah) (h : qbw x = some y) : ∃ n, qa5 n x = some y := by
  obtain ⟨whole, v, w, s, tg, sg, ⟨⟩⟩ := x
  obtain ⟨⟨h1, h2, h3, h4, h5, h6, h7, h8⟩, rfl⟩ := wh_some h
  simp only at h1 h2 h3 h4 h5 h6 h7 h8
  obtain ⟨s0, s1, s2, rfl⟩ := len3 h3
  subst h1; subst h2
  simp only [List.getD_cons_zero, List.getD_cons_succ] at h4 h5 h6
  have d0 : qfe (tg, s1, s2, ()) = some (det3 tg s1 s2, ()) := wh_pos ⟨h7, h5, h6⟩
  have d1 : qfe (s0, tg, s2, ()) = some (det3 s0 tg s2, ()) := wh_pos ⟨h4, h7, h6⟩
  have d2 : qfe (s0, s1, tg, ()) = some (det3 s0 s1 tg, ()) := wh_pos ⟨h4, h5, h7⟩
  have e1 : IntKind.i64.wrap ((0 : Int) + 1) = 1 := by decide
  have e2 : IntKind.i64.wrap ((1 : Int) + 1) = 2 := by decide
  have e3 : IntKind.i64.wrap ((2 : Int) + 1) = 3 := by decide
  have n0 : (0 : Int).toNat = 0 := rfl
  have n1 : (1 : Int).toNat = 1 := rfl
  have n2 : (2 : Int).toNat = 2 := rfl
  simp only [List.getD_cons_zero, List.getD_cons_succ, pickS]
  refine ⟨4, ?_⟩
  rw [qcc]
  simp only [qh, e1, n0, List.set_cons_zero, List.getD_cons_zero, List.getD_cons_succ]
  rw [cond'_pos (by omega), cond'_pos (by omega), d0, Option.bind_some, cond'_pos (by omega), cond'_pos (by omega), sg_det h8 h7 h5 h6]
  by_cases q0 : sg * det3 tg s1 s2 < 0
  · rw [cond'_pos q0, if_pos q0]
  rw [cond'_neg q0, if_neg q0, qcc]
  simp only [qh, e2, n1, List.set_cons_zero, List.set_cons_succ, List.getD_cons_zero, List.getD_cons_succ]
  rw [cond'_pos (by omega), cond'_pos (by omega), d1, Option.bind_some, cond'_pos (by omega), cond'_pos (by omega), sg_det h8 h4 h7 h6]
  by_cases q1 : sg * det3 s0 tg s2 < 0
  · rw [cond'_pos q1, if_pos q1]
  rw [cond'_neg q1, if_neg q1, qcc]
  simp only [qh, e3, n2, List.set_cons_zero, List.set_cons_succ, List.getD_cons_zero, List.getD_cons_succ]
  rw [cond'_pos (by omega), cond'_pos (by omega), d2, Option.bind_some, cond'_pos (by omega), cond'_pos (by omega), sg_det h8 h4 h5 h7]
  by_cases q2 : sg * det3 s0 s1 tg < 0
  · rw [cond'_pos q2, if_pos q2]
  rw [cond'_neg q2, if_neg q2, qcc]
  simp only [qh]
  rw [cond'_neg (by omega)]
noncomputable def qnn : LoopC := ⟨qn, qz, qbw⟩
theorem qql : LoopSpec Tryz.prog gl 26 2 qnn := qd (canon := qy) .nil (fun c hc x y h => by
  obtain rfl := loopAt_eq (fn := Tryz.f26) Tryz.func26 (by kernel_rfl) hc
  obtain ⟨n, hn⟩ := qsa x y h
  exact ⟨qt, n + 50, rfl, qrk, qr9 n x y hn⟩)
noncomputable def qoo : Env := Env.mk' tyF fnF gl (lookT [(44, ⟨[(false, (.arr 3 (.int .i64))), (false, (.arr 3 (.int .i64)))], [(false, (.arr 3 (.int .i64)))], ql⟩), (45, ⟨[(false, (.arr 3 (.int .i64))), (false, (.arr 3 (.int .i64))), (false, (.arr 3 (.int .i64)))], [(false, (.int .i64))], qfe⟩)]) (lookL [(26, 0, [qnm]), (26, 2, [qnn])]) (fun _ _ => none)
theorem qsz : EnvAll Tryz.prog qoo := EnvAll.mk' tabs _ (qb ⟨spec_locate_triple_minus, ⟨spec_locate_det, trivial⟩⟩) (qa ⟨⟨qqk, trivial⟩, ⟨⟨qql, trivial⟩, trivial⟩⟩)
noncomputable def qmp : Env := (qoo).up 1000
theorem qtw : EnvAll Tryz.prog qmp := EnvAll.up (qsz) 1000
noncomputable def locate_tetra_holds (t : ((List Int) × ((List Int) × ((List (List Int)) × Unit)))) (target : (List Int)) : Option ((List Int) × Int × Bool × Unit) :=
  (qfc ((0 : Int), t, target, [(0 : Int), (0 : Int), (0 : Int)], [[(0 : Int), (0 : Int), (0 : Int)], [(0 : Int), (0 : Int), (0 : Int)], [(0 : Int), (0 : Int), (0 : Int)]], ())).bind fun y1 =>
  (qfe ((y1.2.2.2.1.getD 0 [(0 : Int), (0 : Int), (0 : Int)]), (y1.2.2.2.1.getD 1 [(0 : Int), (0 : Int), (0 : Int)]), (y1.2.2.2.1.getD 2 [(0 : Int), (0 : Int), (0 : Int)]), ())).bind fun y2 =>
  cond' ((y2.1 == (0 : Int))) (
    some (y1.2.2.1, (0 : Int), false, ())) (
    cond' ((decide (y2.1 < (0 : Int)))) (
      (ql (y1.2.1, (y1.1.2.2.1.getD 0 [(0 : Int), (0 : Int), (0 : Int)]), ())).bind fun y3 =>
      (qbw ((IntKind.i64.wrap (y2.1 * (-1 : Int))), (0 : Int), y1.2.2.1, y1.2.2.2.1, y3.1, (-1 : Int), ())).bind fun y4 =>
      match y4 with
      | .inl a5 =>
        some (a5.2.2.1, a5.1, a5.2.1, ())
      | .inr b6 =>
        some (b6.2.1, b6.1, (decide ((IntKind.i64.wrap ((IntKind.i64.wrap ((b6.2.1.getD 0 (0 : Int)) + (b6.2.1.getD 1 (0 : Int)))) + (b6.2.1.getD 2 (0 : Int)))) ≤ b6.1)), ())) (
      (ql (y1.2.1, (y1.1.2.2.1.getD 0 [(0 : Int), (0 : Int), (0 : Int)]), ())).bind fun y7 =>
      (qbw ((IntKind.i64.wrap (y2.1 * (1 : Int))), (0 : Int), y1.2.2.1, y1.2.2.2.1, y7.1, (1 : Int), ())).bind fun y8 =>
      match y8 with
      | .inl a9 =>
        some (a9.2.2.1, a9.1, a9.2.1, ())
      | .inr b10 =>
        some (b10.2.1, b10.1, (decide ((IntKind.i64.wrap ((IntKind.i64.wrap ((b10.2.1.getD 0 (0 : Int)) + (b10.2.1.getD 1 (0 : Int)))) + (b10.2.1.getD 2 (0 : Int)))) ≤ b10.1)), ())))
theorem quw (t : ((List Int) × ((List Int) × ((List (List Int)) × Unit)))) (target : (List Int)) : evFn qmp 50 26 [(false, (.prod (.arr 3 (.int .i64)) (.prod (.arr 3 (.int .i64)) (.prod (.arr 4 (.arr 3 (.int .i64))) .unit)))), (false, (.arr 3 (.int .i64)))] [(false, (.arr 3 (.int .i64))), (false, (.int .i64)), (false, .bool)] (t, target, ()) = locate_tetra_holds t target := by kernel_rfl
def holdR (s0 s1 s2 t : List Int) : List Int × Int × Bool × Unit :=
  if det3 s0 s1 s2 = 0 then (Z3, 0, false, ()) else
  pickQ ((if det3 s0 s1 s2 < 0 then -1 else 1) * det3 t s1 s2) ((if det3 s0 s1 s2 < 0 then -1 else 1) * det3 s0 t s2) ((if det3 s0 s1 s2 < 0 then -1 else 1) * det3 s0 s1 t) (det3 s0 s1 s2 * (if det3 s0 s1 s2 < 0 then -1 else 1))
def holdC (c : List (List Int)) (t : List Int) : List Int × Int × Bool × Unit :=
  holdR (sub3 (c.getD 1 Z3) (c.getD 0 Z3)) (sub3 (c.getD 2 Z3) (c.getD 0 Z3)) (sub3 (c.getD 3 Z3) (c.getD 0 Z3)) (sub3 t (c.getD 0 Z3))
def qv (x : (List Int × List Int × List (List Int) × Unit) × List Int × Unit) : Option (List Int × Int × Bool × Unit) := wh (in16c x.1.2.2.1 ∧ in16 x.2.1) (holdC x.1.2.2.1 x.2.1)
theorem sum3_wrap {a b c : Int} (ha : -1688772552032250 ≤ a ∧ a ≤ 1688772552032250) (hb : -1688772552032250 ≤ b ∧ b ≤ 1688772552032250) (hc : -1688772552032250 ≤ c ∧ c ≤ 1688772552032250) : IntKind.i64.wrap (IntKind.i64.wrap (a + b) + c) = a + b + c := by
  rw [w64 (x := a + b) (by omega) (by omega), w64 (by omega) (by omega)]
theorem sg_bnd {sg : Int} (h : sg = 1 ∨ sg = -1) {a b c : List Int} (ha : bnd 65535 a) (hb : bnd 65535 b) (hc : bnd 65535 c) : -1688772552032250 ≤ sg * det3 a b c ∧ sg * det3 a b c ≤ 1688772552032250 := by
  have := det3_bnd ha hb hc
  rcases h with rfl | rfl
  · rw [Int.one_mul]; exact this
  · rw [Int.neg_one_mul]; omega
theorem pick_fin {q0 q1 q2 : Int} (w0 : -1688772552032250 ≤ q0 ∧ q0 ≤ 1688772552032250) (w1 : -1688772552032250 ≤ q1 ∧ q1 ≤ 1688772552032250) (w2 : -1688772552032250 ≤ q2 ∧ q2 ≤ 1688772552032250) (wl : Int) :
    (some (pickS q0 q1 q2 wl)).bind (fun y4 => (match y4 with
      | .inl a5 => some (a5.2.2.1, a5.1, a5.2.1, ())
      | .inr b6 => some (b6.2.1, b6.1, (decide ((IntKind.i64.wrap ((IntKind.i64.wrap ((b6.2.1.getD 0 (0 : Int)) + (b6.2.1.getD 1 (0 : Int)))) + (b6.2.1.getD 2 (0 : Int)))) ≤ b6.1)), ()) : Option (List Int × Int × Bool × Unit))) = some (pickQ q0 q1 q2 wl) := by
  simp only [Option.bind_some, pickS, pickQ]
  by_cases a0 : q0 < 0
  · rw [if_pos a0, if_pos a0]
  rw [if_neg a0, if_neg a0]
  by_cases a1 : q1 < 0
  · rw [if_pos a1, if_pos a1]
  rw [if_neg a1, if_neg a1]
  by_cases a2 : q2 < 0
  · rw [if_pos a2, if_pos a2]
  rw [if_neg a2, if_neg a2]
  simp only [List.getD_cons_zero, List.getD_cons_succ]
  rw [sum3_wrap w0 w1 w2]
theorem qux (x : (List Int × List Int × List (List Int) × Unit) × List Int × Unit) (y : List Int × Int × Bool × Unit) (h : qv x = some y) : locate_tetra_holds x.1 x.2.1 = some y := by
  obtain ⟨⟨ce, od, c, ⟨⟩⟩, t, ⟨⟩⟩ := x
  obtain ⟨⟨h1, h2⟩, rfl⟩ := wh_some h
  simp only at h1 h2
  have hc := h1
  obtain ⟨c0, c1, c2, c3⟩ := h1
  have b0 := sub3_bnd c1 c0
  have b1 := sub3_bnd c2 c0
  have b2 := sub3_bnd c3 c0
  have bt := sub3_bnd h2 c0
  have g0 : qfc ((0 : Int), (ce, od, c, ()), t, [(0 : Int), (0 : Int), (0 : Int)], [[(0 : Int), (0 : Int), (0 : Int)], [(0 : Int), (0 : Int), (0 : Int)], [(0 : Int), (0 : Int), (0 : Int)]], ()) = some ((ce, od, c, ()), t, Z3, sides c, ()) := wh_pos ⟨rfl, hc, rfl⟩
  have m0 : ql (t, c.getD 0 Z3, ()) = some (sub3 t (c.getD 0 Z3), ()) := wh_pos ⟨h2, c0⟩
  have dd : qfe ((sides c).getD 0 Z3, (sides c).getD 1 Z3, (sides c).getD 2 Z3, ()) = some (det3 (sub3 (c.getD 1 Z3) (c.getD 0 Z3)) (sub3 (c.getD 2 Z3) (c.getD 0 Z3)) (sub3 (c.getD 3 Z3) (c.getD 0 Z3)), ()) := wh_pos ⟨b0, b1, b2⟩
  have l1 : ∀ (wl sg : Int), (sg = 1 ∨ sg = -1) → qbw (wl, (0 : Int), Z3, sides c, sub3 t (c.getD 0 Z3), sg, ()) = some (
     pickS (sg * det3 (sub3 t (c.getD 0 Z3)) (sub3 (c.getD 2 Z3) (c.getD 0 Z3)) (sub3 (c.getD 3 Z3) (c.getD 0 Z3))) (sg * det3 (sub3 (c.getD 1 Z3) (c.getD 0 Z3)) (sub3 t (c.getD 0 Z3)) (sub3 (c.getD 3 Z3) (c.getD 0 Z3))) (sg * det3 (sub3 (c.getD 1 Z3) (c.getD 0 Z3)) (sub3 (c.getD 2 Z3) (c.getD 0 Z3)) (sub3 t (c.getD 0 Z3))) wl) := fun wl sg hs => wh_pos ⟨rfl, rfl, rfl, b0, b1, b2, bt, hs⟩
  have hb := det3_bnd b0 b1 b2
  simp only [locate_tetra_holds, g0, Option.bind_some, dd, m0]
  unfold holdC holdR
  generalize sub3 (c.getD 1 Z3) (c.getD 0 Z3) = s0 at *
  generalize sub3 (c.getD 2 Z3) (c.getD 0 Z3) = s1 at *
  generalize sub3 (c.getD 3 Z3) (c.getD 0 Z3) = s2 at *
  generalize sub3 t (c.getD 0 Z3) = tg at *
  by_cases h0 : det3 s0 s1 s2 = 0
  · rw [cond'_eq h0, if_pos h0]
  rw [cond'_ne h0, if_neg h0]
  by_cases hn : det3 s0 s1 s2 < 0
  · have hs : (-1 : Int) = 1 ∨ (-1 : Int) = -1 := .inr rfl
    rw [cond'_pos hn, if_pos hn, w64 (by omega) (by omega), l1 _ _ hs]
    exact pick_fin (sg_bnd hs bt b1 b2) (sg_bnd hs b0 bt b2) (sg_bnd hs b0 b1 bt) _
  · have hs : (1 : Int) = 1 ∨ (1 : Int) = -1 := .inl rfl
    rw [cond'_neg hn, if_neg hn, w64 (by omega) (by omega), l1 _ _ hs]
    exact pick_fin (sg_bnd hs bt b1 b2) (sg_bnd hs b0 bt b2) (sg_bnd hs b0 b1 bt) _
theorem spec_locate_tetra_holds : FnSpec Tryz.prog gl 26 ⟨[(false, (.prod (.arr 3 (.int .i64)) (.prod (.arr 3 (.int .i64)) (.prod (.arr 4 (.arr 3 (.int .i64))) .unit)))), (false, (.arr 3 (.int .i64)))], [(false, (.arr 3 (.int .i64))), (false, (.int .i64)), (false, .bool)], qv⟩ := qe fun x y h => ⟨qmp, 50, rfl, qtw, (quw x.1 x.2.1).trans (qux x y h)⟩
end
end Go.AV
end
section
set_option linter.unusedVariables false
set_option linter.unusedSimpArgs false
set_option maxRecDepth 100000
namespace Go.AV
open Go Go.Proofs
noncomputable section
def okLoc (g : GridT) (t : List Int) : Bool := decide (g.1.length = 3) && decide (g.2.1 = 3) && decide (t.length = 3) && allIn 0 65535 t
def locErr (g : GridT) (t : List Int) : Int := match okGrid g with
  | false => 100
  | true => match okLoc g t with
    | true => 0
    | false => 2
noncomputable def qei : Shape := ⟨[.j, .j, .j, .j, .j, .j, .j, .j, .j, .j, .j, .j, .j, .j, .j, .j, .j, .j, .j, .j, .j, .j, .j, .j, .j, .j, .j, .dat (.slice (.int .i64)), .dat (.int .i64), .dat (.int .i64), .j, .j, .j, .j, .j, .j, .j, .j, .j, .j], [[]], [], []⟩
noncomputable def qh9 : List (Ex × Shape) := [(.ret, ⟨[.j, .j, .j, .j, .dat (.int .i64), .j, .j, .j, .j, .j, .j, .j, .j, .j, .j, .j, .j, .j, .j, .j, .j, .j, .j, .j, .j, .j, .j, .j, .j, .j, .j, .j, .j, .j, .j, .j, .j, .j, .j, .j], [[]], [], []⟩), (.exit 0, ⟨[.j, .j, .j, .j, .j, .j, .j, .j, .j, .j, .j, .j, .j, .j, .j, .j, .j, .j, .j, .j, .j, .j, .j, .j, .j, .j, .j, .j, .j, .j, .j, .j, .j, .j, .j, .j, .j, .j, .j, .j], [[]], [], []⟩)]
abbrev qjj : Type := (List Int) × Int × Int × Unit
abbrev qjk : Type := ((Int × Unit) ⊕ (Unit))
noncomputable def qfr : Env := (Env.mk' tyF fnF gl (lookT []) (lookL []) (fun f c => match Nat.beq f 24 && Nat.beq c 0 with | true => some qei | false => none))
theorem qx3 : EnvAll Tryz.prog qfr := EnvAll.mk' tabs _ (qb trivial) (qa trivial)
noncomputable def qh8 : List Lp := []
noncomputable def qej (rec : qjj → Option qjk) (v : (List Int)) (v1 : Int) (v2 : Int) : Option qjk :=
  cond' ((decide (v2 < v1))) (
    cond' (decide (0 ≤ v2 ∧ v2 < ((v.length : Nat) : Int))) (
    cond' ((decide ((v.getD v2.toNat (0 : Int)) < (0 : Int)))) (
      some (.inl ((2 : Int), ()))) (
      cond' ((decide ((v.getD v2.toNat (0 : Int)) > (65535 : Int)))) (
        some (.inl ((2 : Int), ()))) (
        rec (v, v1, (IntKind.i64.wrap (v2 + (1 : Int))), ())))) none) (
    some (.inr ()))
noncomputable def qgh : Nat → qjj → Option qjk
  | 0, _ => none
  | n + 1, x => qej (qgh n) x.1 x.2.1 x.2.2.1
theorem qpd (fu : Nat) (v : (List Int)) (v1 : Int) (v2 : Int) : qgh (fu + 1) (v, v1, v2, ()) = qej (qgh fu) v v1 v2 := rfl
theorem qwn (fu : Nat) (v : (List Int)) (v1 : Int) (v2 : Int) : ev qfr (fu + 1) 24 0 (.loop (loopAt Tryz.f24 0)) (qei.enc qh8 (v, v1, v2, ())) (exitD qh9) = qej (fun x => ev qfr fu 24 0 (.loop (loopAt Tryz.f24 0)) (qei.enc qh8 x) (exitD qh9)) v v1 v2 := by kernel_rfl
theorem qzo (n : Nat) (x : qjj) : ev qfr n 24 0 (.loop (loopAt Tryz.f24 0)) (qei.enc qh8 x) (exitD qh9) = qgh n x :=
  fuel_eq (f := fun n x => ev qfr n 24 0 (.loop (loopAt Tryz.f24 0)) (qei.enc qh8 x) (exitD qh9)) (st := fun rec x => qej rec x.1 x.2.1 x.2.2.1) (fun _ => rfl) (fun n x => qwn n x.1 x.2.1 x.2.2.1) qgh (fun _ => rfl) (fun _ _ => rfl) n x
def qmm (x : qjj) : Option qjk := wh (x.2.1 = x.1.length ∧ x.2.2.1 = 0 ∧ x.1.length ≤ 1000) (match allIn 0 65535 x.1 with
  | false => .inl (2, ())
  | true => .inr ())
theorem qp5 (s : List Int) (hl : s.length ≤ 1000) : ∀ (j k : Nat), k + j = s.length → qgh (j + 1) (s, (s.length : Int), (k : Int), ()) = some (match allIn 0 65535 (s.drop k) with
  | false => .inl (2, ())
  | true => .inr ())
  | 0, k, hk => by
    rw [qpd]
    simp only [qej]
    rw [cond'_neg (by omega), List.drop_eq_nil_of_le (by omega)]
    rfl
  | j + 1, k, hk => by
    have ih := qp5 s hl j (k + 1) (by omega)
    have hkl : k < s.length := by omega
    rw [qpd]
    simp only [qej, Int.toNat_natCast]
    rw [cond'_pos (by omega), cond'_pos (by omega), drop_getD hkl, w64 (by omega) (by omega)]
    unfold allIn at ih ⊢
    rw [List.all_cons]
    by_cases h1 : s.getD k 0 < 0
    · rw [cond'_pos h1, decide_eq_false (by omega : ¬ 0 ≤ s.getD k 0)]; rfl
    rw [cond'_neg h1, decide_eq_true (by omega : 0 ≤ s.getD k 0)]
    by_cases h2 : s.getD k 0 > 65535
    · rw [cond'_pos h2, decide_eq_false (by omega : ¬ s.getD k 0 ≤ 65535)]; rfl
    rw [cond'_neg h2, decide_eq_true (by omega : s.getD k 0 ≤ 65535)]
    exact ih
theorem qzp (x : qjj) (y : qjk) (h : qmm x = some y) : ∃ n, qgh n x = some y := by
  obtain ⟨s, v, i, ⟨⟩⟩ := x
  obtain ⟨⟨h1, h2, h3⟩, rfl⟩ := wh_some h
  simp only at h1 h2 h3
  subst h1; subst h2
  exact ⟨_, qp5 s h3 s.length 0 (by omega)⟩
noncomputable def qr6 : LoopC := ⟨qei, qh9, qmm⟩
theorem qwx : LoopSpec Tryz.prog gl 24 0 qr6 := qd (canon := qh8) .nil (fun c hc x y h => by
  obtain rfl := loopAt_eq (fn := Tryz.f24) Tryz.func24 (by kernel_rfl) hc
  obtain ⟨n, hn⟩ := qzp x y h
  exact ⟨qfr, n, rfl, qx3, (qzo n x).trans hn⟩)
def q5g (x : GridT × List Int × Unit) : Option (Int × Unit) := wh (x.1.1.length ≤ 1000000 ∧ x.1.2.2.1.length ≤ 1000000) (locErr x.1 x.2.1, ())
noncomputable def qri : Env := (Env.mk' tyF fnF gl (lookT [(42, ⟨[(false, (.prod (.slice (.int .i64)) (.prod (.int .i64) (.prod (.slice (.int .i64)) .unit))))], [(false, (.int .i64))], qoj⟩)]) (lookL [(24, 0, [qr6])]) (fun _ _ => none))
theorem q1r : EnvAll Tryz.prog qri := EnvAll.mk' tabs _ (qb ⟨spec_grid_Check, trivial⟩) (qa ⟨⟨qwx, trivial⟩, trivial⟩)
noncomputable def locate_check (g : ((List Int) × (Int × ((List Int) × Unit)))) (target : (List Int)) : Option (Int × Unit) :=
  (qoj (g, ())).bind fun y1 =>
  cond' ((y1.1 != (0 : Int))) (
    some (y1.1, ())) (
    cond' ((((g.1.length : Nat) : Int) != (3 : Int))) (
      some ((2 : Int), ())) (
      cond' ((g.2.1 != (3 : Int))) (
        some ((2 : Int), ())) (
        cond' ((((target.length : Nat) : Int) != (3 : Int))) (
          some ((2 : Int), ())) (
          (qmm (target, ((target.length : Nat) : Int), (0 : Int), ())).bind fun y2 =>
          match y2 with
          | .inl a3 =>
            some (a3.1, ())
          | .inr b4 =>
            some ((0 : Int), ())))))
theorem q2n (g : ((List Int) × (Int × ((List Int) × Unit)))) (target : (List Int)) : evFn qri 50 24 [(false, (.prod (.slice (.int .i64)) (.prod (.int .i64) (.prod (.slice (.int .i64)) .unit)))), (false, (.slice (.int .i64)))] [(false, (.int .i64))] (g, target, ()) = locate_check g target := by kernel_rfl
def qfd := q5g
theorem q2o (x : GridT × List Int × Unit) (y : Int × Unit) (h : qfd x = some y) : locate_check x.1 x.2.1 = some y := by
  obtain ⟨⟨sz, o, dt, ⟨⟩⟩, t, ⟨⟩⟩ := x
  obtain ⟨⟨h1, h2⟩, rfl⟩ := wh_some h
  simp only at h1 h2
  have hc : qoj ((sz, o, dt, ()), ()) = some (match okGrid (sz, o, dt, ()) with
    | true => 0
    | false => 100, ()) := wh_pos ⟨h1, h2⟩
  simp only [locate_check, hc, Option.bind_some, locErr]
  cases okGrid (sz, o, dt, ()) with
  | false => rfl
  | true =>
    simp only []
    rw [cond'_bne_eq rfl]
    unfold okLoc
    simp only []
    by_cases a1 : sz.length = 3
    case neg => rw [cond'_bne_ne (by omega), decide_eq_false a1]; rfl
    rw [cond'_bne_eq (by omega), decide_eq_true a1, Bool.true_and]
    by_cases a2 : o = 3
    case neg => rw [cond'_bne_ne a2, decide_eq_false a2]; rfl
    rw [cond'_bne_eq a2, decide_eq_true a2, Bool.true_and]
    by_cases a3 : t.length = 3
    case neg => rw [cond'_bne_ne (by omega), decide_eq_false a3]; rfl
    have g0 : qmm (t, ((t.length : Nat) : Int), (0 : Int), ()) = some (match allIn 0 65535 t with
      | false => .inl (2, ())
      | true => .inr ()) := wh_pos ⟨rfl, rfl, by simp only; omega⟩
    rw [cond'_bne_eq (by omega), decide_eq_true a3, Bool.true_and, g0]
    cases allIn 0 65535 t <;> rfl
theorem spec_locate_check : FnSpec Tryz.prog gl 24 ⟨[(false, (.prod (.slice (.int .i64)) (.prod (.int .i64) (.prod (.slice (.int .i64)) .unit)))), (false, (.slice (.int .i64)))], [(false, (.int .i64))], qfd⟩ := qe fun x y h => ⟨qri, 50, rfl, q1r, (q2n x.1 x.2.1).trans (q2o x y h)⟩
end
end Go.AV
end
section
set_option linter.unusedVariables false
set_option linter.unusedSimpArgs false
set_option maxRecDepth 100000
namespace Go.AV
open Go Go.Proofs
noncomputable section
abbrev TetT := List Int × List Int × List (List Int) × Unit
def idxP (g : GridT) (x : List Int) : Int := 3 * ((x.getD 0 0 * g.1.getD 1 0 + x.getD 1 0) * g.1.getD 2 0 + x.getD 2 0)
def valP (g : GridT) (x : List Int) : List Int := [g.2.2.1.getD (idxP g x).toNat 0, g.2.2.1.getD ((idxP g x).toNat + 1) 0, g.2.2.1.getD ((idxP g x).toNat + 2) 0]
def inP (g : GridT) (x : List Int) : Prop := (0 ≤ x.getD 0 0 ∧ x.getD 0 0 < g.1.getD 0 0) ∧ (0 ≤ x.getD 1 0 ∧ x.getD 1 0 < g.1.getD 1 0) ∧ (0 ≤ x.getD 2 0 ∧ x.getD 2 0 < g.1.getD 2 0)
structure okG3 (g : GridT) : Prop where
  l : g.1.length = 3
  o : g.2.1 = 3
  s0 : 2 ≤ g.1.getD 0 0 ∧ g.1.getD 0 0 ≤ 9
  s1 : 2 ≤ g.1.getD 1 0 ∧ g.1.getD 1 0 ≤ 9
  s2 : 2 ≤ g.1.getD 2 0 ∧ g.1.getD 2 0 ≤ 9
  d : (g.2.2.1.length : Int) = 3 * (g.1.getD 0 0 * (g.1.getD 1 0 * g.1.getD 2 0))
  v : allIn 0 65535 g.2.2.1 = true
theorem okG3_of {g : GridT} {t : List Int} (h1 : okGrid g = true) (h2 : okLoc g t = true) : okG3 g := by
  obtain ⟨sz, o, dt, ⟨⟩⟩ := g
  simp only [okGrid, okLoc, Bool.and_eq_true, decide_eq_true_eq] at h1 h2
  obtain ⟨⟨⟨a1, a2⟩, a3⟩, a4⟩ := h2
  obtain ⟨⟨⟨b1, b2⟩, b3⟩, b4⟩ := h1
  obtain ⟨c1, c2⟩ := b1
  obtain ⟨p, q, r, rfl⟩ := len3 a1
  subst a2
  have s := fun i hi => allIn_get c2 (i := i) hi
  refine ⟨rfl, rfl, s 0 (by simp), s 1 (by simp), s 2 (by simp), ?_, b4⟩
  simp only [prodL, Int.mul_one] at b2
  simp only [List.getD_cons_zero, List.getD_cons_succ]
  rw [b2, Int.mul_comm]
theorem idx_facts {g : GridT} {x : List Int} (hg : okG3 g) (hx : inP g x) :
    (0 ≤ x.getD 0 0 * g.1.getD 1 0 ∧ x.getD 0 0 * g.1.getD 1 0 ≤ 81) ∧ (0 ≤ (x.getD 0 0 * g.1.getD 1 0 + x.getD 1 0) * g.1.getD 2 0 ∧ (x.getD 0 0 * g.1.getD 1 0 + x.getD 1 0) * g.1.getD 2 0 ≤ 800) ∧
    0 ≤ idxP g x ∧ idxP g x + 3 ≤ (g.2.2.1.length : Int) := by
  obtain ⟨⟨a0, a1⟩, ⟨b0, b1⟩, c0, c1⟩ := hx
  obtain ⟨hl, ho, ⟨s00, s01⟩, ⟨s10, s11⟩, ⟨s20, s21⟩, hd, hv⟩ := hg
  rw [hd]
  unfold idxP
  generalize x.getD 0 0 = a at *
  generalize x.getD 1 0 = b at *
  generalize x.getD 2 0 = c at *
  generalize g.1.getD 0 0 = s0 at *
  generalize g.1.getD 1 0 = s1 at *
  generalize g.1.getD 2 0 = s2 at *
  have h1 : 0 ≤ a * s1 := Int.mul_nonneg a0 (by omega)
  have h2 : a * s1 ≤ (s0 - 1) * s1 := Int.mul_le_mul_of_nonneg_right (by omega) (by omega)
  have h3 : (s0 - 1) * s1 ≤ 8 * s1 := Int.mul_le_mul_of_nonneg_right (by omega) (by omega)
  have e1 : (s0 - 1) * s1 = s0 * s1 - s1 := by rw [Int.sub_mul, Int.one_mul]
  have h4 : 0 ≤ (a * s1 + b) * s2 := Int.mul_nonneg (by omega) (by omega)
  have h5 : (a * s1 + b) * s2 ≤ (s0 * s1 - 1) * s2 := Int.mul_le_mul_of_nonneg_right (by omega) (by omega)
  have h6 : (s0 * s1 - 1) * s2 ≤ 80 * s2 := Int.mul_le_mul_of_nonneg_right (by omega) (by omega)
  have e2 : (s0 * s1 - 1) * s2 = s0 * (s1 * s2) - s2 := by rw [Int.sub_mul, Int.one_mul, Int.mul_assoc]
  omega
theorem slice3 (D : List Int) (n : Nat) (h : n + 3 ≤ D.length) : ((D.take (n + 3)).drop n).take 3 = [D.getD n 0, D.getD (n + 1) 0, D.getD (n + 2) 0] ∧ ((D.take (n + 3)).drop n).length = 3 := by
  have hl : ((D.take (n + 3)).drop n).length = 3 := by rw [List.length_drop, List.length_take]; omega
  refine ⟨?_, hl⟩
  rw [List.take_of_length_le (by omega)]
  apply List.ext_getElem?
  intro i
  rw [List.getElem?_drop, List.getElem?_take]
  by_cases hi : i < 3
  · rw [if_pos (by omega)]
    have : i = 0 ∨ i = 1 ∨ i = 2 := by omega
    rcases this with rfl | rfl | rfl
    · rw [List.getElem?_eq_getElem (by omega)]; simp [List.getD_eq_getElem?_getD, List.getElem?_eq_getElem (show n < D.length by omega)]
    · rw [List.getElem?_eq_getElem (by omega)]; simp [List.getD_eq_getElem?_getD, List.getElem?_eq_getElem (show n + 1 < D.length by omega)]
    · rw [List.getElem?_eq_getElem (by omega)]; simp [List.getD_eq_getElem?_getD, List.getElem?_eq_getElem (show n + 2 < D.length by omega)]
  · rw [if_neg (by omega)]
    match i, hi with
    | i + 3, _ => rfl
theorem valP_in {g : GridT} {x : List Int} (hg : okG3 g) (hx : inP g x) : in16 (valP g x) := by
  obtain ⟨_, _, h1, h2⟩ := idx_facts hg hx
  have hv := hg.v
  have g0 := allIn_get hv (i := (idxP g x).toNat) (by omega)
  have g1 := allIn_get hv (i := (idxP g x).toNat + 1) (by omega)
  have g2 := allIn_get hv (i := (idxP g x).toNat + 2) (by omega)
  exact ⟨g0, g1, g2⟩
def bump (x : List Int) (o : Int) : List Int := x.set o.toNat (x.getD o.toNat 0 + 1)
def cor (g : GridT) (x od : List Int) : List (List Int) :=
  [valP g x, valP g (bump x (od.getD 0 0)), valP g (bump (bump x (od.getD 0 0)) (od.getD 1 0)), valP g (bump (bump (bump x (od.getD 0 0)) (od.getD 1 0)) (od.getD 2 0))]
abbrev ords : List (List Int) := [[(0 : Int), (1 : Int), (2 : Int)], [(0 : Int), (2 : Int), (1 : Int)], [(1 : Int), (0 : Int), (2 : Int)], [(1 : Int), (2 : Int), (0 : Int)], [(2 : Int), (0 : Int), (1 : Int)], [(2 : Int), (1 : Int), (0 : Int)]]
def ordN (o : Nat) : List Int := ords.getD o Z3
def cellP (g : GridT) (i j k : Int) : Prop := (0 ≤ i ∧ i < g.1.getD 0 0 - 1) ∧ (0 ≤ j ∧ j < g.1.getD 1 0 - 1) ∧ (0 ≤ k ∧ k < g.1.getD 2 0 - 1)
def wayP (g : GridT) (x od : List Int) : Prop := inP g x ∧ x.length = 3 ∧ (∀ q, q < 3 → 0 ≤ od.getD q 0 ∧ od.getD q 0 < 3) ∧ inP g (bump x (od.getD 0 0)) ∧ inP g (bump (bump x (od.getD 0 0)) (od.getD 1 0)) ∧ inP g (bump (bump (bump x (od.getD 0 0)) (od.getD 1 0)) (od.getD 2 0))
theorem wayP_of {g : GridT} {i j k : Int} (h : cellP g i j k) {o : Nat} (ho : o < 6) : wayP g [i, j, k] (ordN o) := by
  obtain ⟨h1, h2, h3⟩ := h
  have hq : ∀ od : List Int, (0 ≤ od.getD 0 0 ∧ od.getD 0 0 < 3) → (0 ≤ od.getD 1 0 ∧ od.getD 1 0 < 3) → (0 ≤ od.getD 2 0 ∧ od.getD 2 0 < 3) → ∀ q, q < 3 → 0 ≤ od.getD q 0 ∧ od.getD q 0 < 3 := by
    intro od a b c q hq
    have : q = 0 ∨ q = 1 ∨ q = 2 := by omega
    rcases this with rfl | rfl | rfl
    · exact a
    · exact b
    · exact c
  have : o = 0 ∨ o = 1 ∨ o = 2 ∨ o = 3 ∨ o = 4 ∨ o = 5 := by omega
  have n1 : (1 : Int).toNat = 1 := rfl
  have n2 : (2 : Int).toNat = 2 := rfl
  rcases this with rfl | rfl | rfl | rfl | rfl | rfl <;>
    (refine ⟨?_, rfl, hq _ (by decide) (by decide) (by decide), ?_, ?_, ?_⟩ <;>
      (simp only [inP, bump, ordN, ords, List.getD_cons_zero, List.getD_cons_succ, Int.toNat_zero, n1, n2, List.set_cons_zero, List.set_cons_succ]; omega))
theorem cor_in {g : GridT} {x od : List Int} (hg : okG3 g) (h : wayP g x od) : in16c (cor g x od) :=
  ⟨valP_in hg h.1, valP_in hg h.2.2.2.1, valP_in hg h.2.2.2.2.1, valP_in hg h.2.2.2.2.2⟩
noncomputable def qcv : Shape := ⟨[.yld 0, .loc 0 [], .j, .dat (.int .i64), .dat (.int .i64), .dat (.int .i64), .dat (.int .i64), .j, .loc 1 [], .loc 2 [], .loc 3 [], .j, .j, .j, .j, .j, .j, .dat (.int .i64), .dat (.int .i64), .j, .j, .j, .j, .j, .j, .dat (.int .i64), .dat (.int .i64), .j, .j, .j, .j, .j, .j, .dat (.int .i64), .dat (.int .i64), .j, .j, .dat (.arr 6 (.arr 3 (.int .i64))), .dat (.int .i64), .j, .j, .j, .j, .j, .j, .j, .j, .j, .j, .dat (.int .i64), .j, .j, .j, .j, .j, .j, .j, .j, .j, .j, .j, .j, .j, .j, .j, .j, .j, .j, .j, .j, .j, .j, .j, .j, .j, .j, .j, .j, .j, .j, .j, .j, .j, .j, .j, .j, .j, .j, .j, .j, .j, .j, .j, .j, .j, .j, .j, .j, .j, .j, .j, .j, .j, .j], [[.j, .j, .loc 4 [], .j, .nils, .loc 5 [], .dat (.int .i64), .j, .loc 6 [], .loc 7 [], .loc 8 [], .j, .j, .j, .j, .j, .j, .j, .j, .j, .j, .j, .j, .j, .j, .j, .j, .j, .j, .j, .j, .j, .j, .j, .j, .j, .j, .j, .j, .j, .j, .j, .j, .j, .j, .j, .j, .j, .j, .j, .j, .j, .j, .j, .j, .j, .j, .j, .j, .j, .j, .j, .j, .j, .j, .j, .j, .j, .j, .j, .j, .j, .j, .j, .j, .j, .j, .j, .j, .j, .j, .j, .j, .j, .j, .j, .j, .j, .j, .j, .j, .j, .j, .j, .j, .j, .j, .j, .j, .j, .j], []], [.box false (.dat (.prod (.slice (.int .i64)) (.prod (.int .i64) (.prod (.slice (.int .i64)) .unit)))), .box false (.dat (.arr 3 (.int .i64))), .box false (.dat (.prod (.arr 3 (.int .i64)) (.prod (.arr 3 (.int .i64)) (.prod (.arr 4 (.arr 3 (.int .i64))) .unit)))), .box false (.dat (.arr 3 (.int .i64))), .box false (.dat (.prod (.slice (.int .i64)) (.prod (.int .i64) (.prod (.slice (.int .i64)) .unit)))), .box false (.dat (.int .i64)), .box false (.dat (.prod (.arr 3 (.int .i64)) (.prod (.arr 3 (.int .i64)) (.prod (.arr 4 (.arr 3 (.int .i64))) .unit)))), .box false (.dat (.arr 3 (.int .i64))), .box false (.dat (.int .i64)), .box false (.dat (.slice (.int .i64)))], [⟨12, 0, .ready, [.j, .j, .j, .loc 9 [], .j, .loc 5 [], .j, .j, .loc 6 [], .loc 7 [], .loc 8 [], .j, .j, .j, .j, .j, .j, .j, .j, .j, .j, .j, .j, .j, .j, .j, .j, .j, .j, .j, .j, .j, .j, .j, .j, .j, .j, .j, .j, .j, .j, .j, .j, .j, .j, .j, .j, .j, .j, .j, .j, .j, .j, .j, .j, .j, .j, .j, .j, .j, .j, .j, .j, .j, .j, .j, .j, .j, .j, .j, .j, .j, .j, .j, .j, .j, .j, .j, .j, .j, .j, .j, .j, .j, .j, .j, .j, .j, .j, .j, .j, .j, .j, .j, .j, .j, .j, .j, .j, .j, .j]⟩]⟩
noncomputable def qf6 : List (Ex × Shape) := [(.exit 8, ⟨[.yld 0, .loc 0 [], .j, .dat (.int .i64), .dat (.int .i64), .dat (.int .i64), .dat (.int .i64), .j, .j, .loc 1 [], .j, .j, .j, .j, .j, .j, .j, .dat (.int .i64), .dat (.int .i64), .j, .j, .j, .j, .j, .j, .dat (.int .i64), .dat (.int .i64), .j, .j, .j, .j, .j, .j, .dat (.int .i64), .dat (.int .i64), .j, .j, .dat (.arr 6 (.arr 3 (.int .i64))), .dat (.int .i64), .j, .j, .j, .j, .j, .j, .j, .j, .j, .j, .j, .j, .j, .j, .j, .j, .j, .j, .j, .j, .j, .j, .j, .j, .j, .j, .j, .j, .j, .j, .j, .j, .j, .j, .j, .j, .j, .j, .j, .j, .j, .j, .j, .j, .j, .j, .j, .j, .j, .j, .j, .j, .j, .j, .j, .j, .j, .j, .j, .j, .j, .j, .j, .j, .j], [[.j, .j, .loc 2 [], .j, .nils, .loc 3 [], .dat (.int .i64), .j, .loc 4 [], .loc 5 [], .loc 6 [], .j, .j, .j, .j, .j, .j, .j, .j, .j, .j, .j, .j, .j, .j, .j, .j, .j, .j, .j, .j, .j, .j, .j, .j, .j, .j, .j, .j, .j, .j, .j, .j, .j, .j, .j, .j, .j, .j, .j, .j, .j, .j, .j, .j, .j, .j, .j, .j, .j, .j, .j, .j, .j, .j, .j, .j, .j, .j, .j, .j, .j, .j, .j, .j, .j, .j, .j, .j, .j, .j, .j, .j, .j, .j, .j, .j, .j, .j, .j, .j, .j, .j, .j, .j, .j, .j, .j, .j, .j, .j], []], [.box false (.dat (.prod (.slice (.int .i64)) (.prod (.int .i64) (.prod (.slice (.int .i64)) .unit)))), .box false (.dat (.prod (.arr 3 (.int .i64)) (.prod (.arr 3 (.int .i64)) (.prod (.arr 4 (.arr 3 (.int .i64))) .unit)))), .box false (.dat (.prod (.slice (.int .i64)) (.prod (.int .i64) (.prod (.slice (.int .i64)) .unit)))), .box false (.dat (.int .i64)), .box false (.dat (.prod (.arr 3 (.int .i64)) (.prod (.arr 3 (.int .i64)) (.prod (.arr 4 (.arr 3 (.int .i64))) .unit)))), .box false (.dat (.arr 3 (.int .i64))), .box false (.dat (.int .i64)), .box false (.dat (.slice (.int .i64)))], [⟨12, 0, .ready, [.j, .j, .j, .loc 7 [], .j, .loc 3 [], .j, .j, .loc 4 [], .loc 5 [], .loc 6 [], .j, .j, .j, .j, .j, .j, .j, .j, .j, .j, .j, .j, .j, .j, .j, .j, .j, .j, .j, .j, .j, .j, .j, .j, .j, .j, .j, .j, .j, .j, .j, .j, .j, .j, .j, .j, .j, .j, .j, .j, .j, .j, .j, .j, .j, .j, .j, .j, .j, .j, .j, .j, .j, .j, .j, .j, .j, .j, .j, .j, .j, .j, .j, .j, .j, .j, .j, .j, .j, .j, .j, .j, .j, .j, .j, .j, .j, .j, .j, .j, .j, .j, .j, .j, .j, .j, .j, .j, .j, .j]⟩]⟩)]
abbrev qbr : Type := Int × Int × Int × Int × Int × Int × Int × Int × Int × Int × (List (List Int)) × Int × Int × Int × ((List Int) × (Int × ((List Int) × Unit))) × (List Int) × ((List Int) × ((List Int) × ((List (List Int)) × Unit))) × (List Int) × ((List Int) × (Int × ((List Int) × Unit))) × Int × ((List Int) × ((List Int) × ((List (List Int)) × Unit))) × (List Int) × Int × (List Int) × Unit
abbrev qbs : Type := (Int × Int × Int × Int × Int × Int × Int × Int × Int × Int × (List (List Int)) × Int × Int × ((List Int) × (Int × ((List Int) × Unit))) × ((List Int) × ((List Int) × ((List (List Int)) × Unit))) × ((List Int) × (Int × ((List Int) × Unit))) × Int × ((List Int) × ((List Int) × ((List (List Int)) × Unit))) × (List Int) × Int × (List Int) × Unit)
noncomputable def qpy : Env := Env.mk' tyF fnF gl (lookT []) (lookL []) (fun f c => match Nat.beq f 43 && Nat.beq c 8 with | true => some qcv | false => none)
theorem quf : EnvAll Tryz.prog qpy := EnvAll.mk' tabs _ (qb trivial) (qa trivial)
noncomputable def qeb : Env := (qpy).up 1000
theorem qwf : EnvAll Tryz.prog qeb := EnvAll.up (quf) 1000
noncomputable def qf5 : List Lp := [rfRec 12 0 Tryz.f12]
noncomputable def qr (rec : qbr → Option qbs) (n : Int) (i : Int) (j : Int) (k : Int) (v : Int) (v1 : Int) (v2 : Int) (v3 : Int) (v4 : Int) (v5 : Int) (v6 : (List (List Int))) (v7 : Int) (v8 : Int) (o : Int) (v9 : ((List Int) × (Int × ((List Int) × Unit)))) (order : (List Int)) (t : ((List Int) × ((List Int) × ((List (List Int)) × Unit)))) (x : (List Int)) (v10 : ((List Int) × (Int × ((List Int) × Unit)))) (v11 : Int) (v12 : ((List Int) × ((List Int) × ((List (List Int)) × Unit)))) (v13 : (List Int)) (v14 : Int) (v15 : (List Int)) : Option qbs :=
  cond' ((decide (v8 < (4 : Int)))) (
    cond' ((decide (v8 > (0 : Int)))) (
      cond' (decide (0 ≤ (IntKind.i64.wrap (v8 - (1 : Int))) ∧ (IntKind.i64.wrap (v8 - (1 : Int))) < ((3 : Nat) : Int))) (
      (some (order.getD ((IntKind.i64.wrap (v8 - (1 : Int))).toNat) (0 : Int))).bind fun z1 =>
      cond' (decide (0 ≤ z1 ∧ z1 < ((3 : Nat) : Int))) (
      (some (IntKind.i64.wrap ((x.getD z1.toNat (0 : Int)) + (1 : Int)))).bind fun z2 =>
      cond' (decide (0 ≤ z1 ∧ z1 < ((3 : Nat) : Int))) (
      cond' (decide (0 ≤ (1 : Int) ∧ (1 : Int) < ((v9.1.length : Nat) : Int))) (
      (some (IntKind.i64.wrap (((x.set z1.toNat z2).getD 0 (0 : Int)) * (v9.1.getD 1 (0 : Int))))).bind fun z3 =>
      (some (IntKind.i64.wrap (z3 + ((x.set z1.toNat z2).getD 1 (0 : Int))))).bind fun z4 =>
      cond' (decide (0 ≤ (2 : Int) ∧ (2 : Int) < ((v9.1.length : Nat) : Int))) (
      (some (IntKind.i64.wrap ((IntKind.i64.wrap (z4 * (v9.1.getD 2 (0 : Int)))) + ((x.set z1.toNat z2).getD 2 (0 : Int))))).bind fun z5 =>
      (some (IntKind.i64.wrap ((IntKind.i64.wrap ((3 : Int) * z5)) + (3 : Int)))).bind fun z6 =>
      cond' (decide (0 ≤ (IntKind.i64.wrap ((3 : Int) * z5)) ∧ (IntKind.i64.wrap ((3 : Int) * z5)) ≤ z6 ∧ z6 ≤ ((v9.2.2.1.length : Nat) : Int))) (
      (some ((v9.2.2.1.take z6.toNat).drop ((IntKind.i64.wrap ((3 : Int) * z5)).toNat))).bind fun z7 =>
      cond' (decide (3 ≤ z7.length)) (
      cond' (decide (0 ≤ v8 ∧ v8 < ((4 : Nat) : Int))) (
      rec (n, i, j, k, v, v1, v2, v3, v4, v5, v6, v7, (IntKind.i64.wrap (v8 + (1 : Int))), o, v9, order, (t.1, t.2.1, (t.2.2.1.set v8.toNat (z7.take 3)), t.2.2.2), (x.set z1.toNat z2), v10, v11, v12, v13, v14, v15, ())) none) none) none) none) none) none) none) none) (
      cond' (decide (0 ≤ (1 : Int) ∧ (1 : Int) < ((v9.1.length : Nat) : Int))) (
      (some (IntKind.i64.wrap ((x.getD 0 (0 : Int)) * (v9.1.getD 1 (0 : Int))))).bind fun z8 =>
      cond' (decide (0 ≤ (2 : Int) ∧ (2 : Int) < ((v9.1.length : Nat) : Int))) (
      (some (IntKind.i64.wrap ((IntKind.i64.wrap (z8 + (x.getD 1 (0 : Int)))) * (v9.1.getD 2 (0 : Int))))).bind fun z9 =>
      (some (IntKind.i64.wrap ((3 : Int) * (IntKind.i64.wrap (z9 + (x.getD 2 (0 : Int))))))).bind fun z10 =>
      cond' (decide (0 ≤ z10 ∧ z10 ≤ (IntKind.i64.wrap (z10 + (3 : Int))) ∧ (IntKind.i64.wrap (z10 + (3 : Int))) ≤ ((v9.2.2.1.length : Nat) : Int))) (
      (some ((v9.2.2.1.take ((IntKind.i64.wrap (z10 + (3 : Int))).toNat)).drop z10.toNat)).bind fun z11 =>
      cond' (decide (3 ≤ z11.length)) (
      cond' (decide (0 ≤ v8 ∧ v8 < ((4 : Nat) : Int))) (
      rec (n, i, j, k, v, v1, v2, v3, v4, v5, v6, v7, (IntKind.i64.wrap (v8 + (1 : Int))), o, v9, order, (t.1, t.2.1, (t.2.2.1.set v8.toNat (z11.take 3)), t.2.2.2), x, v10, v11, v12, v13, v14, v15, ())) none) none) none) none) none)) (
    some (n, i, j, k, v, v1, v2, v3, v4, v5, v6, v7, o, v9, t, v10, v11, v12, v13, v14, v15, ()))
noncomputable def qax : Nat → qbr → Option qbs
  | 0, _ => none
  | n + 1, x => qr (qax n) x.1 x.2.1 x.2.2.1 x.2.2.2.1 x.2.2.2.2.1 x.2.2.2.2.2.1 x.2.2.2.2.2.2.1 x.2.2.2.2.2.2.2.1 x.2.2.2.2.2.2.2.2.1 x.2.2.2.2.2.2.2.2.2.1 x.2.2.2.2.2.2.2.2.2.2.1 x.2.2.2.2.2.2.2.2.2.2.2.1 x.2.2.2.2.2.2.2.2.2.2.2.2.1 x.2.2.2.2.2.2.2.2.2.2.2.2.2.1 x.2.2.2.2.2.2.2.2.2.2.2.2.2.2.1 x.2.2.2.2.2.2.2.2.2.2.2.2.2.2.2.1 x.2.2.2.2.2.2.2.2.2.2.2.2.2.2.2.2.1 x.2.2.2.2.2.2.2.2.2.2.2.2.2.2.2.2.2.1 x.2.2.2.2.2.2.2.2.2.2.2.2.2.2.2.2.2.2.1 x.2.2.2.2.2.2.2.2.2.2.2.2.2.2.2.2.2.2.2.1 x.2.2.2.2.2.2.2.2.2.2.2.2.2.2.2.2.2.2.2.2.1 x.2.2.2.2.2.2.2.2.2.2.2.2.2.2.2.2.2.2.2.2.2.1 x.2.2.2.2.2.2.2.2.2.2.2.2.2.2.2.2.2.2.2.2.2.2.1 x.2.2.2.2.2.2.2.2.2.2.2.2.2.2.2.2.2.2.2.2.2.2.2.1
theorem qdk (fu : Nat) (n : Int) (i : Int) (j : Int) (k : Int) (v : Int) (v1 : Int) (v2 : Int) (v3 : Int) (v4 : Int) (v5 : Int) (v6 : (List (List Int))) (v7 : Int) (v8 : Int) (o : Int) (v9 : ((List Int) × (Int × ((List Int) × Unit)))) (order : (List Int)) (t : ((List Int) × ((List Int) × ((List (List Int)) × Unit)))) (x : (List Int)) (v10 : ((List Int) × (Int × ((List Int) × Unit)))) (v11 : Int) (v12 : ((List Int) × ((List Int) × ((List (List Int)) × Unit)))) (v13 : (List Int)) (v14 : Int) (v15 : (List Int)) : qax (fu + 1) (n, i, j, k, v, v1, v2, v3, v4, v5, v6, v7, v8, o, v9, order, t, x, v10, v11, v12, v13, v14, v15, ()) = qr (qax fu) n i j k v v1 v2 v3 v4 v5 v6 v7 v8 o v9 order t x v10 v11 v12 v13 v14 v15 := rfl
theorem qug (fu : Nat) (n : Int) (i : Int) (j : Int) (k : Int) (v : Int) (v1 : Int) (v2 : Int) (v3 : Int) (v4 : Int) (v5 : Int) (v6 : (List (List Int))) (v7 : Int) (v8 : Int) (o : Int) (v9 : ((List Int) × (Int × ((List Int) × Unit)))) (order : (List Int)) (t : ((List Int) × ((List Int) × ((List (List Int)) × Unit)))) (x : (List Int)) (v10 : ((List Int) × (Int × ((List Int) × Unit)))) (v11 : Int) (v12 : ((List Int) × ((List Int) × ((List (List Int)) × Unit)))) (v13 : (List Int)) (v14 : Int) (v15 : (List Int)) : ev qeb (fu + 1) 43 8 (.loop (loopAt Tryz.f43 8)) (qcv.enc qf5 (n, i, j, k, v, v1, v2, v3, v4, v5, v6, v7, v8, o, v9, order, t, x, v10, v11, v12, v13, v14, v15, ())) (exitD qf6) = qr (fun x => ev qeb fu 43 8 (.loop (loopAt Tryz.f43 8)) (qcv.enc qf5 x) (exitD qf6)) n i j k v v1 v2 v3 v4 v5 v6 v7 v8 o v9 order t x v10 v11 v12 v13 v14 v15 := by kernel_rfl
theorem qxp (n : Nat) (x : qbr) : ev qeb n 43 8 (.loop (loopAt Tryz.f43 8)) (qcv.enc qf5 x) (exitD qf6) = qax n x :=
  fuel_eq (f := fun n x => ev qeb n 43 8 (.loop (loopAt Tryz.f43 8)) (qcv.enc qf5 x) (exitD qf6)) (st := fun rec x => qr rec x.1 x.2.1 x.2.2.1 x.2.2.2.1 x.2.2.2.2.1 x.2.2.2.2.2.1 x.2.2.2.2.2.2.1 x.2.2.2.2.2.2.2.1 x.2.2.2.2.2.2.2.2.1 x.2.2.2.2.2.2.2.2.2.1 x.2.2.2.2.2.2.2.2.2.2.1 x.2.2.2.2.2.2.2.2.2.2.2.1 x.2.2.2.2.2.2.2.2.2.2.2.2.1 x.2.2.2.2.2.2.2.2.2.2.2.2.2.1 x.2.2.2.2.2.2.2.2.2.2.2.2.2.2.1 x.2.2.2.2.2.2.2.2.2.2.2.2.2.2.2.1 x.2.2.2.2.2.2.2.2.2.2.2.2.2.2.2.2.1 x.2.2.2.2.2.2.2.2.2.2.2.2.2.2.2.2.2.1 x.2.2.2.2.2.2.2.2.2.2.2.2.2.2.2.2.2.2.1 x.2.2.2.2.2.2.2.2.2.2.2.2.2.2.2.2.2.2.2.1 x.2.2.2.2.2.2.2.2.2.2.2.2.2.2.2.2.2.2.2.2.1 x.2.2.2.2.2.2.2.2.2.2.2.2.2.2.2.2.2.2.2.2.2.1 x.2.2.2.2.2.2.2.2.2.2.2.2.2.2.2.2.2.2.2.2.2.2.1 x.2.2.2.2.2.2.2.2.2.2.2.2.2.2.2.2.2.2.2.2.2.2.2.1) (fun _ => rfl) (fun n x => qug n x.1 x.2.1 x.2.2.1 x.2.2.2.1 x.2.2.2.2.1 x.2.2.2.2.2.1 x.2.2.2.2.2.2.1 x.2.2.2.2.2.2.2.1 x.2.2.2.2.2.2.2.2.1 x.2.2.2.2.2.2.2.2.2.1 x.2.2.2.2.2.2.2.2.2.2.1 x.2.2.2.2.2.2.2.2.2.2.2.1 x.2.2.2.2.2.2.2.2.2.2.2.2.1 x.2.2.2.2.2.2.2.2.2.2.2.2.2.1 x.2.2.2.2.2.2.2.2.2.2.2.2.2.2.1 x.2.2.2.2.2.2.2.2.2.2.2.2.2.2.2.1 x.2.2.2.2.2.2.2.2.2.2.2.2.2.2.2.2.1 x.2.2.2.2.2.2.2.2.2.2.2.2.2.2.2.2.2.1 x.2.2.2.2.2.2.2.2.2.2.2.2.2.2.2.2.2.2.1 x.2.2.2.2.2.2.2.2.2.2.2.2.2.2.2.2.2.2.2.1 x.2.2.2.2.2.2.2.2.2.2.2.2.2.2.2.2.2.2.2.2.1 x.2.2.2.2.2.2.2.2.2.2.2.2.2.2.2.2.2.2.2.2.2.1 x.2.2.2.2.2.2.2.2.2.2.2.2.2.2.2.2.2.2.2.2.2.2.1 x.2.2.2.2.2.2.2.2.2.2.2.2.2.2.2.2.2.2.2.2.2.2.2.1) qax (fun _ => rfl) (fun _ _ => rfl) n x
def qld : qbr → Option qbs
  | (n, i, j, k, v, v1, v2, v3, v4, v5, v6, v7, c, o, g, od, t, x, u0, u1, u2, u3, u4, u5, ()) => wh (c = 0 ∧ okG3 g ∧ wayP g x od ∧ t.2.2.1 = [Z3, Z3, Z3, Z3]) (n, i, j, k, v, v1, v2, v3, v4, v5, v6, v7, o, g, (t.1, t.2.1, cor g x od, ()), u0, u1, u2, u3, u4, u5, ())
theorem qwg (rec : qbr → Option qbs) (n i j k v v1 v2 v3 v4 v5 : Int) (v6 : List (List Int)) (v7 : Int) (o : Int) (g : GridT) (od : List Int) (t : TetT) (x : List Int) (u0 : GridT) (u1 : Int) (u2 : TetT) (u3 : List Int) (u4 : Int) (u5 : List Int) (hg : okG3 g) (hx : inP g x) :
    qr rec n i j k v v1 v2 v3 v4 v5 v6 v7 0 o g od t x u0 u1 u2 u3 u4 u5 = rec (n, i, j, k, v, v1, v2, v3, v4, v5, v6, v7, 1, o, g, od, (t.1, t.2.1, t.2.2.1.set 0 (valP g x), t.2.2.2), x, u0, u1, u2, u3, u4, u5, ()) := by
  obtain ⟨f1, f2, f3, f4⟩ := idx_facts hg hx
  have hl := hg.l
  have hx0 := hx.1
  have hx1 := hx.2.1
  have hx2 := hx.2.2
  have s1 := hg.s1
  have s2 := hg.s2
  have e1 : IntKind.i64.wrap ((0 : Int) + 1) = 1 := by decide
  obtain ⟨q1, q2⟩ := slice3 g.2.2.1 (idxP g x).toNat (by omega)
  unfold idxP at f3 f4
  simp only [qr, e1, Int.toNat_zero]
  rw [cond'_pos (by omega), cond'_neg (by omega), cond'_pos (by omega)]
  rw [w64 (x := x.getD 0 0 * g.1.getD 1 0) (by omega) (by omega)]
  try simp only [Option.bind_some]
  rw [cond'_pos (by omega), w64 (x := x.getD 0 0 * g.1.getD 1 0 + x.getD 1 0) (by omega) (by omega), w64 (x := (x.getD 0 0 * g.1.getD 1 0 + x.getD 1 0) * g.1.getD 2 0) (by omega) (by omega)]
  try simp only [Option.bind_some]
  rw [w64 (x := (x.getD 0 0 * g.1.getD 1 0 + x.getD 1 0) * g.1.getD 2 0 + x.getD 2 0) (by omega) (by omega), w64 (by omega) (by omega)]
  try simp only [Option.bind_some]
  have ei : 3 * ((x.getD 0 0 * g.1.getD 1 0 + x.getD 1 0) * g.1.getD 2 0 + x.getD 2 0) = idxP g x := rfl
  rw [ei] at f3 f4 ⊢
  have et : (idxP g x + 3).toNat = (idxP g x).toNat + 3 := by omega
  rw [w64 (x := idxP g x + 3) (by omega) (by omega), cond'_pos (by omega), et]
  rw [cond'_pos (by omega), cond'_pos (by omega), q1]
  rfl
theorem qmo (rec : qbr → Option qbs) (n i j k v v1 v2 v3 v4 v5 : Int) (v6 : List (List Int)) (v7 : Int) (o : Int) (g : GridT) (c : Nat) (od : List Int) (t : TetT) (x : List Int) (u0 : GridT) (u1 : Int) (u2 : TetT) (u3 : List Int) (u4 : Int) (u5 : List Int) (hg : okG3 g) (hx : inP g (bump x (od.getD (c - 1) 0))) (hx0 : inP g x) (hc : 1 ≤ c) (hc2 : c ≤ 3) (hz : 0 ≤ od.getD (c - 1) 0 ∧ od.getD (c - 1) 0 < 3) (hxl : x.length = 3) :
    qr rec n i j k v v1 v2 v3 v4 v5 v6 v7 (c : Int) o g od t x u0 u1 u2 u3 u4 u5 = rec (n, i, j, k, v, v1, v2, v3, v4, v5, v6, v7, ((c + 1 : Nat) : Int), o, g, od, (t.1, t.2.1, t.2.2.1.set c (valP g (bump x (od.getD (c - 1) 0))), t.2.2.2), bump x (od.getD (c - 1) 0), u0, u1, u2, u3, u4, u5, ()) := by
  obtain ⟨f1, f2, f3, f4⟩ := idx_facts hg hx
  have hl := hg.l
  have hy0 := hx.1
  have hy1 := hx.2.1
  have hy2 := hx.2.2
  have s0 := hg.s0
  have s1 := hg.s1
  have s2 := hg.s2
  obtain ⟨q1, q2⟩ := slice3 g.2.2.1 (idxP g (bump x (od.getD (c - 1) 0))).toNat (by omega)
  unfold idxP at f3 f4
  have ec : ((c : Int) - 1).toNat = c - 1 := by omega
  simp only [qr, Int.toNat_natCast]
  rw [cond'_pos (by omega), cond'_pos (by omega), w64 (x := (c : Int) - 1) (by omega) (by omega), cond'_pos (by omega), ec]
  try simp only [Option.bind_some]
  generalize hzz : od.getD (c - 1) 0 = z at *
  rw [cond'_pos (by omega)]
  have hb : x.getD z.toNat 0 < 9 ∧ 0 ≤ x.getD z.toNat 0 := by
    obtain ⟨a0, a1, a2⟩ := hx0
    have : z = 0 ∨ z = 1 ∨ z = 2 := by omega
    rcases this with rfl | rfl | rfl
    · exact ⟨by show x.getD 0 0 < 9; omega, by show 0 ≤ x.getD 0 0; omega⟩
    · exact ⟨by show x.getD 1 0 < 9; omega, by show 0 ≤ x.getD 1 0; omega⟩
    · exact ⟨by show x.getD 2 0 < 9; omega, by show 0 ≤ x.getD 2 0; omega⟩
  rw [w64 (x := x.getD z.toNat 0 + 1) (by omega) (by omega)]
  have eb : x.set z.toNat (x.getD z.toNat 0 + 1) = bump x z := rfl
  simp only [Option.bind_some, eb]
  generalize bump x z = y at *
  rw [cond'_pos (by omega), cond'_pos (by omega)]
  rw [w64 (x := y.getD 0 0 * g.1.getD 1 0) (by omega) (by omega)]
  try simp only [Option.bind_some]
  rw [w64 (x := y.getD 0 0 * g.1.getD 1 0 + y.getD 1 0) (by omega) (by omega)]
  try simp only [Option.bind_some]
  rw [cond'_pos (by omega), w64 (x := (y.getD 0 0 * g.1.getD 1 0 + y.getD 1 0) * g.1.getD 2 0) (by omega) (by omega), w64 (x := (y.getD 0 0 * g.1.getD 1 0 + y.getD 1 0) * g.1.getD 2 0 + y.getD 2 0) (by omega) (by omega)]
  try simp only [Option.bind_some]
  rw [w64 (x := 3 * ((y.getD 0 0 * g.1.getD 1 0 + y.getD 1 0) * g.1.getD 2 0 + y.getD 2 0)) (by omega) (by omega), w64 (x := 3 * ((y.getD 0 0 * g.1.getD 1 0 + y.getD 1 0) * g.1.getD 2 0 + y.getD 2 0) + 3) (by omega) (by omega)]
  try simp only [Option.bind_some]
  have ei : 3 * ((y.getD 0 0 * g.1.getD 1 0 + y.getD 1 0) * g.1.getD 2 0 + y.getD 2 0) = idxP g y := rfl
  rw [ei] at f3 f4 ⊢
  have et : (idxP g y + 3).toNat = (idxP g y).toNat + 3 := by omega
  rw [cond'_pos (by omega), et]
  rw [cond'_pos (by omega), cond'_pos (by omega), q1, w64 (x := (c : Int) + 1) (by omega) (by omega)]
  rfl
theorem qxq (x : qbr) (y : qbs) (h : qld x = some y) : ∃ n, qax n x = some y := by
  obtain ⟨n, i, j, k, v, v1, v2, v3, v4, v5, v6, v7, c, o, g, od, t, x, u0, u1, u2, u3, u4, u5, ⟨⟩⟩ := x
  obtain ⟨⟨h1, h2, h3, h4⟩, rfl⟩ := wh_some h
  obtain ⟨t1, t2, t3, ⟨⟩⟩ := t
  simp only at h1 h4
  subst h1; subst h4
  obtain ⟨w0, wl, wo, w1, w2, w3⟩ := h3
  refine ⟨5, ?_⟩
  rw [qdk, qwg _ n i j k v v1 v2 v3 v4 v5 v6 v7 o g od _ x u0 u1 u2 u3 u4 u5 h2 w0, qdk]
  have e1 := qmo (qax 3) n i j k v v1 v2 v3 v4 v5 v6 v7 o g 1 od (t1, t2, [Z3, Z3, Z3, Z3].set 0 (valP g x), ()) x u0 u1 u2 u3 u4 u5 h2 w1 w0 (by omega) (by omega) (wo 0 (by omega)) wl
  refine e1.trans ?_
  rw [qdk]
  have e2 := qmo (qax 2) n i j k v v1 v2 v3 v4 v5 v6 v7 o g 2 od (t1, t2, ([Z3, Z3, Z3, Z3].set 0 (valP g x)).set 1 (valP g (bump x (od.getD 0 0))), ()) (bump x (od.getD 0 0)) u0 u1 u2 u3 u4 u5 h2 w2 w1 (by omega) (by omega) (wo 1 (by omega)) (by unfold bump; rw [List.length_set]; exact wl)
  refine e2.trans ?_
  rw [qdk]
  have e3 := qmo (qax 1) n i j k v v1 v2 v3 v4 v5 v6 v7 o g 3 od (t1, t2, (([Z3, Z3, Z3, Z3].set 0 (valP g x)).set 1 (valP g (bump x (od.getD 0 0)))).set 2 (valP g (bump (bump x (od.getD 0 0)) (od.getD 1 0))), ()) (bump (bump x (od.getD 0 0)) (od.getD 1 0)) u0 u1 u2 u3 u4 u5 h2 w3 w2 (by omega) (by omega) (wo 2 (by omega)) (by unfold bump; rw [List.length_set, List.length_set]; exact wl)
  refine e3.trans ?_
  rw [qdk]
  simp only [qr]
  rw [cond'_neg (by omega)]
  rfl
noncomputable def qnh : LoopC := ⟨qcv, qf6, qld⟩
theorem qot : LoopSpec Tryz.prog gl 43 8 qnh := qd (canon := qf5) (.cons (fun _ _ _ h => rfRec_eq (fn := Tryz.f12) Tryz.func12 (by kernel_rfl) h) .nil) (fun c hc x y h => by
  obtain rfl := loopAt_eq (fn := Tryz.f43) Tryz.func43 (by kernel_rfl) hc
  obtain ⟨n, hn⟩ := qxq x y h
  exact ⟨qeb, n, rfl, qwf, (qxp n x).trans hn⟩)
noncomputable def qd2 : Shape := ⟨[.yld 0, .loc 0 [], .j, .dat (.int .i64), .dat (.int .i64), .dat (.int .i64), .dat (.int .i64), .j, .loc 1 [], .loc 2 [], .loc 3 [], .j, .j, .j, .j, .j, .j, .dat (.int .i64), .dat (.int .i64), .j, .j, .j, .j, .j, .j, .dat (.int .i64), .dat (.int .i64), .j, .j, .j, .j, .j, .j, .dat (.int .i64), .dat (.int .i64), .j, .j, .dat (.arr 6 (.arr 3 (.int .i64))), .dat (.int .i64), .j, .j, .j, .j, .j, .j, .j, .j, .j, .j, .dat (.int .i64), .j, .j, .j, .j, .j, .j, .j, .j, .j, .j, .j, .j, .j, .j, .j, .j, .j, .j, .j, .j, .j, .j, .j, .j, .j, .j, .j, .j, .j, .j, .j, .j, .j, .j, .j, .j, .j, .j, .j, .j, .j, .j, .j, .j, .j, .j, .j, .j, .j, .j, .j, .j, .j, .j], [[.j, .j, .j, .j, .dat (.int .i64), .dat (.int .i64), .j, .loc 4 [], .j, .j, .j, .j, .j, .j, .j, .j, .j, .j, .j, .j, .j, .j, .j, .j, .j, .j, .j, .j, .j, .j, .j, .j, .j, .j, .j, .j], []], [.box false (.dat (.prod (.slice (.int .i64)) (.prod (.int .i64) (.prod (.slice (.int .i64)) .unit)))), .box false (.dat (.arr 3 (.int .i64))), .box false (.dat (.prod (.arr 3 (.int .i64)) (.prod (.arr 3 (.int .i64)) (.prod (.arr 4 (.arr 3 (.int .i64))) .unit)))), .box false (.dat (.arr 3 (.int .i64))), .box false (.dat (.int .i64)), .box false (.dat (.slice (.int .i64)))], [⟨14, 0, .ready, [.j, .j, .j, .loc 5 [], .j, .j, .j, .loc 4 [], .j, .j, .j, .j, .j, .j, .j, .j, .j, .j, .j, .j, .j, .j, .j, .j, .j, .j, .j, .j, .j, .j, .j, .j, .j, .j, .j, .j]⟩]⟩
noncomputable def qhm : List (Ex × Shape) := [(.exit 8, ⟨[.yld 0, .loc 0 [], .j, .dat (.int .i64), .dat (.int .i64), .dat (.int .i64), .dat (.int .i64), .j, .j, .loc 1 [], .j, .j, .j, .j, .j, .j, .j, .dat (.int .i64), .dat (.int .i64), .j, .j, .j, .j, .j, .j, .dat (.int .i64), .dat (.int .i64), .j, .j, .j, .j, .j, .j, .dat (.int .i64), .dat (.int .i64), .j, .j, .dat (.arr 6 (.arr 3 (.int .i64))), .dat (.int .i64), .j, .j, .j, .j, .j, .j, .j, .j, .j, .j, .j, .j, .j, .j, .j, .j, .j, .j, .j, .j, .j, .j, .j, .j, .j, .j, .j, .j, .j, .j, .j, .j, .j, .j, .j, .j, .j, .j, .j, .j, .j, .j, .j, .j, .j, .j, .j, .j, .j, .j, .j, .j, .j, .j, .j, .j, .j, .j, .j, .j, .j, .j, .j, .j, .j], [[.j, .j, .j, .j, .dat (.int .i64), .dat (.int .i64), .j, .loc 2 [], .j, .j, .j, .j, .j, .j, .j, .j, .j, .j, .j, .j, .j, .j, .j, .j, .j, .j, .j, .j, .j, .j, .j, .j, .j, .j, .j, .j], []], [.box false (.dat (.prod (.slice (.int .i64)) (.prod (.int .i64) (.prod (.slice (.int .i64)) .unit)))), .box false (.dat (.prod (.arr 3 (.int .i64)) (.prod (.arr 3 (.int .i64)) (.prod (.arr 4 (.arr 3 (.int .i64))) .unit)))), .box false (.dat (.int .i64)), .box false (.dat (.slice (.int .i64)))], [⟨14, 0, .ready, [.j, .j, .j, .loc 3 [], .j, .j, .j, .loc 2 [], .j, .j, .j, .j, .j, .j, .j, .j, .j, .j, .j, .j, .j, .j, .j, .j, .j, .j, .j, .j, .j, .j, .j, .j, .j, .j, .j, .j]⟩]⟩)]
abbrev qcs : Type := Int × Int × Int × Int × Int × Int × Int × Int × Int × Int × (List (List Int)) × Int × Int × Int × Int × ((List Int) × (Int × ((List Int) × Unit))) × (List Int) × ((List Int) × ((List Int) × ((List (List Int)) × Unit))) × (List Int) × Int × (List Int) × Unit
abbrev qct : Type := (Int × Int × Int × Int × Int × Int × Int × Int × Int × Int × (List (List Int)) × Int × Int × Int × ((List Int) × (Int × ((List Int) × Unit))) × ((List Int) × ((List Int) × ((List (List Int)) × Unit))) × Int × (List Int) × Unit)
noncomputable def qqp : Env := Env.mk' tyF fnF gl (lookT []) (lookL []) (fun f c => match Nat.beq f 43 && Nat.beq c 8 with | true => some qd2 | false => none)
theorem qv4 : EnvAll Tryz.prog qqp := EnvAll.mk' tabs _ (qb trivial) (qa trivial)
noncomputable def qfm : Env := (qqp).up 1000
theorem qxj : EnvAll Tryz.prog qfm := EnvAll.up (qv4) 1000
noncomputable def qhl : List Lp := [rfRec 14 0 Tryz.f14]
noncomputable def qw (rec : qcs → Option qct) (n : Int) (i : Int) (j : Int) (k : Int) (v : Int) (v1 : Int) (v2 : Int) (v3 : Int) (v4 : Int) (v5 : Int) (v6 : (List (List Int))) (v7 : Int) (v8 : Int) (o : Int) (o1 : Int) (v9 : ((List Int) × (Int × ((List Int) × Unit)))) (order : (List Int)) (t : ((List Int) × ((List Int) × ((List (List Int)) × Unit)))) (x : (List Int)) (v10 : Int) (v11 : (List Int)) : Option qct :=
  cond' ((decide (v8 < (4 : Int)))) (
    cond' ((decide (v8 > (0 : Int)))) (
      cond' (decide (0 ≤ (IntKind.i64.wrap (v8 - (1 : Int))) ∧ (IntKind.i64.wrap (v8 - (1 : Int))) < ((3 : Nat) : Int))) (
      (some (order.getD ((IntKind.i64.wrap (v8 - (1 : Int))).toNat) (0 : Int))).bind fun z1 =>
      cond' (decide (0 ≤ z1 ∧ z1 < ((3 : Nat) : Int))) (
      (some (IntKind.i64.wrap ((x.getD z1.toNat (0 : Int)) + (1 : Int)))).bind fun z2 =>
      cond' (decide (0 ≤ z1 ∧ z1 < ((3 : Nat) : Int))) (
      cond' (decide (0 ≤ (1 : Int) ∧ (1 : Int) < ((v9.1.length : Nat) : Int))) (
      (some (IntKind.i64.wrap (((x.set z1.toNat z2).getD 0 (0 : Int)) * (v9.1.getD 1 (0 : Int))))).bind fun z3 =>
      (some (IntKind.i64.wrap (z3 + ((x.set z1.toNat z2).getD 1 (0 : Int))))).bind fun z4 =>
      cond' (decide (0 ≤ (2 : Int) ∧ (2 : Int) < ((v9.1.length : Nat) : Int))) (
      (some (IntKind.i64.wrap ((IntKind.i64.wrap (z4 * (v9.1.getD 2 (0 : Int)))) + ((x.set z1.toNat z2).getD 2 (0 : Int))))).bind fun z5 =>
      (some (IntKind.i64.wrap ((IntKind.i64.wrap ((3 : Int) * z5)) + (3 : Int)))).bind fun z6 =>
      cond' (decide (0 ≤ (IntKind.i64.wrap ((3 : Int) * z5)) ∧ (IntKind.i64.wrap ((3 : Int) * z5)) ≤ z6 ∧ z6 ≤ ((v9.2.2.1.length : Nat) : Int))) (
      (some ((v9.2.2.1.take z6.toNat).drop ((IntKind.i64.wrap ((3 : Int) * z5)).toNat))).bind fun z7 =>
      cond' (decide (3 ≤ z7.length)) (
      cond' (decide (0 ≤ v8 ∧ v8 < ((4 : Nat) : Int))) (
      rec (n, i, j, k, v, v1, v2, v3, v4, v5, v6, v7, (IntKind.i64.wrap (v8 + (1 : Int))), o, o1, v9, order, (t.1, t.2.1, (t.2.2.1.set v8.toNat (z7.take 3)), t.2.2.2), (x.set z1.toNat z2), v10, v11, ())) none) none) none) none) none) none) none) none) (
      cond' (decide (0 ≤ (1 : Int) ∧ (1 : Int) < ((v9.1.length : Nat) : Int))) (
      (some (IntKind.i64.wrap ((x.getD 0 (0 : Int)) * (v9.1.getD 1 (0 : Int))))).bind fun z8 =>
      cond' (decide (0 ≤ (2 : Int) ∧ (2 : Int) < ((v9.1.length : Nat) : Int))) (
      (some (IntKind.i64.wrap ((IntKind.i64.wrap (z8 + (x.getD 1 (0 : Int)))) * (v9.1.getD 2 (0 : Int))))).bind fun z9 =>
      (some (IntKind.i64.wrap ((3 : Int) * (IntKind.i64.wrap (z9 + (x.getD 2 (0 : Int))))))).bind fun z10 =>
      cond' (decide (0 ≤ z10 ∧ z10 ≤ (IntKind.i64.wrap (z10 + (3 : Int))) ∧ (IntKind.i64.wrap (z10 + (3 : Int))) ≤ ((v9.2.2.1.length : Nat) : Int))) (
      (some ((v9.2.2.1.take ((IntKind.i64.wrap (z10 + (3 : Int))).toNat)).drop z10.toNat)).bind fun z11 =>
      cond' (decide (3 ≤ z11.length)) (
      cond' (decide (0 ≤ v8 ∧ v8 < ((4 : Nat) : Int))) (
      rec (n, i, j, k, v, v1, v2, v3, v4, v5, v6, v7, (IntKind.i64.wrap (v8 + (1 : Int))), o, o1, v9, order, (t.1, t.2.1, (t.2.2.1.set v8.toNat (z11.take 3)), t.2.2.2), x, v10, v11, ())) none) none) none) none) none)) (
    some (n, i, j, k, v, v1, v2, v3, v4, v5, v6, v7, o, o1, v9, t, v10, v11, ()))
noncomputable def qbo : Nat → qcs → Option qct
  | 0, _ => none
  | n + 1, x => qw (qbo n) x.1 x.2.1 x.2.2.1 x.2.2.2.1 x.2.2.2.2.1 x.2.2.2.2.2.1 x.2.2.2.2.2.2.1 x.2.2.2.2.2.2.2.1 x.2.2.2.2.2.2.2.2.1 x.2.2.2.2.2.2.2.2.2.1 x.2.2.2.2.2.2.2.2.2.2.1 x.2.2.2.2.2.2.2.2.2.2.2.1 x.2.2.2.2.2.2.2.2.2.2.2.2.1 x.2.2.2.2.2.2.2.2.2.2.2.2.2.1 x.2.2.2.2.2.2.2.2.2.2.2.2.2.2.1 x.2.2.2.2.2.2.2.2.2.2.2.2.2.2.2.1 x.2.2.2.2.2.2.2.2.2.2.2.2.2.2.2.2.1 x.2.2.2.2.2.2.2.2.2.2.2.2.2.2.2.2.2.1 x.2.2.2.2.2.2.2.2.2.2.2.2.2.2.2.2.2.2.1 x.2.2.2.2.2.2.2.2.2.2.2.2.2.2.2.2.2.2.2.1 x.2.2.2.2.2.2.2.2.2.2.2.2.2.2.2.2.2.2.2.2.1
theorem qez (fu : Nat) (n : Int) (i : Int) (j : Int) (k : Int) (v : Int) (v1 : Int) (v2 : Int) (v3 : Int) (v4 : Int) (v5 : Int) (v6 : (List (List Int))) (v7 : Int) (v8 : Int) (o : Int) (o1 : Int) (v9 : ((List Int) × (Int × ((List Int) × Unit)))) (order : (List Int)) (t : ((List Int) × ((List Int) × ((List (List Int)) × Unit)))) (x : (List Int)) (v10 : Int) (v11 : (List Int)) : qbo (fu + 1) (n, i, j, k, v, v1, v2, v3, v4, v5, v6, v7, v8, o, o1, v9, order, t, x, v10, v11, ()) = qw (qbo fu) n i j k v v1 v2 v3 v4 v5 v6 v7 v8 o o1 v9 order t x v10 v11 := rfl
theorem qv5 (fu : Nat) (n : Int) (i : Int) (j : Int) (k : Int) (v : Int) (v1 : Int) (v2 : Int) (v3 : Int) (v4 : Int) (v5 : Int) (v6 : (List (List Int))) (v7 : Int) (v8 : Int) (o : Int) (o1 : Int) (v9 : ((List Int) × (Int × ((List Int) × Unit)))) (order : (List Int)) (t : ((List Int) × ((List Int) × ((List (List Int)) × Unit)))) (x : (List Int)) (v10 : Int) (v11 : (List Int)) : ev qfm (fu + 1) 43 8 (.loop (loopAt Tryz.f43 8)) (qd2.enc qhl (n, i, j, k, v, v1, v2, v3, v4, v5, v6, v7, v8, o, o1, v9, order, t, x, v10, v11, ())) (exitD qhm) = qw (fun x => ev qfm fu 43 8 (.loop (loopAt Tryz.f43 8)) (qd2.enc qhl x) (exitD qhm)) n i j k v v1 v2 v3 v4 v5 v6 v7 v8 o o1 v9 order t x v10 v11 := by kernel_rfl
theorem qzd (n : Nat) (x : qcs) : ev qfm n 43 8 (.loop (loopAt Tryz.f43 8)) (qd2.enc qhl x) (exitD qhm) = qbo n x :=
  fuel_eq (f := fun n x => ev qfm n 43 8 (.loop (loopAt Tryz.f43 8)) (qd2.enc qhl x) (exitD qhm)) (st := fun rec x => qw rec x.1 x.2.1 x.2.2.1 x.2.2.2.1 x.2.2.2.2.1 x.2.2.2.2.2.1 x.2.2.2.2.2.2.1 x.2.2.2.2.2.2.2.1 x.2.2.2.2.2.2.2.2.1 x.2.2.2.2.2.2.2.2.2.1 x.2.2.2.2.2.2.2.2.2.2.1 x.2.2.2.2.2.2.2.2.2.2.2.1 x.2.2.2.2.2.2.2.2.2.2.2.2.1 x.2.2.2.2.2.2.2.2.2.2.2.2.2.1 x.2.2.2.2.2.2.2.2.2.2.2.2.2.2.1 x.2.2.2.2.2.2.2.2.2.2.2.2.2.2.2.1 x.2.2.2.2.2.2.2.2.2.2.2.2.2.2.2.2.1 x.2.2.2.2.2.2.2.2.2.2.2.2.2.2.2.2.2.1 x.2.2.2.2.2.2.2.2.2.2.2.2.2.2.2.2.2.2.1 x.2.2.2.2.2.2.2.2.2.2.2.2.2.2.2.2.2.2.2.1 x.2.2.2.2.2.2.2.2.2.2.2.2.2.2.2.2.2.2.2.2.1) (fun _ => rfl) (fun n x => qv5 n x.1 x.2.1 x.2.2.1 x.2.2.2.1 x.2.2.2.2.1 x.2.2.2.2.2.1 x.2.2.2.2.2.2.1 x.2.2.2.2.2.2.2.1 x.2.2.2.2.2.2.2.2.1 x.2.2.2.2.2.2.2.2.2.1 x.2.2.2.2.2.2.2.2.2.2.1 x.2.2.2.2.2.2.2.2.2.2.2.1 x.2.2.2.2.2.2.2.2.2.2.2.2.1 x.2.2.2.2.2.2.2.2.2.2.2.2.2.1 x.2.2.2.2.2.2.2.2.2.2.2.2.2.2.1 x.2.2.2.2.2.2.2.2.2.2.2.2.2.2.2.1 x.2.2.2.2.2.2.2.2.2.2.2.2.2.2.2.2.1 x.2.2.2.2.2.2.2.2.2.2.2.2.2.2.2.2.2.1 x.2.2.2.2.2.2.2.2.2.2.2.2.2.2.2.2.2.2.1 x.2.2.2.2.2.2.2.2.2.2.2.2.2.2.2.2.2.2.2.1 x.2.2.2.2.2.2.2.2.2.2.2.2.2.2.2.2.2.2.2.2.1) qbo (fun _ => rfl) (fun _ _ => rfl) n x
def qmh : qcs → Option qct
  | (n, i, j, k, v, v1, v2, v3, v4, v5, v6, v7, c, o, o1, g, od, t, x, u0, u1, ()) => wh (c = 0 ∧ okG3 g ∧ wayP g x od ∧ t.2.2.1 = [Z3, Z3, Z3, Z3]) (n, i, j, k, v, v1, v2, v3, v4, v5, v6, v7, o, o1, g, (t.1, t.2.1, cor g x od, ()), u0, u1, ())
theorem qxk (rec : qcs → Option qct) (n i j k v v1 v2 v3 v4 v5 : Int) (v6 : List (List Int)) (v7 : Int) (o : Int) (o1 : Int) (g : GridT) (od : List Int) (t : TetT) (x : List Int) (u0 : Int) (u1 : List Int) (hg : okG3 g) (hx : inP g x) :
    qw rec n i j k v v1 v2 v3 v4 v5 v6 v7 0 o o1 g od t x u0 u1 = rec (n, i, j, k, v, v1, v2, v3, v4, v5, v6, v7, 1, o, o1, g, od, (t.1, t.2.1, t.2.2.1.set 0 (valP g x), t.2.2.2), x, u0, u1, ()) := by
  obtain ⟨f1, f2, f3, f4⟩ := idx_facts hg hx
  have hl := hg.l
  have hx0 := hx.1
  have hx1 := hx.2.1
  have hx2 := hx.2.2
  have s1 := hg.s1
  have s2 := hg.s2
  have e1 : IntKind.i64.wrap ((0 : Int) + 1) = 1 := by decide
  obtain ⟨q1, q2⟩ := slice3 g.2.2.1 (idxP g x).toNat (by omega)
  unfold idxP at f3 f4
  simp only [qw, e1, Int.toNat_zero]
  rw [cond'_pos (by omega), cond'_neg (by omega), cond'_pos (by omega)]
  rw [w64 (x := x.getD 0 0 * g.1.getD 1 0) (by omega) (by omega)]
  try simp only [Option.bind_some]
  rw [cond'_pos (by omega), w64 (x := x.getD 0 0 * g.1.getD 1 0 + x.getD 1 0) (by omega) (by omega), w64 (x := (x.getD 0 0 * g.1.getD 1 0 + x.getD 1 0) * g.1.getD 2 0) (by omega) (by omega)]
  try simp only [Option.bind_some]
  rw [w64 (x := (x.getD 0 0 * g.1.getD 1 0 + x.getD 1 0) * g.1.getD 2 0 + x.getD 2 0) (by omega) (by omega), w64 (by omega) (by omega)]
  try simp only [Option.bind_some]
  have ei : 3 * ((x.getD 0 0 * g.1.getD 1 0 + x.getD 1 0) * g.1.getD 2 0 + x.getD 2 0) = idxP g x := rfl
  rw [ei] at f3 f4 ⊢
  have et : (idxP g x + 3).toNat = (idxP g x).toNat + 3 := by omega
  rw [w64 (x := idxP g x + 3) (by omega) (by omega), cond'_pos (by omega), et]
  rw [cond'_pos (by omega), cond'_pos (by omega), q1]
  rfl
theorem qm4 (rec : qcs → Option qct) (n i j k v v1 v2 v3 v4 v5 : Int) (v6 : List (List Int)) (v7 : Int) (o : Int) (o1 : Int) (g : GridT) (c : Nat) (od : List Int) (t : TetT) (x : List Int) (u0 : Int) (u1 : List Int) (hg : okG3 g) (hx : inP g (bump x (od.getD (c - 1) 0))) (hx0 : inP g x) (hc : 1 ≤ c) (hc2 : c ≤ 3) (hz : 0 ≤ od.getD (c - 1) 0 ∧ od.getD (c - 1) 0 < 3) (hxl : x.length = 3) :
    qw rec n i j k v v1 v2 v3 v4 v5 v6 v7 (c : Int) o o1 g od t x u0 u1 = rec (n, i, j, k, v, v1, v2, v3, v4, v5, v6, v7, ((c + 1 : Nat) : Int), o, o1, g, od, (t.1, t.2.1, t.2.2.1.set c (valP g (bump x (od.getD (c - 1) 0))), t.2.2.2), bump x (od.getD (c - 1) 0), u0, u1, ()) := by
  obtain ⟨f1, f2, f3, f4⟩ := idx_facts hg hx
  have hl := hg.l
  have hy0 := hx.1
  have hy1 := hx.2.1
  have hy2 := hx.2.2
  have s0 := hg.s0
  have s1 := hg.s1
  have s2 := hg.s2
  obtain ⟨q1, q2⟩ := slice3 g.2.2.1 (idxP g (bump x (od.getD (c - 1) 0))).toNat (by omega)
  unfold idxP at f3 f4
  have ec : ((c : Int) - 1).toNat = c - 1 := by omega
  simp only [qw, Int.toNat_natCast]
  rw [cond'_pos (by omega), cond'_pos (by omega), w64 (x := (c : Int) - 1) (by omega) (by omega), cond'_pos (by omega), ec]
  try simp only [Option.bind_some]
  generalize hzz : od.getD (c - 1) 0 = z at *
  rw [cond'_pos (by omega)]
  have hb : x.getD z.toNat 0 < 9 ∧ 0 ≤ x.getD z.toNat 0 := by
    obtain ⟨a0, a1, a2⟩ := hx0
    have : z = 0 ∨ z = 1 ∨ z = 2 := by omega
    rcases this with rfl | rfl | rfl
    · exact ⟨by show x.getD 0 0 < 9; omega, by show 0 ≤ x.getD 0 0; omega⟩
    · exact ⟨by show x.getD 1 0 < 9; omega, by show 0 ≤ x.getD 1 0; omega⟩
    · exact ⟨by show x.getD 2 0 < 9; omega, by show 0 ≤ x.getD 2 0; omega⟩
  rw [w64 (x := x.getD z.toNat 0 + 1) (by omega) (by omega)]
  have eb : x.set z.toNat (x.getD z.toNat 0 + 1) = bump x z := rfl
  simp only [Option.bind_some, eb]
  generalize bump x z = y at *
  rw [cond'_pos (by omega), cond'_pos (by omega)]
  rw [w64 (x := y.getD 0 0 * g.1.getD 1 0) (by omega) (by omega)]
  try simp only [Option.bind_some]
  rw [w64 (x := y.getD 0 0 * g.1.getD 1 0 + y.getD 1 0) (by omega) (by omega)]
  try simp only [Option.bind_some]
  rw [cond'_pos (by omega), w64 (x := (y.getD 0 0 * g.1.getD 1 0 + y.getD 1 0) * g.1.getD 2 0) (by omega) (by omega), w64 (x := (y.getD 0 0 * g.1.getD 1 0 + y.getD 1 0) * g.1.getD 2 0 + y.getD 2 0) (by omega) (by omega)]
  try simp only [Option.bind_some]
  rw [w64 (x := 3 * ((y.getD 0 0 * g.1.getD 1 0 + y.getD 1 0) * g.1.getD 2 0 + y.getD 2 0)) (by omega) (by omega), w64 (x := 3 * ((y.getD 0 0 * g.1.getD 1 0 + y.getD 1 0) * g.1.getD 2 0 + y.getD 2 0) + 3) (by omega) (by omega)]
  try simp only [Option.bind_some]
  have ei : 3 * ((y.getD 0 0 * g.1.getD 1 0 + y.getD 1 0) * g.1.getD 2 0 + y.getD 2 0) = idxP g y := rfl
  rw [ei] at f3 f4 ⊢
  have et : (idxP g y + 3).toNat = (idxP g y).toNat + 3 := by omega
  rw [cond'_pos (by omega), et]
  rw [cond'_pos (by omega), cond'_pos (by omega), q1, w64 (x := (c : Int) + 1) (by omega) (by omega)]
  rfl
theorem qze (x : qcs) (y : qct) (h : qmh x = some y) : ∃ n, qbo n x = some y := by
  obtain ⟨n, i, j, k, v, v1, v2, v3, v4, v5, v6, v7, c, o, o1, g, od, t, x, u0, u1, ⟨⟩⟩ := x
  obtain ⟨⟨h1, h2, h3, h4⟩, rfl⟩ := wh_some h
  obtain ⟨t1, t2, t3, ⟨⟩⟩ := t
  simp only at h1 h4
  subst h1; subst h4
  obtain ⟨w0, wl, wo, w1, w2, w3⟩ := h3
  refine ⟨5, ?_⟩
  rw [qez, qxk _ n i j k v v1 v2 v3 v4 v5 v6 v7 o o1 g od _ x u0 u1 h2 w0, qez]
  have e1 := qm4 (qbo 3) n i j k v v1 v2 v3 v4 v5 v6 v7 o o1 g 1 od (t1, t2, [Z3, Z3, Z3, Z3].set 0 (valP g x), ()) x u0 u1 h2 w1 w0 (by omega) (by omega) (wo 0 (by omega)) wl
  refine e1.trans ?_
  rw [qez]
  have e2 := qm4 (qbo 2) n i j k v v1 v2 v3 v4 v5 v6 v7 o o1 g 2 od (t1, t2, ([Z3, Z3, Z3, Z3].set 0 (valP g x)).set 1 (valP g (bump x (od.getD 0 0))), ()) (bump x (od.getD 0 0)) u0 u1 h2 w2 w1 (by omega) (by omega) (wo 1 (by omega)) (by unfold bump; rw [List.length_set]; exact wl)
  refine e2.trans ?_
  rw [qez]
  have e3 := qm4 (qbo 1) n i j k v v1 v2 v3 v4 v5 v6 v7 o o1 g 3 od (t1, t2, (([Z3, Z3, Z3, Z3].set 0 (valP g x)).set 1 (valP g (bump x (od.getD 0 0)))).set 2 (valP g (bump (bump x (od.getD 0 0)) (od.getD 1 0))), ()) (bump (bump x (od.getD 0 0)) (od.getD 1 0)) u0 u1 h2 w3 w2 (by omega) (by omega) (wo 2 (by omega)) (by unfold bump; rw [List.length_set, List.length_set]; exact wl)
  refine e3.trans ?_
  rw [qez]
  simp only [qw]
  rw [cond'_neg (by omega)]
  rfl
noncomputable def qn5 : LoopC := ⟨qd2, qhm, qmh⟩
theorem qpk : LoopSpec Tryz.prog gl 43 8 qn5 := qd (canon := qhl) (.cons (fun _ _ _ h => rfRec_eq (fn := Tryz.f14) Tryz.func14 (by kernel_rfl) h) .nil) (fun c hc x y h => by
  obtain rfl := loopAt_eq (fn := Tryz.f43) Tryz.func43 (by kernel_rfl) hc
  obtain ⟨n, hn⟩ := qze x y h
  exact ⟨qfm, n, rfl, qxj, (qzd n x).trans hn⟩)
end
end Go.AV
end
section
set_option linter.unusedVariables false
set_option linter.unusedSimpArgs false
set_option maxRecDepth 100000
namespace Go.AV
open Go Go.Proofs
noncomputable section
def aN (g : GridT) : Nat := (g.1.getD 0 0).toNat - 1
def bN (g : GridT) : Nat := (g.1.getD 1 0).toNat - 1
def cN (g : GridT) : Nat := (g.1.getD 2 0).toNat - 1
def posN (g : GridT) (i j k q : Nat) : Nat := 6 * ((i * bN g + j) * cN g + k) + q
def cellN (g : GridT) (m : Nat) : List Int := [((m / 6 / (bN g * cN g) : Nat) : Int), ((m / 6 / cN g % bN g : Nat) : Int), ((m / 6 % cN g : Nat) : Int)]
def tetN (g : GridT) (m : Nat) : TetT := (cellN g m, ordN (m % 6), cor g (cellN g m) (ordN (m % 6)), ())
def hitN (g : GridT) (t : List Int) (m : Nat) : List Int × Int × Bool × Unit := holdC (cor g (cellN g m) (ordN (m % 6))) t
def isHit (g : GridT) (t : List Int) (m : Nat) : Bool := (hitN g t m).2.2.1
theorem cellN_pos {g : GridT} {i j k q : Nat} (hj : j < bN g) (hk : k < cN g) (hq : q < 6) : cellN g (posN g i j k q) = [(i : Int), (j : Int), (k : Int)] ∧ posN g i j k q % 6 = q := by
  unfold cellN posN
  have e0 : (6 * ((i * bN g + j) * cN g + k) + q) / 6 = (i * bN g + j) * cN g + k := by omega
  have e1 : (6 * ((i * bN g + j) * cN g + k) + q) % 6 = q := by omega
  have e2 : ((i * bN g + j) * cN g + k) / cN g = i * bN g + j := by
    rw [Nat.mul_comm, Nat.mul_add_div (by omega), Nat.div_eq_of_lt hk, Nat.add_zero]
  have e3 : ((i * bN g + j) * cN g + k) % cN g = k := by
    rw [Nat.mul_comm, Nat.mul_add_mod, Nat.mod_eq_of_lt hk]
  have e4 : (i * bN g + j) % bN g = j := by
    rw [Nat.mul_comm, Nat.mul_add_mod, Nat.mod_eq_of_lt hj]
  have e5 : ((i * bN g + j) * cN g + k) / (bN g * cN g) = i := by
    rw [Nat.mul_comm (bN g), ← Nat.div_div_eq_div_mul, e2, Nat.mul_comm, Nat.mul_add_div (by omega), Nat.div_eq_of_lt hj, Nat.add_zero]
  rw [e0, e1, e2, e3, e4, e5]
  exact ⟨rfl, rfl⟩
theorem hitN_pos {g : GridT} (t : List Int) {i j k q : Nat} (hj : j < bN g) (hk : k < cN g) (hq : q < 6) : hitN g t (posN g i j k q) = holdC (cor g [(i : Int), (j : Int), (k : Int)] (ordN q)) t := by
  obtain ⟨h1, h2⟩ := cellN_pos (i := i) hj hk hq
  unfold hitN
  rw [h1, h2]
theorem tetN_pos {g : GridT} {i j k q : Nat} (hj : j < bN g) (hk : k < cN g) (hq : q < 6) : tetN g (posN g i j k q) = ([(i : Int), (j : Int), (k : Int)], ordN q, cor g [(i : Int), (j : Int), (k : Int)] (ordN q), ()) := by
  obtain ⟨h1, h2⟩ := cellN_pos (i := i) hj hk hq
  unfold tetN
  rw [h1, h2]
def scan (f : Nat → Bool) : Nat → Nat → Option Nat
  | 0, _ => none
  | n + 1, s => match f s with
    | true => some s
    | false => scan f n (s + 1)
def cnt (f : Nat → Bool) : Nat → Nat → Nat
  | 0, _ => 0
  | n + 1, s => (match f s with
    | true => 1
    | false => 0) + cnt f n (s + 1)
theorem scan_add (f : Nat → Bool) : ∀ (a b s : Nat), scan f (a + b) s = (match scan f a s with
    | some m => some m
    | none => scan f b (s + a))
  | 0, b, s => by simp [scan]
  | a + 1, b, s => by
    rw [show a + 1 + b = a + b + 1 by omega, scan, scan]
    cases f s with
    | true => rfl
    | false =>
      simp only []
      rw [scan_add f a b (s + 1), show s + 1 + a = s + (a + 1) by omega]
theorem cnt_add (f : Nat → Bool) : ∀ (a b s : Nat), cnt f (a + b) s = cnt f a s + cnt f b (s + a)
  | 0, b, s => by simp [cnt]
  | a + 1, b, s => by
    rw [show a + 1 + b = a + b + 1 by omega, cnt, cnt, cnt_add f a b (s + 1), show s + 1 + a = s + (a + 1) by omega]
    omega
theorem cnt_le (f : Nat → Bool) : ∀ (a s : Nat), cnt f a s ≤ a
  | 0, s => Nat.le_refl _
  | a + 1, s => by
    have := cnt_le f a (s + 1)
    unfold cnt
    split <;> omega
theorem scan_some (f : Nat → Bool) : ∀ (a s m : Nat), scan f a s = some m → s ≤ m ∧ m < s + a ∧ f m = true
  | 0, s, m, h => by simp [scan] at h
  | a + 1, s, m, h => by
    unfold scan at h
    cases hf : f s with
    | true => rw [hf] at h; simp only [Option.some.injEq] at h; subst h; exact ⟨Nat.le_refl _, by omega, hf⟩
    | false =>
      rw [hf] at h
      obtain ⟨h1, h2, h3⟩ := scan_some f a (s + 1) m h
      exact ⟨by omega, by omega, h3⟩
theorem gN {g : GridT} (hg : okG3 g) : ((aN g : Int) = g.1.getD 0 0 - 1 ∧ 1 ≤ aN g ∧ aN g ≤ 8) ∧ ((bN g : Int) = g.1.getD 1 0 - 1 ∧ 1 ≤ bN g ∧ bN g ≤ 8) ∧ ((cN g : Int) = g.1.getD 2 0 - 1 ∧ 1 ≤ cN g ∧ cN g ≤ 8) := by
  have := hg.s0
  have := hg.s1
  have := hg.s2
  unfold aN bN cN
  omega
theorem cellP_of {g : GridT} (hg : okG3 g) {i j k : Nat} (hi : i < aN g) (hj : j < bN g) (hk : k < cN g) : cellP g i j k := by
  have := gN hg
  unfold cellP
  omega
theorem posN_lt {g : GridT} (hg : okG3 g) {i j k q : Nat} (hi : i ≤ aN g) (hj : j ≤ bN g) (hk : k ≤ cN g) (hq : q ≤ 6) : posN g i j k q ≤ 10000 := by
  obtain ⟨⟨_, _, a⟩, ⟨_, _, b⟩, ⟨_, _, c⟩⟩ := gN hg
  unfold posN
  have h1 : i * bN g ≤ 8 * 8 := Nat.mul_le_mul (by omega) b
  have h2 : (i * bN g + j) * cN g ≤ 72 * 8 := Nat.mul_le_mul (by omega) c
  omega
def tgtP (t : List Int) : Prop := t.length = 3 ∧ in16 t
noncomputable def qaz : Shape := ⟨[.yld 0, .loc 0 [], .j, .dat (.int .i64), .dat (.int .i64), .dat (.int .i64), .dat (.int .i64), .j, .j, .j, .j, .j, .j, .j, .j, .j, .j, .dat (.int .i64), .dat (.int .i64), .j, .j, .j, .j, .j, .j, .dat (.int .i64), .dat (.int .i64), .j, .j, .j, .j, .j, .j, .dat (.int .i64), .dat (.int .i64), .j, .j, .dat (.arr 6 (.arr 3 (.int .i64))), .dat (.int .i64), .j, .j, .j, .j, .j, .j, .j, .j, .j, .j, .j, .j, .j, .j, .j, .j, .j, .j, .j, .j, .j, .j, .j, .j, .j, .j, .j, .j, .j, .j, .j, .j, .j, .j, .j, .j, .j, .j, .j, .j, .j, .j, .j, .j, .j, .j, .j, .j, .j, .j, .j, .j, .j, .j, .j, .j, .j, .j, .j, .j, .j, .j, .j, .j, .j], [[.j, .j, .loc 1 [], .j, .nils, .loc 2 [], .dat (.int .i64), .j, .loc 3 [], .loc 4 [], .loc 5 [], .j, .j, .j, .j, .j, .j, .j, .j, .j, .j, .j, .j, .j, .j, .j, .j, .j, .j, .j, .j, .j, .j, .j, .j, .j, .j, .j, .j, .j, .j, .j, .j, .j, .j, .j, .j, .j, .j, .j, .j, .j, .j, .j, .j, .j, .j, .j, .j, .j, .j, .j, .j, .j, .j, .j, .j, .j, .j, .j, .j, .j, .j, .j, .j, .j, .j, .j, .j, .j, .j, .j, .j, .j, .j, .j, .j, .j, .j, .j, .j, .j, .j, .j, .j, .j, .j, .j, .j, .j, .j], []], [.box false (.dat (.prod (.slice (.int .i64)) (.prod (.int .i64) (.prod (.slice (.int .i64)) .unit)))), .box false (.dat (.prod (.slice (.int .i64)) (.prod (.int .i64) (.prod (.slice (.int .i64)) .unit)))), .box false (.dat (.int .i64)), .box false (.dat (.prod (.arr 3 (.int .i64)) (.prod (.arr 3 (.int .i64)) (.prod (.arr 4 (.arr 3 (.int .i64))) .unit)))), .box false (.dat (.arr 3 (.int .i64))), .box false (.dat (.int .i64)), .box false (.dat (.slice (.int .i64)))], [⟨12, 0, .ready, [.j, .j, .j, .loc 6 [], .j, .loc 2 [], .j, .j, .loc 3 [], .loc 4 [], .loc 5 [], .j, .j, .j, .j, .j, .j, .j, .j, .j, .j, .j, .j, .j, .j, .j, .j, .j, .j, .j, .j, .j, .j, .j, .j, .j, .j, .j, .j, .j, .j, .j, .j, .j, .j, .j, .j, .j, .j, .j, .j, .j, .j, .j, .j, .j, .j, .j, .j, .j, .j, .j, .j, .j, .j, .j, .j, .j, .j, .j, .j, .j, .j, .j, .j, .j, .j, .j, .j, .j, .j, .j, .j, .j, .j, .j, .j, .j, .j, .j, .j, .j, .j, .j, .j, .j, .j, .j, .j, .j, .j]⟩]⟩
noncomputable def qcx : List (Ex × Shape) := [(.ret, ⟨[.j, .j, .j, .j, .j, .j, .j, .j, .j, .j, .j, .j, .j, .j, .j, .j, .j, .j, .j, .j, .j, .j, .j, .j, .j, .j, .j, .j, .j, .j, .j, .j, .j, .j, .j, .j, .j, .j, .j, .j, .j, .j, .j, .j, .j, .j, .j, .j, .j, .j, .j, .j, .j, .j, .j, .j, .j, .j, .j, .j, .j, .j, .j, .j, .j, .j, .j, .j, .j, .j, .j, .j, .j, .j, .j, .j, .j, .j, .j, .j, .j, .j, .j, .j, .j, .j, .j, .j, .j, .j, .j, .j, .j, .j, .j, .j, .j, .j, .j, .j, .j, .j, .j, .j], [[.j, .j, .loc 0 [], .j, .nils, .loc 1 [], .dat (.int .i64), .j, .loc 2 [], .loc 3 [], .loc 4 [], .j, .j, .j, .j, .j, .j, .j, .j, .j, .j, .j, .j, .j, .j, .j, .j, .j, .j, .j, .j, .j, .j, .j, .j, .j, .j, .j, .j, .j, .j, .j, .j, .j, .j, .j, .j, .j, .j, .j, .j, .j, .j, .j, .j, .j, .j, .j, .j, .j, .j, .j, .j, .j, .j, .j, .j, .j, .j, .j, .j, .j, .j, .j, .j, .j, .j, .j, .j, .j, .j, .j, .j, .j, .j, .j, .j, .j, .j, .j, .j, .j, .j, .j, .j, .j, .j, .j, .j, .j, .j], []], [.box false (.dat (.prod (.slice (.int .i64)) (.prod (.int .i64) (.prod (.slice (.int .i64)) .unit)))), .box false (.dat (.int .i64)), .box false (.dat (.prod (.arr 3 (.int .i64)) (.prod (.arr 3 (.int .i64)) (.prod (.arr 4 (.arr 3 (.int .i64))) .unit)))), .box false (.dat (.arr 3 (.int .i64))), .box false (.dat (.int .i64)), .box false (.dat (.slice (.int .i64)))], [⟨12, 0, .done (.exit 0), [.j, .j, .j, .loc 5 [], .j, .loc 1 [], .j, .j, .loc 2 [], .loc 3 [], .loc 4 [], .j, .j, .j, .j, .j, .j, .j, .j, .j, .j, .j, .j, .j, .j, .j, .j, .j, .j, .j, .j, .j, .j, .j, .j, .j, .j, .j, .j, .j, .j, .j, .j, .j, .j, .j, .j, .j, .j, .j, .j, .j, .j, .j, .j, .j, .j, .j, .j, .j, .j, .j, .j, .j, .j, .j, .j, .j, .j, .j, .j, .j, .j, .j, .j, .j, .j, .j, .j, .j, .j, .j, .j, .j, .j, .j, .j, .j, .j, .j, .j, .j, .j, .j, .j, .j, .j, .j, .j, .j, .j]⟩]⟩), (.exit 6, ⟨[.yld 0, .loc 0 [], .j, .dat (.int .i64), .dat (.int .i64), .dat (.int .i64), .j, .j, .j, .j, .j, .j, .j, .j, .j, .j, .j, .dat (.int .i64), .dat (.int .i64), .j, .j, .j, .j, .j, .j, .dat (.int .i64), .dat (.int .i64), .j, .j, .j, .j, .j, .j, .dat (.int .i64), .dat (.int .i64), .j, .j, .j, .j, .j, .j, .j, .j, .j, .j, .j, .j, .j, .j, .j, .j, .j, .j, .j, .j, .j, .j, .j, .j, .j, .j, .j, .j, .j, .j, .j, .j, .j, .j, .j, .j, .j, .j, .j, .j, .j, .j, .j, .j, .j, .j, .j, .j, .j, .j, .j, .j, .j, .j, .j, .j, .j, .j, .j, .j, .j, .j, .j, .j, .j, .j, .j, .j, .j], [[.j, .j, .loc 1 [], .j, .nils, .loc 2 [], .dat (.int .i64), .j, .loc 3 [], .loc 4 [], .loc 5 [], .j, .j, .j, .j, .j, .j, .j, .j, .j, .j, .j, .j, .j, .j, .j, .j, .j, .j, .j, .j, .j, .j, .j, .j, .j, .j, .j, .j, .j, .j, .j, .j, .j, .j, .j, .j, .j, .j, .j, .j, .j, .j, .j, .j, .j, .j, .j, .j, .j, .j, .j, .j, .j, .j, .j, .j, .j, .j, .j, .j, .j, .j, .j, .j, .j, .j, .j, .j, .j, .j, .j, .j, .j, .j, .j, .j, .j, .j, .j, .j, .j, .j, .j, .j, .j, .j, .j, .j, .j, .j], []], [.box false (.dat (.prod (.slice (.int .i64)) (.prod (.int .i64) (.prod (.slice (.int .i64)) .unit)))), .box false (.dat (.prod (.slice (.int .i64)) (.prod (.int .i64) (.prod (.slice (.int .i64)) .unit)))), .box false (.dat (.int .i64)), .box false (.dat (.prod (.arr 3 (.int .i64)) (.prod (.arr 3 (.int .i64)) (.prod (.arr 4 (.arr 3 (.int .i64))) .unit)))), .box false (.dat (.arr 3 (.int .i64))), .box false (.dat (.int .i64)), .box false (.dat (.slice (.int .i64)))], [⟨12, 0, .ready, [.j, .j, .j, .loc 6 [], .j, .loc 2 [], .j, .j, .loc 3 [], .loc 4 [], .loc 5 [], .j, .j, .j, .j, .j, .j, .j, .j, .j, .j, .j, .j, .j, .j, .j, .j, .j, .j, .j, .j, .j, .j, .j, .j, .j, .j, .j, .j, .j, .j, .j, .j, .j, .j, .j, .j, .j, .j, .j, .j, .j, .j, .j, .j, .j, .j, .j, .j, .j, .j, .j, .j, .j, .j, .j, .j, .j, .j, .j, .j, .j, .j, .j, .j, .j, .j, .j, .j, .j, .j, .j, .j, .j, .j, .j, .j, .j, .j, .j, .j, .j, .j, .j, .j, .j, .j, .j, .j, .j, .j]⟩]⟩)]
abbrev qht : Type := Int × Int × Int × Int × Int × Int × Int × Int × Int × Int × (List (List Int)) × Int × Int × ((List Int) × (Int × ((List Int) × Unit))) × ((List Int) × (Int × ((List Int) × Unit))) × Int × ((List Int) × ((List Int) × ((List (List Int)) × Unit))) × (List Int) × Int × (List Int) × Unit
abbrev qec : Type := ((Int × ((List Int) × (Int × ((List Int) × Unit))) × Int × ((List Int) × ((List Int) × ((List (List Int)) × Unit))) × (List Int) × Int × (List Int) × Unit) ⊕ (Int × Int × Int × Int × Int × Int × Int × Int × Int × Int × ((List Int) × (Int × ((List Int) × Unit))) × ((List Int) × (Int × ((List Int) × Unit))) × Int × ((List Int) × ((List Int) × ((List (List Int)) × Unit))) × (List Int) × Int × (List Int) × Unit))
noncomputable def qpz : Env := Env.mk' tyF fnF gl (lookT [(26, ⟨[(false, (.prod (.arr 3 (.int .i64)) (.prod (.arr 3 (.int .i64)) (.prod (.arr 4 (.arr 3 (.int .i64))) .unit)))), (false, (.arr 3 (.int .i64)))], [(false, (.arr 3 (.int .i64))), (false, (.int .i64)), (false, .bool)], qv⟩)]) (lookL [(43, 8, [qn5, qnh])]) (fun f c => match Nat.beq f 43 && Nat.beq c 6 with | true => some qaz | false => none)
theorem quh : EnvAll Tryz.prog qpz := EnvAll.mk' tabs _ (qb ⟨spec_locate_tetra_holds, trivial⟩) (qa ⟨⟨qpk, ⟨qot, trivial⟩⟩, trivial⟩)
noncomputable def qbt : Env := (qpz).up 1000
theorem qwh : EnvAll Tryz.prog qbt := EnvAll.up (quh) 1000
noncomputable def qcw : List Lp := [rfRec 12 0 Tryz.f12]
noncomputable def qa0 (rec : qht → Option qec) (n : Int) (i : Int) (j : Int) (k : Int) (v : Int) (v1 : Int) (v2 : Int) (v3 : Int) (v4 : Int) (v5 : Int) (v6 : (List (List Int))) (v7 : Int) (o : Int) (v8 : ((List Int) × (Int × ((List Int) × Unit)))) (v9 : ((List Int) × (Int × ((List Int) × Unit)))) (v10 : Int) (v11 : ((List Int) × ((List Int) × ((List (List Int)) × Unit)))) (v12 : (List Int)) (v13 : Int) (v14 : (List Int)) : Option qec :=
  cond' ((decide (v7 < (6 : Int)))) (
    cond' (decide (0 ≤ v7 ∧ v7 < ((6 : Nat) : Int))) (
    (qld (n, i, j, k, v, v1, v2, v3, v4, v5, v6, v7, (0 : Int), o, v8, (v6.getD v7.toNat [(0 : Int), (0 : Int), (0 : Int)]), ([i, j, k], (v6.getD v7.toNat [(0 : Int), (0 : Int), (0 : Int)]), [[(0 : Int), (0 : Int), (0 : Int)], [(0 : Int), (0 : Int), (0 : Int)], [(0 : Int), (0 : Int), (0 : Int)], [(0 : Int), (0 : Int), (0 : Int)]], ()), [i, j, k], v9, v10, v11, v12, v13, v14, ())).bind fun y1 =>
    cond' (decide (3 ≤ y1.2.2.2.2.2.2.2.2.2.2.2.2.2.2.2.2.2.2.2.2.1.length)) (
    (qv (y1.2.2.2.2.2.2.2.2.2.2.2.2.2.2.1, (y1.2.2.2.2.2.2.2.2.2.2.2.2.2.2.2.2.2.2.2.2.1.take 3), ())).bind fun y2 =>
    cond' (y2.2.2.1) (
      some (.inl (y1.2.2.2.2.2.2.2.2.2.2.2.2.1, y1.2.2.2.2.2.2.2.2.2.2.2.2.2.2.2.1, y1.1, y1.2.2.2.2.2.2.2.2.2.2.2.2.2.2.1, y2.1, y2.2.1, y1.2.2.2.2.2.2.2.2.2.2.2.2.2.2.2.2.2.2.2.2.1, ()))) (
      rec ((IntKind.i64.wrap (y1.1 + (1 : Int))), y1.2.1, y1.2.2.1, y1.2.2.2.1, y1.2.2.2.2.1, y1.2.2.2.2.2.1, y1.2.2.2.2.2.2.1, y1.2.2.2.2.2.2.2.1, y1.2.2.2.2.2.2.2.2.1, y1.2.2.2.2.2.2.2.2.2.1, y1.2.2.2.2.2.2.2.2.2.2.1, (IntKind.i64.wrap (y1.2.2.2.2.2.2.2.2.2.2.2.1 + (1 : Int))), y1.2.2.2.2.2.2.2.2.2.2.2.2.1, y1.2.2.2.2.2.2.2.2.2.2.2.2.2.1, y1.2.2.2.2.2.2.2.2.2.2.2.2.2.2.2.1, y1.2.2.2.2.2.2.2.2.2.2.2.2.2.2.2.2.1, y1.2.2.2.2.2.2.2.2.2.2.2.2.2.2.2.2.2.1, y1.2.2.2.2.2.2.2.2.2.2.2.2.2.2.2.2.2.2.1, y1.2.2.2.2.2.2.2.2.2.2.2.2.2.2.2.2.2.2.2.1, y1.2.2.2.2.2.2.2.2.2.2.2.2.2.2.2.2.2.2.2.2.1, ()))) none) none) (
    some (.inr (n, i, j, v, v1, v2, v3, v4, v5, o, v8, v9, v10, v11, v12, v13, v14, ())))
noncomputable def qer : Nat → qht → Option qec
  | 0, _ => none
  | n + 1, x => qa0 (qer n) x.1 x.2.1 x.2.2.1 x.2.2.2.1 x.2.2.2.2.1 x.2.2.2.2.2.1 x.2.2.2.2.2.2.1 x.2.2.2.2.2.2.2.1 x.2.2.2.2.2.2.2.2.1 x.2.2.2.2.2.2.2.2.2.1 x.2.2.2.2.2.2.2.2.2.2.1 x.2.2.2.2.2.2.2.2.2.2.2.1 x.2.2.2.2.2.2.2.2.2.2.2.2.1 x.2.2.2.2.2.2.2.2.2.2.2.2.2.1 x.2.2.2.2.2.2.2.2.2.2.2.2.2.2.1 x.2.2.2.2.2.2.2.2.2.2.2.2.2.2.2.1 x.2.2.2.2.2.2.2.2.2.2.2.2.2.2.2.2.1 x.2.2.2.2.2.2.2.2.2.2.2.2.2.2.2.2.2.1 x.2.2.2.2.2.2.2.2.2.2.2.2.2.2.2.2.2.2.1 x.2.2.2.2.2.2.2.2.2.2.2.2.2.2.2.2.2.2.2.1
theorem qok (fu : Nat) (n : Int) (i : Int) (j : Int) (k : Int) (v : Int) (v1 : Int) (v2 : Int) (v3 : Int) (v4 : Int) (v5 : Int) (v6 : (List (List Int))) (v7 : Int) (o : Int) (v8 : ((List Int) × (Int × ((List Int) × Unit)))) (v9 : ((List Int) × (Int × ((List Int) × Unit)))) (v10 : Int) (v11 : ((List Int) × ((List Int) × ((List (List Int)) × Unit)))) (v12 : (List Int)) (v13 : Int) (v14 : (List Int)) : qer (fu + 1) (n, i, j, k, v, v1, v2, v3, v4, v5, v6, v7, o, v8, v9, v10, v11, v12, v13, v14, ()) = qa0 (qer fu) n i j k v v1 v2 v3 v4 v5 v6 v7 o v8 v9 v10 v11 v12 v13 v14 := rfl
theorem qui (n : Int) (i : Int) (j : Int) (k : Int) (v : Int) (v1 : Int) (v2 : Int) (v3 : Int) (v4 : Int) (v5 : Int) (v6 : (List (List Int))) (v7 : Int) (o : Int) (v8 : ((List Int) × (Int × ((List Int) × Unit)))) (v9 : ((List Int) × (Int × ((List Int) × Unit)))) (v10 : Int) (v11 : ((List Int) × ((List Int) × ((List (List Int)) × Unit)))) (v12 : (List Int)) (v13 : Int) (v14 : (List Int)) : Mono (fun r => qa0 r n i j k v v1 v2 v3 v4 v5 v6 v7 o v8 v9 v10 v11 v12 v13 v14) := (mono_cond (mono_cond (mono_bind fun y1 => (mono_cond (mono_bind fun y2 => (mono_cond mono_const mono_rec)) mono_const)) mono_const) mono_const)
theorem quj (fu : Nat) (n : Int) (i : Int) (j : Int) (k : Int) (v : Int) (v1 : Int) (v2 : Int) (v3 : Int) (v4 : Int) (v5 : Int) (v6 : (List (List Int))) (v7 : Int) (o : Int) (v8 : ((List Int) × (Int × ((List Int) × Unit)))) (v9 : ((List Int) × (Int × ((List Int) × Unit)))) (v10 : Int) (v11 : ((List Int) × ((List Int) × ((List (List Int)) × Unit)))) (v12 : (List Int)) (v13 : Int) (v14 : (List Int)) : ev qbt (fu + 50 + 1) 43 6 (.loop (loopAt Tryz.f43 6)) (qaz.enc qcw (n, i, j, k, v, v1, v2, v3, v4, v5, v6, v7, o, v8, v9, v10, v11, v12, v13, v14, ())) (exitD qcx) = qa0 (fun x => ev qbt (fu + 50) 43 6 (.loop (loopAt Tryz.f43 6)) (qaz.enc qcw x) (exitD qcx)) n i j k v v1 v2 v3 v4 v5 v6 v7 o v8 v9 v10 v11 v12 v13 v14 := by kernel_rfl
theorem qxr (n : Nat) (x : qht) (y : qec) (h : qer n x = some y) : ev qbt (n + 50) 43 6 (.loop (loopAt Tryz.f43 6)) (qaz.enc qcw x) (exitD qcx) = some y :=
  fuel_le (f := fun n x => ev qbt (n + 50) 43 6 (.loop (loopAt Tryz.f43 6)) (qaz.enc qcw x) (exitD qcx)) (st := fun rec x => qa0 rec x.1 x.2.1 x.2.2.1 x.2.2.2.1 x.2.2.2.2.1 x.2.2.2.2.2.1 x.2.2.2.2.2.2.1 x.2.2.2.2.2.2.2.1 x.2.2.2.2.2.2.2.2.1 x.2.2.2.2.2.2.2.2.2.1 x.2.2.2.2.2.2.2.2.2.2.1 x.2.2.2.2.2.2.2.2.2.2.2.1 x.2.2.2.2.2.2.2.2.2.2.2.2.1 x.2.2.2.2.2.2.2.2.2.2.2.2.2.1 x.2.2.2.2.2.2.2.2.2.2.2.2.2.2.1 x.2.2.2.2.2.2.2.2.2.2.2.2.2.2.2.1 x.2.2.2.2.2.2.2.2.2.2.2.2.2.2.2.2.1 x.2.2.2.2.2.2.2.2.2.2.2.2.2.2.2.2.2.1 x.2.2.2.2.2.2.2.2.2.2.2.2.2.2.2.2.2.2.1 x.2.2.2.2.2.2.2.2.2.2.2.2.2.2.2.2.2.2.2.1) (fun x => qui x.1 x.2.1 x.2.2.1 x.2.2.2.1 x.2.2.2.2.1 x.2.2.2.2.2.1 x.2.2.2.2.2.2.1 x.2.2.2.2.2.2.2.1 x.2.2.2.2.2.2.2.2.1 x.2.2.2.2.2.2.2.2.2.1 x.2.2.2.2.2.2.2.2.2.2.1 x.2.2.2.2.2.2.2.2.2.2.2.1 x.2.2.2.2.2.2.2.2.2.2.2.2.1 x.2.2.2.2.2.2.2.2.2.2.2.2.2.1 x.2.2.2.2.2.2.2.2.2.2.2.2.2.2.1 x.2.2.2.2.2.2.2.2.2.2.2.2.2.2.2.1 x.2.2.2.2.2.2.2.2.2.2.2.2.2.2.2.2.1 x.2.2.2.2.2.2.2.2.2.2.2.2.2.2.2.2.2.1 x.2.2.2.2.2.2.2.2.2.2.2.2.2.2.2.2.2.2.1 x.2.2.2.2.2.2.2.2.2.2.2.2.2.2.2.2.2.2.2.1) (fun n x => (congrArg (fun N => ev qbt N 43 6 (.loop (loopAt Tryz.f43 6)) (qaz.enc qcw x) (exitD qcx)) (by omega : n + 1 + 50 = n + 50 + 1)).trans (quj n x.1 x.2.1 x.2.2.1 x.2.2.2.1 x.2.2.2.2.1 x.2.2.2.2.2.1 x.2.2.2.2.2.2.1 x.2.2.2.2.2.2.2.1 x.2.2.2.2.2.2.2.2.1 x.2.2.2.2.2.2.2.2.2.1 x.2.2.2.2.2.2.2.2.2.2.1 x.2.2.2.2.2.2.2.2.2.2.2.1 x.2.2.2.2.2.2.2.2.2.2.2.2.1 x.2.2.2.2.2.2.2.2.2.2.2.2.2.1 x.2.2.2.2.2.2.2.2.2.2.2.2.2.2.1 x.2.2.2.2.2.2.2.2.2.2.2.2.2.2.2.1 x.2.2.2.2.2.2.2.2.2.2.2.2.2.2.2.2.1 x.2.2.2.2.2.2.2.2.2.2.2.2.2.2.2.2.2.1 x.2.2.2.2.2.2.2.2.2.2.2.2.2.2.2.2.2.2.1 x.2.2.2.2.2.2.2.2.2.2.2.2.2.2.2.2.2.2.2.1)) qer (fun _ => rfl) (fun _ _ => rfl) n x y h
def qle : qht → Option qec
  | (n, i, j, k, v, v1, v2, v3, v4, v5, od, q, o, g, u0, u1, u2, u3, u4, u5, ()) => wh (okG3 g ∧ (0 ≤ i ∧ i < aN g) ∧ (0 ≤ j ∧ j < bN g) ∧ (0 ≤ k ∧ k < cN g) ∧ tgtP u5 ∧ od = ords ∧ q = 0 ∧ n = (posN g i.toNat j.toNat k.toNat 0 : Nat)) (match scan (isHit g u5) (6) (posN g i.toNat j.toNat k.toNat 0) with | some m => .inl (o, u0, (m : Int), tetN g m, (hitN g u5 m).1, (hitN g u5 m).2.1, u5, ()) | none => .inr (((posN g i.toNat j.toNat k.toNat 6 : Nat) : Int), i, j, v, v1, v2, v3, v4, v5, o, g, u0, u1, u2, u3, u4, u5, ()))
theorem qo9 (g : GridT) (i j k : Nat) (hg : okG3 g) (hi : i < aN g) (hj : j < bN g) (hk : k < cN g) (v v1 v2 v3 v4 v5 : Int) (o : Int) (u0 : GridT) (u1 : Int) (u2 : TetT) (u3 : List Int) (u4 : Int) (u5 : List Int) (htg : tgtP u5) : ∀ (d q : Nat), q + d = 6 →
    qer (d + 1) (((posN g i j k q : Nat) : Int), (i : Int), (j : Int), (k : Int), v, v1, v2, v3, v4, v5, ords, (q : Int), o, g, u0, u1, u2, u3, u4, u5, ()) = some (match scan (isHit g u5) (d) (posN g i j k q) with | some m => .inl (o, u0, (m : Int), tetN g m, (hitN g u5 m).1, (hitN g u5 m).2.1, u5, ()) | none => .inr (((posN g i j k 6 : Nat) : Int), (i : Int), (j : Int), v, v1, v2, v3, v4, v5, o, g, u0, u1, u2, u3, u4, u5, ()))
  | 0, q, hq => by
    obtain rfl : q = 6 := by omega
    rw [qok]
    simp only [qa0]
    rw [cond'_neg (by omega)]
    rfl
  | d + 1, q, hq => by
    have hw := wayP_of (cellP_of hg hi hj hk) (o := q) (by omega)
    have hp := posN_lt hg (Nat.le_of_lt hi) (Nat.le_of_lt hj) (Nat.le_of_lt hk) (q := q) (by omega)
    have g0 : qld (((posN g i j k q : Nat) : Int), (i : Int), (j : Int), (k : Int), v, v1, v2, v3, v4, v5, ords, (q : Int), 0, o, g, ordN q, ([(i : Int), (j : Int), (k : Int)], ordN q, [Z3, Z3, Z3, Z3], ()), [(i : Int), (j : Int), (k : Int)], u0, u1, u2, u3, u4, u5, ()) =
      some (((posN g i j k q : Nat) : Int), (i : Int), (j : Int), (k : Int), v, v1, v2, v3, v4, v5, ords, (q : Int), o, g, ([(i : Int), (j : Int), (k : Int)], ordN q, cor g [(i : Int), (j : Int), (k : Int)] (ordN q), ()), u0, u1, u2, u3, u4, u5, ()) := wh_pos ⟨rfl, hg, hw, rfl⟩
    have et : u5.take 3 = u5 := List.take_of_length_le (by have := htg.1; omega)
    have h0 : qv (([(i : Int), (j : Int), (k : Int)], ordN q, cor g [(i : Int), (j : Int), (k : Int)] (ordN q), ()), u5, ()) = some (holdC (cor g [(i : Int), (j : Int), (k : Int)] (ordN q)) u5) := wh_pos ⟨cor_in hg hw, htg.2⟩
    have hh := hitN_pos u5 (i := i) hj hk (show q < 6 by omega)
    have ht := tetN_pos (i := i) hj hk (show q < 6 by omega)
    have ih := qo9 g i j k hg hi hj hk v v1 v2 v3 v4 v5 o u0 u1 u2 u3 u4 u5 htg d (q + 1) (by omega)
    rw [qok]
    simp only [qa0, Int.toNat_natCast]
    rw [cond'_pos (by omega), cond'_pos (by omega)]
    rw [show ords.getD q Z3 = ordN q from rfl, g0]
    simp only [Option.bind_some]
    rw [cond'_pos (by have := htg.1; omega), et, h0]
    simp only [Option.bind_some]
    cases hf : isHit g u5 (posN g i j k q) with
    | true =>
      unfold isHit at hf
      rw [hh] at hf
      rw [hf, cond'_true, scan, show isHit g u5 (posN g i j k q) = true by unfold isHit; rw [hh]; exact hf]
      simp only [ht, hh]
    | false =>
      unfold isHit at hf
      rw [hh] at hf
      rw [hf, cond'_false, scan, show isHit g u5 (posN g i j k q) = false by unfold isHit; rw [hh]; exact hf, w64 (by omega) (by omega), w64 (by omega) (by omega)]
      exact ih
theorem qxs (x : qht) (y : qec) (h : qle x = some y) : ∃ n, qer n x = some y := by
  obtain ⟨n, i, j, k, v, v1, v2, v3, v4, v5, od, q, o, g, u0, u1, u2, u3, u4, u5, ⟨⟩⟩ := x
  obtain ⟨⟨hg, ⟨hi, hi2⟩, ⟨hj, hj2⟩, ⟨hk, hk2⟩, htg, h1, h2, h3⟩, rfl⟩ := wh_some h
  obtain ⟨i, rfl⟩ := Int.eq_ofNat_of_zero_le hi
  obtain ⟨j, rfl⟩ := Int.eq_ofNat_of_zero_le hj
  obtain ⟨k, rfl⟩ := Int.eq_ofNat_of_zero_le hk
  simp only [Int.toNat_natCast] at h3 ⊢
  subst h1; subst h2; subst h3
  exact ⟨_, qo9 g i j k hg (by omega) (by omega) (by omega) v v1 v2 v3 v4 v5 o u0 u1 u2 u3 u4 u5 htg 6 0 (by omega)⟩
noncomputable def qni : LoopC := ⟨qaz, qcx, qle⟩
theorem qou : LoopSpec Tryz.prog gl 43 6 qni := qd (canon := qcw) (.cons (fun _ _ _ h => rfRec_eq (fn := Tryz.f12) Tryz.func12 (by kernel_rfl) h) .nil) (fun c hc x y h => by
  obtain rfl := loopAt_eq (fn := Tryz.f43) Tryz.func43 (by kernel_rfl) hc
  obtain ⟨n, hn⟩ := qxs x y h
  exact ⟨qbt, n + 50, rfl, qwh, qxr n x y hn⟩)
noncomputable def qbp : Shape := ⟨[.yld 0, .loc 0 [], .j, .dat (.int .i64), .dat (.int .i64), .dat (.int .i64), .dat (.int .i64), .j, .j, .j, .j, .j, .j, .j, .j, .j, .j, .dat (.int .i64), .dat (.int .i64), .j, .j, .j, .j, .j, .j, .dat (.int .i64), .dat (.int .i64), .j, .j, .j, .j, .j, .j, .dat (.int .i64), .dat (.int .i64), .j, .j, .dat (.arr 6 (.arr 3 (.int .i64))), .dat (.int .i64), .j, .j, .j, .j, .j, .j, .j, .j, .j, .j, .j, .j, .j, .j, .j, .j, .j, .j, .j, .j, .j, .j, .j, .j, .j, .j, .j, .j, .j, .j, .j, .j, .j, .j, .j, .j, .j, .j, .j, .j, .j, .j, .j, .j, .j, .j, .j, .j, .j, .j, .j, .j, .j, .j, .j, .j, .j, .j, .j, .j, .j, .j, .j, .j, .j], [[.j, .j, .j, .j, .dat (.int .i64), .dat (.int .i64), .j, .loc 1 [], .j, .j, .j, .j, .j, .j, .j, .j, .j, .j, .j, .j, .j, .j, .j, .j, .j, .j, .j, .j, .j, .j, .j, .j, .j, .j, .j, .j], []], [.box false (.dat (.prod (.slice (.int .i64)) (.prod (.int .i64) (.prod (.slice (.int .i64)) .unit)))), .box false (.dat (.int .i64)), .box false (.dat (.slice (.int .i64)))], [⟨14, 0, .ready, [.j, .j, .j, .loc 2 [], .j, .j, .j, .loc 1 [], .j, .j, .j, .j, .j, .j, .j, .j, .j, .j, .j, .j, .j, .j, .j, .j, .j, .j, .j, .j, .j, .j, .j, .j, .j, .j, .j, .j]⟩]⟩
noncomputable def qd4 : List (Ex × Shape) := [(.exit 6, ⟨[.yld 0, .loc 0 [], .j, .dat (.int .i64), .dat (.int .i64), .dat (.int .i64), .j, .j, .j, .j, .j, .j, .j, .j, .j, .j, .j, .dat (.int .i64), .dat (.int .i64), .j, .j, .j, .j, .j, .j, .dat (.int .i64), .dat (.int .i64), .j, .j, .j, .j, .j, .j, .dat (.int .i64), .dat (.int .i64), .j, .j, .j, .j, .j, .j, .j, .j, .j, .j, .j, .j, .j, .j, .j, .j, .j, .j, .j, .j, .j, .j, .j, .j, .j, .j, .j, .j, .j, .j, .j, .j, .j, .j, .j, .j, .j, .j, .j, .j, .j, .j, .j, .j, .j, .j, .j, .j, .j, .j, .j, .j, .j, .j, .j, .j, .j, .j, .j, .j, .j, .j, .j, .j, .j, .j, .j, .j, .j], [[.j, .j, .j, .j, .dat (.int .i64), .dat (.int .i64), .j, .loc 1 [], .j, .j, .j, .j, .j, .j, .j, .j, .j, .j, .j, .j, .j, .j, .j, .j, .j, .j, .j, .j, .j, .j, .j, .j, .j, .j, .j, .j], []], [.box false (.dat (.prod (.slice (.int .i64)) (.prod (.int .i64) (.prod (.slice (.int .i64)) .unit)))), .box false (.dat (.int .i64)), .box false (.dat (.slice (.int .i64)))], [⟨14, 0, .ready, [.j, .j, .j, .loc 2 [], .j, .j, .j, .loc 1 [], .j, .j, .j, .j, .j, .j, .j, .j, .j, .j, .j, .j, .j, .j, .j, .j, .j, .j, .j, .j, .j, .j, .j, .j, .j, .j, .j, .j]⟩]⟩)]
abbrev qjc : Type := Int × Int × Int × Int × Int × Int × Int × Int × Int × Int × (List (List Int)) × Int × Int × Int × ((List Int) × (Int × ((List Int) × Unit))) × Int × (List Int) × Unit
abbrev qfn : Type := (Int × Int × Int × Int × Int × Int × Int × Int × Int × Int × Int × ((List Int) × (Int × ((List Int) × Unit))) × Int × (List Int) × Unit)
noncomputable def qqq : Env := Env.mk' tyF fnF gl (lookT [(26, ⟨[(false, (.prod (.arr 3 (.int .i64)) (.prod (.arr 3 (.int .i64)) (.prod (.arr 4 (.arr 3 (.int .i64))) .unit)))), (false, (.arr 3 (.int .i64)))], [(false, (.arr 3 (.int .i64))), (false, (.int .i64)), (false, .bool)], qv⟩)]) (lookL [(43, 8, [qn5, qnh])]) (fun f c => match Nat.beq f 43 && Nat.beq c 6 with | true => some qbp | false => none)
theorem qv6 : EnvAll Tryz.prog qqq := EnvAll.mk' tabs _ (qb ⟨spec_locate_tetra_holds, trivial⟩) (qa ⟨⟨qpk, ⟨qot, trivial⟩⟩, trivial⟩)
noncomputable def qcu : Env := (qqq).up 1000
theorem qxl : EnvAll Tryz.prog qcu := EnvAll.up (qv6) 1000
noncomputable def qd3 : List Lp := [rfRec 14 0 Tryz.f14]
noncomputable def qbq (rec : qjc → Option qfn) (n : Int) (i : Int) (j : Int) (k : Int) (v : Int) (v1 : Int) (v2 : Int) (v3 : Int) (v4 : Int) (v5 : Int) (v6 : (List (List Int))) (v7 : Int) (o : Int) (o1 : Int) (v8 : ((List Int) × (Int × ((List Int) × Unit)))) (v9 : Int) (v10 : (List Int)) : Option qfn :=
  cond' ((decide (v7 < (6 : Int)))) (
    cond' (decide (0 ≤ v7 ∧ v7 < ((6 : Nat) : Int))) (
    (qmh (n, i, j, k, v, v1, v2, v3, v4, v5, v6, v7, (0 : Int), o, o1, v8, (v6.getD v7.toNat [(0 : Int), (0 : Int), (0 : Int)]), ([i, j, k], (v6.getD v7.toNat [(0 : Int), (0 : Int), (0 : Int)]), [[(0 : Int), (0 : Int), (0 : Int)], [(0 : Int), (0 : Int), (0 : Int)], [(0 : Int), (0 : Int), (0 : Int)], [(0 : Int), (0 : Int), (0 : Int)]], ()), [i, j, k], v9, v10, ())).bind fun y1 =>
    cond' (decide (3 ≤ y1.2.2.2.2.2.2.2.2.2.2.2.2.2.2.2.2.2.1.length)) (
    (qv (y1.2.2.2.2.2.2.2.2.2.2.2.2.2.2.2.1, (y1.2.2.2.2.2.2.2.2.2.2.2.2.2.2.2.2.2.1.take 3), ())).bind fun y2 =>
    cond' (y2.2.2.1) (
      (some (IntKind.i64.wrap (y1.2.2.2.2.2.2.2.2.2.2.2.2.2.2.2.2.1 + (1 : Int)))).bind fun z3 =>
      rec ((IntKind.i64.wrap (y1.1 + (1 : Int))), y1.2.1, y1.2.2.1, y1.2.2.2.1, y1.2.2.2.2.1, y1.2.2.2.2.2.1, y1.2.2.2.2.2.2.1, y1.2.2.2.2.2.2.2.1, y1.2.2.2.2.2.2.2.2.1, y1.2.2.2.2.2.2.2.2.2.1, y1.2.2.2.2.2.2.2.2.2.2.1, (IntKind.i64.wrap (y1.2.2.2.2.2.2.2.2.2.2.2.1 + (1 : Int))), y1.2.2.2.2.2.2.2.2.2.2.2.2.1, y1.2.2.2.2.2.2.2.2.2.2.2.2.2.1, y1.2.2.2.2.2.2.2.2.2.2.2.2.2.2.1, z3, y1.2.2.2.2.2.2.2.2.2.2.2.2.2.2.2.2.2.1, ())) (
      rec ((IntKind.i64.wrap (y1.1 + (1 : Int))), y1.2.1, y1.2.2.1, y1.2.2.2.1, y1.2.2.2.2.1, y1.2.2.2.2.2.1, y1.2.2.2.2.2.2.1, y1.2.2.2.2.2.2.2.1, y1.2.2.2.2.2.2.2.2.1, y1.2.2.2.2.2.2.2.2.2.1, y1.2.2.2.2.2.2.2.2.2.2.1, (IntKind.i64.wrap (y1.2.2.2.2.2.2.2.2.2.2.2.1 + (1 : Int))), y1.2.2.2.2.2.2.2.2.2.2.2.2.1, y1.2.2.2.2.2.2.2.2.2.2.2.2.2.1, y1.2.2.2.2.2.2.2.2.2.2.2.2.2.2.1, y1.2.2.2.2.2.2.2.2.2.2.2.2.2.2.2.2.1, y1.2.2.2.2.2.2.2.2.2.2.2.2.2.2.2.2.2.1, ()))) none) none) (
    some (n, i, j, v, v1, v2, v3, v4, v5, o, o1, v8, v9, v10, ()))
noncomputable def qf1 : Nat → qjc → Option qfn
  | 0, _ => none
  | n + 1, x => qbq (qf1 n) x.1 x.2.1 x.2.2.1 x.2.2.2.1 x.2.2.2.2.1 x.2.2.2.2.2.1 x.2.2.2.2.2.2.1 x.2.2.2.2.2.2.2.1 x.2.2.2.2.2.2.2.2.1 x.2.2.2.2.2.2.2.2.2.1 x.2.2.2.2.2.2.2.2.2.2.1 x.2.2.2.2.2.2.2.2.2.2.2.1 x.2.2.2.2.2.2.2.2.2.2.2.2.1 x.2.2.2.2.2.2.2.2.2.2.2.2.2.1 x.2.2.2.2.2.2.2.2.2.2.2.2.2.2.1 x.2.2.2.2.2.2.2.2.2.2.2.2.2.2.2.1 x.2.2.2.2.2.2.2.2.2.2.2.2.2.2.2.2.1
theorem qo5 (fu : Nat) (n : Int) (i : Int) (j : Int) (k : Int) (v : Int) (v1 : Int) (v2 : Int) (v3 : Int) (v4 : Int) (v5 : Int) (v6 : (List (List Int))) (v7 : Int) (o : Int) (o1 : Int) (v8 : ((List Int) × (Int × ((List Int) × Unit)))) (v9 : Int) (v10 : (List Int)) : qf1 (fu + 1) (n, i, j, k, v, v1, v2, v3, v4, v5, v6, v7, o, o1, v8, v9, v10, ()) = qbq (qf1 fu) n i j k v v1 v2 v3 v4 v5 v6 v7 o o1 v8 v9 v10 := rfl
theorem qv7 (n : Int) (i : Int) (j : Int) (k : Int) (v : Int) (v1 : Int) (v2 : Int) (v3 : Int) (v4 : Int) (v5 : Int) (v6 : (List (List Int))) (v7 : Int) (o : Int) (o1 : Int) (v8 : ((List Int) × (Int × ((List Int) × Unit)))) (v9 : Int) (v10 : (List Int)) : Mono (fun r => qbq r n i j k v v1 v2 v3 v4 v5 v6 v7 o o1 v8 v9 v10) := (mono_cond (mono_cond (mono_bind fun y1 => (mono_cond (mono_bind fun y2 => (mono_cond (mono_bind fun z3 => mono_rec) mono_rec)) mono_const)) mono_const) mono_const)
theorem qv8 (fu : Nat) (n : Int) (i : Int) (j : Int) (k : Int) (v : Int) (v1 : Int) (v2 : Int) (v3 : Int) (v4 : Int) (v5 : Int) (v6 : (List (List Int))) (v7 : Int) (o : Int) (o1 : Int) (v8 : ((List Int) × (Int × ((List Int) × Unit)))) (v9 : Int) (v10 : (List Int)) : ev qcu (fu + 50 + 1) 43 6 (.loop (loopAt Tryz.f43 6)) (qbp.enc qd3 (n, i, j, k, v, v1, v2, v3, v4, v5, v6, v7, o, o1, v8, v9, v10, ())) (exitD qd4) = qbq (fun x => ev qcu (fu + 50) 43 6 (.loop (loopAt Tryz.f43 6)) (qbp.enc qd3 x) (exitD qd4)) n i j k v v1 v2 v3 v4 v5 v6 v7 o o1 v8 v9 v10 := by kernel_rfl
theorem qzf (n : Nat) (x : qjc) (y : qfn) (h : qf1 n x = some y) : ev qcu (n + 50) 43 6 (.loop (loopAt Tryz.f43 6)) (qbp.enc qd3 x) (exitD qd4) = some y :=
  fuel_le (f := fun n x => ev qcu (n + 50) 43 6 (.loop (loopAt Tryz.f43 6)) (qbp.enc qd3 x) (exitD qd4)) (st := fun rec x => qbq rec x.1 x.2.1 x.2.2.1 x.2.2.2.1 x.2.2.2.2.1 x.2.2.2.2.2.1 x.2.2.2.2.2.2.1 x.2.2.2.2.2.2.2.1 x.2.2.2.2.2.2.2.2.1 x.2.2.2.2.2.2.2.2.2.1 x.2.2.2.2.2.2.2.2.2.2.1 x.2.2.2.2.2.2.2.2.2.2.2.1 x.2.2.2.2.2.2.2.2.2.2.2.2.1 x.2.2.2.2.2.2.2.2.2.2.2.2.2.1 x.2.2.2.2.2.2.2.2.2.2.2.2.2.2.1 x.2.2.2.2.2.2.2.2.2.2.2.2.2.2.2.1 x.2.2.2.2.2.2.2.2.2.2.2.2.2.2.2.2.1) (fun x => qv7 x.1 x.2.1 x.2.2.1 x.2.2.2.1 x.2.2.2.2.1 x.2.2.2.2.2.1 x.2.2.2.2.2.2.1 x.2.2.2.2.2.2.2.1 x.2.2.2.2.2.2.2.2.1 x.2.2.2.2.2.2.2.2.2.1 x.2.2.2.2.2.2.2.2.2.2.1 x.2.2.2.2.2.2.2.2.2.2.2.1 x.2.2.2.2.2.2.2.2.2.2.2.2.1 x.2.2.2.2.2.2.2.2.2.2.2.2.2.1 x.2.2.2.2.2.2.2.2.2.2.2.2.2.2.1 x.2.2.2.2.2.2.2.2.2.2.2.2.2.2.2.1 x.2.2.2.2.2.2.2.2.2.2.2.2.2.2.2.2.1) (fun n x => (congrArg (fun N => ev qcu N 43 6 (.loop (loopAt Tryz.f43 6)) (qbp.enc qd3 x) (exitD qd4)) (by omega : n + 1 + 50 = n + 50 + 1)).trans (qv8 n x.1 x.2.1 x.2.2.1 x.2.2.2.1 x.2.2.2.2.1 x.2.2.2.2.2.1 x.2.2.2.2.2.2.1 x.2.2.2.2.2.2.2.1 x.2.2.2.2.2.2.2.2.1 x.2.2.2.2.2.2.2.2.2.1 x.2.2.2.2.2.2.2.2.2.2.1 x.2.2.2.2.2.2.2.2.2.2.2.1 x.2.2.2.2.2.2.2.2.2.2.2.2.1 x.2.2.2.2.2.2.2.2.2.2.2.2.2.1 x.2.2.2.2.2.2.2.2.2.2.2.2.2.2.1 x.2.2.2.2.2.2.2.2.2.2.2.2.2.2.2.1 x.2.2.2.2.2.2.2.2.2.2.2.2.2.2.2.2.1)) qf1 (fun _ => rfl) (fun _ _ => rfl) n x y h
def qmi : qjc → Option qfn
  | (n, i, j, k, v, v1, v2, v3, v4, v5, od, q, o, o1, g, u0, u1, ()) => wh (okG3 g ∧ (0 ≤ i ∧ i < aN g) ∧ (0 ≤ j ∧ j < bN g) ∧ (0 ≤ k ∧ k < cN g) ∧ tgtP u1 ∧ od = ords ∧ q = 0 ∧ n = (posN g i.toNat j.toNat k.toNat 0 : Nat) ∧ 0 ≤ u0 ∧ u0 ≤ 1000000) (((posN g i.toNat j.toNat k.toNat 6 : Nat) : Int), i, j, v, v1, v2, v3, v4, v5, o, o1, g, u0 + (cnt (isHit g u1) (6) (posN g i.toNat j.toNat k.toNat 0) : Nat), u1, ())
theorem qm5 (g : GridT) (i j k : Nat) (hg : okG3 g) (hi : i < aN g) (hj : j < bN g) (hk : k < cN g) (v v1 v2 v3 v4 v5 : Int) (o o1 : Int) (u1 : List Int) (htg : tgtP u1) : ∀ (d q : Nat) (u0 : Int), q + d = 6 → 0 ≤ u0 → u0 + d ≤ 2000000 →
    qf1 (d + 1) (((posN g i j k q : Nat) : Int), (i : Int), (j : Int), (k : Int), v, v1, v2, v3, v4, v5, ords, (q : Int), o, o1, g, u0, u1, ()) = some (((posN g i j k 6 : Nat) : Int), (i : Int), (j : Int), v, v1, v2, v3, v4, v5, o, o1, g, u0 + (cnt (isHit g u1) (d) (posN g i j k q) : Nat), u1, ())
  | 0, q, u0, hq, hu0, hu1 => by
    obtain rfl : q = 6 := by omega
    rw [qo5]
    simp only [qbq]
    rw [cond'_neg (by omega)]
    simp only [cnt]
    have e0 : u0 + ((0 : Nat) : Int) = u0 := by omega
    rw [e0]
  | d + 1, q, u0, hq, hu0, hu1 => by
    have hw := wayP_of (cellP_of hg hi hj hk) (o := q) (by omega)
    have hp := posN_lt hg (Nat.le_of_lt hi) (Nat.le_of_lt hj) (Nat.le_of_lt hk) (q := q) (by omega)
    have g0 : qmh (((posN g i j k q : Nat) : Int), (i : Int), (j : Int), (k : Int), v, v1, v2, v3, v4, v5, ords, (q : Int), 0, o, o1, g, ordN q, ([(i : Int), (j : Int), (k : Int)], ordN q, [Z3, Z3, Z3, Z3], ()), [(i : Int), (j : Int), (k : Int)], u0, u1, ()) =
      some (((posN g i j k q : Nat) : Int), (i : Int), (j : Int), (k : Int), v, v1, v2, v3, v4, v5, ords, (q : Int), o, o1, g, ([(i : Int), (j : Int), (k : Int)], ordN q, cor g [(i : Int), (j : Int), (k : Int)] (ordN q), ()), u0, u1, ()) := wh_pos ⟨rfl, hg, hw, rfl⟩
    have et : u1.take 3 = u1 := List.take_of_length_le (by have := htg.1; omega)
    have h0 : qv (([(i : Int), (j : Int), (k : Int)], ordN q, cor g [(i : Int), (j : Int), (k : Int)] (ordN q), ()), u1, ()) = some (holdC (cor g [(i : Int), (j : Int), (k : Int)] (ordN q)) u1) := wh_pos ⟨cor_in hg hw, htg.2⟩
    have hh := hitN_pos u1 (i := i) hj hk (show q < 6 by omega)
    have ht := tetN_pos (i := i) hj hk (show q < 6 by omega)
    rw [qo5]
    simp only [qbq, Int.toNat_natCast]
    rw [cond'_pos (by omega), cond'_pos (by omega)]
    rw [show ords.getD q Z3 = ordN q from rfl, g0]
    simp only [Option.bind_some]
    rw [cond'_pos (by have := htg.1; omega), et, h0]
    simp only [Option.bind_some]
    cases hf : isHit g u1 (posN g i j k q) with
    | true =>
      unfold isHit at hf
      rw [hh] at hf
      have ih := qm5 g i j k hg hi hj hk v v1 v2 v3 v4 v5 o o1 u1 htg d (q + 1) (u0 + 1) (by omega) (by omega) (by omega)
      rw [hf, cond'_true, cnt, show isHit g u1 (posN g i j k q) = true by unfold isHit; rw [hh]; exact hf, w64 (by omega) (by omega), w64 (by omega) (by omega), w64 (by omega) (by omega)]
      refine ih.trans ?_
      have e1 : u0 + 1 + ((cnt (isHit g u1) d (posN g i j k (q + 1)) : Nat) : Int) = u0 + ((1 + cnt (isHit g u1) d (posN g i j k q + 1) : Nat) : Int) := by
        rw [show posN g i j k q + 1 = posN g i j k (q + 1) from rfl]
        omega
      rw [e1]
    | false =>
      unfold isHit at hf
      rw [hh] at hf
      have ih := qm5 g i j k hg hi hj hk v v1 v2 v3 v4 v5 o o1 u1 htg d (q + 1) u0 (by omega) (by omega) (by omega)
      rw [hf, cond'_false, cnt, show isHit g u1 (posN g i j k q) = false by unfold isHit; rw [hh]; exact hf, w64 (by omega) (by omega), w64 (by omega) (by omega)]
      refine ih.trans ?_
      rw [show posN g i j k q + 1 = posN g i j k (q + 1) from rfl, Nat.zero_add]
theorem qzg (x : qjc) (y : qfn) (h : qmi x = some y) : ∃ n, qf1 n x = some y := by
  obtain ⟨n, i, j, k, v, v1, v2, v3, v4, v5, od, q, o, o1, g, u0, u1, ⟨⟩⟩ := x
  obtain ⟨⟨hg, ⟨hi, hi2⟩, ⟨hj, hj2⟩, ⟨hk, hk2⟩, htg, h1, h2, h3, hu0, hu1⟩, rfl⟩ := wh_some h
  obtain ⟨i, rfl⟩ := Int.eq_ofNat_of_zero_le hi
  obtain ⟨j, rfl⟩ := Int.eq_ofNat_of_zero_le hj
  obtain ⟨k, rfl⟩ := Int.eq_ofNat_of_zero_le hk
  simp only [Int.toNat_natCast] at h3 ⊢
  subst h1; subst h2; subst h3
  exact ⟨_, qm5 g i j k hg (by omega) (by omega) (by omega) v v1 v2 v3 v4 v5 o o1 u1 htg 6 0 u0 (by omega) hu0 (by omega)⟩
noncomputable def qn6 : LoopC := ⟨qbp, qd4, qmi⟩
theorem qpl : LoopSpec Tryz.prog gl 43 6 qn6 := qd (canon := qd3) (.cons (fun _ _ _ h => rfRec_eq (fn := Tryz.f14) Tryz.func14 (by kernel_rfl) h) .nil) (fun c hc x y h => by
  obtain rfl := loopAt_eq (fn := Tryz.f43) Tryz.func43 (by kernel_rfl) hc
  obtain ⟨n, hn⟩ := qzg x y h
  exact ⟨qcu, n + 50, rfl, qxl, qzf n x y hn⟩)
end
end Go.AV
end
section
set_option linter.unusedVariables false
set_option linter.unusedSimpArgs false
set_option maxRecDepth 100000
namespace Go.AV
open Go Go.Proofs
noncomputable section
noncomputable def qcy : Shape := ⟨[.yld 0, .loc 0 [], .j, .dat (.int .i64), .dat (.int .i64), .dat (.int .i64), .j, .j, .j, .j, .j, .j, .j, .j, .j, .j, .j, .dat (.int .i64), .dat (.int .i64), .j, .j, .j, .j, .j, .j, .dat (.int .i64), .dat (.int .i64), .j, .j, .j, .j, .j, .j, .dat (.int .i64), .dat (.int .i64), .j, .j, .j, .j, .j, .j, .j, .j, .j, .j, .j, .j, .j, .j, .j, .j, .j, .j, .j, .j, .j, .j, .j, .j, .j, .j, .j, .j, .j, .j, .j, .j, .j, .j, .j, .j, .j, .j, .j, .j, .j, .j, .j, .j, .j, .j, .j, .j, .j, .j, .j, .j, .j, .j, .j, .j, .j, .j, .j, .j, .j, .j, .j, .j, .j, .j, .j, .j, .j], [[.j, .j, .loc 1 [], .j, .nils, .loc 2 [], .dat (.int .i64), .j, .loc 3 [], .loc 4 [], .loc 5 [], .j, .j, .j, .j, .j, .j, .j, .j, .j, .j, .j, .j, .j, .j, .j, .j, .j, .j, .j, .j, .j, .j, .j, .j, .j, .j, .j, .j, .j, .j, .j, .j, .j, .j, .j, .j, .j, .j, .j, .j, .j, .j, .j, .j, .j, .j, .j, .j, .j, .j, .j, .j, .j, .j, .j, .j, .j, .j, .j, .j, .j, .j, .j, .j, .j, .j, .j, .j, .j, .j, .j, .j, .j, .j, .j, .j, .j, .j, .j, .j, .j, .j, .j, .j, .j, .j, .j, .j, .j, .j], []], [.box false (.dat (.prod (.slice (.int .i64)) (.prod (.int .i64) (.prod (.slice (.int .i64)) .unit)))), .box false (.dat (.prod (.slice (.int .i64)) (.prod (.int .i64) (.prod (.slice (.int .i64)) .unit)))), .box false (.dat (.int .i64)), .box false (.dat (.prod (.arr 3 (.int .i64)) (.prod (.arr 3 (.int .i64)) (.prod (.arr 4 (.arr 3 (.int .i64))) .unit)))), .box false (.dat (.arr 3 (.int .i64))), .box false (.dat (.int .i64)), .box false (.dat (.slice (.int .i64)))], [⟨12, 0, .ready, [.j, .j, .j, .loc 6 [], .j, .loc 2 [], .j, .j, .loc 3 [], .loc 4 [], .loc 5 [], .j, .j, .j, .j, .j, .j, .j, .j, .j, .j, .j, .j, .j, .j, .j, .j, .j, .j, .j, .j, .j, .j, .j, .j, .j, .j, .j, .j, .j, .j, .j, .j, .j, .j, .j, .j, .j, .j, .j, .j, .j, .j, .j, .j, .j, .j, .j, .j, .j, .j, .j, .j, .j, .j, .j, .j, .j, .j, .j, .j, .j, .j, .j, .j, .j, .j, .j, .j, .j, .j, .j, .j, .j, .j, .j, .j, .j, .j, .j, .j, .j, .j, .j, .j, .j, .j, .j, .j, .j, .j]⟩]⟩
noncomputable def qf8 : List (Ex × Shape) := [(.ret, ⟨[.j, .j, .j, .j, .j, .j, .j, .j, .j, .j, .j, .j, .j, .j, .j, .j, .j, .j, .j, .j, .j, .j, .j, .j, .j, .j, .j, .j, .j, .j, .j, .j, .j, .j, .j, .j, .j, .j, .j, .j, .j, .j, .j, .j, .j, .j, .j, .j, .j, .j, .j, .j, .j, .j, .j, .j, .j, .j, .j, .j, .j, .j, .j, .j, .j, .j, .j, .j, .j, .j, .j, .j, .j, .j, .j, .j, .j, .j, .j, .j, .j, .j, .j, .j, .j, .j, .j, .j, .j, .j, .j, .j, .j, .j, .j, .j, .j, .j, .j, .j, .j, .j, .j, .j], [[.j, .j, .loc 0 [], .j, .nils, .loc 1 [], .dat (.int .i64), .j, .loc 2 [], .loc 3 [], .loc 4 [], .j, .j, .j, .j, .j, .j, .j, .j, .j, .j, .j, .j, .j, .j, .j, .j, .j, .j, .j, .j, .j, .j, .j, .j, .j, .j, .j, .j, .j, .j, .j, .j, .j, .j, .j, .j, .j, .j, .j, .j, .j, .j, .j, .j, .j, .j, .j, .j, .j, .j, .j, .j, .j, .j, .j, .j, .j, .j, .j, .j, .j, .j, .j, .j, .j, .j, .j, .j, .j, .j, .j, .j, .j, .j, .j, .j, .j, .j, .j, .j, .j, .j, .j, .j, .j, .j, .j, .j, .j, .j], []], [.box false (.dat (.prod (.slice (.int .i64)) (.prod (.int .i64) (.prod (.slice (.int .i64)) .unit)))), .box false (.dat (.int .i64)), .box false (.dat (.prod (.arr 3 (.int .i64)) (.prod (.arr 3 (.int .i64)) (.prod (.arr 4 (.arr 3 (.int .i64))) .unit)))), .box false (.dat (.arr 3 (.int .i64))), .box false (.dat (.int .i64)), .box false (.dat (.slice (.int .i64)))], [⟨12, 0, .done (.exit 0), [.j, .j, .j, .loc 5 [], .j, .loc 1 [], .j, .j, .loc 2 [], .loc 3 [], .loc 4 [], .j, .j, .j, .j, .j, .j, .j, .j, .j, .j, .j, .j, .j, .j, .j, .j, .j, .j, .j, .j, .j, .j, .j, .j, .j, .j, .j, .j, .j, .j, .j, .j, .j, .j, .j, .j, .j, .j, .j, .j, .j, .j, .j, .j, .j, .j, .j, .j, .j, .j, .j, .j, .j, .j, .j, .j, .j, .j, .j, .j, .j, .j, .j, .j, .j, .j, .j, .j, .j, .j, .j, .j, .j, .j, .j, .j, .j, .j, .j, .j, .j, .j, .j, .j, .j, .j, .j, .j, .j, .j]⟩]⟩), (.exit 4, ⟨[.yld 0, .loc 0 [], .j, .dat (.int .i64), .dat (.int .i64), .j, .j, .j, .j, .j, .j, .j, .j, .j, .j, .j, .j, .dat (.int .i64), .dat (.int .i64), .j, .j, .j, .j, .j, .j, .dat (.int .i64), .dat (.int .i64), .j, .j, .j, .j, .j, .j, .j, .j, .j, .j, .j, .j, .j, .j, .j, .j, .j, .j, .j, .j, .j, .j, .j, .j, .j, .j, .j, .j, .j, .j, .j, .j, .j, .j, .j, .j, .j, .j, .j, .j, .j, .j, .j, .j, .j, .j, .j, .j, .j, .j, .j, .j, .j, .j, .j, .j, .j, .j, .j, .j, .j, .j, .j, .j, .j, .j, .j, .j, .j, .j, .j, .j, .j, .j, .j, .j, .j], [[.j, .j, .loc 1 [], .j, .nils, .loc 2 [], .dat (.int .i64), .j, .loc 3 [], .loc 4 [], .loc 5 [], .j, .j, .j, .j, .j, .j, .j, .j, .j, .j, .j, .j, .j, .j, .j, .j, .j, .j, .j, .j, .j, .j, .j, .j, .j, .j, .j, .j, .j, .j, .j, .j, .j, .j, .j, .j, .j, .j, .j, .j, .j, .j, .j, .j, .j, .j, .j, .j, .j, .j, .j, .j, .j, .j, .j, .j, .j, .j, .j, .j, .j, .j, .j, .j, .j, .j, .j, .j, .j, .j, .j, .j, .j, .j, .j, .j, .j, .j, .j, .j, .j, .j, .j, .j, .j, .j, .j, .j, .j, .j], []], [.box false (.dat (.prod (.slice (.int .i64)) (.prod (.int .i64) (.prod (.slice (.int .i64)) .unit)))), .box false (.dat (.prod (.slice (.int .i64)) (.prod (.int .i64) (.prod (.slice (.int .i64)) .unit)))), .box false (.dat (.int .i64)), .box false (.dat (.prod (.arr 3 (.int .i64)) (.prod (.arr 3 (.int .i64)) (.prod (.arr 4 (.arr 3 (.int .i64))) .unit)))), .box false (.dat (.arr 3 (.int .i64))), .box false (.dat (.int .i64)), .box false (.dat (.slice (.int .i64)))], [⟨12, 0, .ready, [.j, .j, .j, .loc 6 [], .j, .loc 2 [], .j, .j, .loc 3 [], .loc 4 [], .loc 5 [], .j, .j, .j, .j, .j, .j, .j, .j, .j, .j, .j, .j, .j, .j, .j, .j, .j, .j, .j, .j, .j, .j, .j, .j, .j, .j, .j, .j, .j, .j, .j, .j, .j, .j, .j, .j, .j, .j, .j, .j, .j, .j, .j, .j, .j, .j, .j, .j, .j, .j, .j, .j, .j, .j, .j, .j, .j, .j, .j, .j, .j, .j, .j, .j, .j, .j, .j, .j, .j, .j, .j, .j, .j, .j, .j, .j, .j, .j, .j, .j, .j, .j, .j, .j, .j, .j, .j, .j, .j, .j]⟩]⟩)]
abbrev qhu : Type := Int × Int × Int × Int × Int × Int × Int × Int × Int × Int × ((List Int) × (Int × ((List Int) × Unit))) × ((List Int) × (Int × ((List Int) × Unit))) × Int × ((List Int) × ((List Int) × ((List (List Int)) × Unit))) × (List Int) × Int × (List Int) × Unit
abbrev qhv : Type := ((Int × ((List Int) × (Int × ((List Int) × Unit))) × Int × ((List Int) × ((List Int) × ((List (List Int)) × Unit))) × (List Int) × Int × (List Int) × Unit) ⊕ (Int × Int × Int × Int × Int × Int × Int × ((List Int) × (Int × ((List Int) × Unit))) × ((List Int) × (Int × ((List Int) × Unit))) × Int × ((List Int) × ((List Int) × ((List (List Int)) × Unit))) × (List Int) × Int × (List Int) × Unit))
noncomputable def qp0 : Env := Env.mk' tyF fnF gl (lookT []) (lookL [(43, 6, [qn6, qni])]) (fun f c => match Nat.beq f 43 && Nat.beq c 4 with | true => some qcy | false => none)
theorem quk : EnvAll Tryz.prog qp0 := EnvAll.mk' tabs _ (qb trivial) (qa ⟨⟨qpl, ⟨qou, trivial⟩⟩, trivial⟩)
noncomputable def qed : Env := (qp0).up 1000
theorem qwi : EnvAll Tryz.prog qed := EnvAll.up (quk) 1000
noncomputable def qf7 : List Lp := [rfRec 12 0 Tryz.f12]
noncomputable def qcz (rec : qhu → Option qhv) (n : Int) (i : Int) (j : Int) (v : Int) (v1 : Int) (v2 : Int) (v3 : Int) (v4 : Int) (v5 : Int) (o : Int) (v6 : ((List Int) × (Int × ((List Int) × Unit)))) (v7 : ((List Int) × (Int × ((List Int) × Unit)))) (v8 : Int) (v9 : ((List Int) × ((List Int) × ((List (List Int)) × Unit)))) (v10 : (List Int)) (v11 : Int) (v12 : (List Int)) : Option qhv :=
  cond' ((decide (v5 < v4))) (
    (qle (n, i, j, v5, v, v1, v2, v3, v4, v5, [[(0 : Int), (1 : Int), (2 : Int)], [(0 : Int), (2 : Int), (1 : Int)], [(1 : Int), (0 : Int), (2 : Int)], [(1 : Int), (2 : Int), (0 : Int)], [(2 : Int), (0 : Int), (1 : Int)], [(2 : Int), (1 : Int), (0 : Int)]], (0 : Int), o, v6, v7, v8, v9, v10, v11, v12, ())).bind fun y1 =>
    match y1 with
    | .inl a2 =>
      some (.inl (a2.1, a2.2.1, a2.2.2.1, a2.2.2.2.1, a2.2.2.2.2.1, a2.2.2.2.2.2.1, a2.2.2.2.2.2.2.1, ()))
    | .inr b3 =>
      rec (b3.1, b3.2.1, b3.2.2.1, b3.2.2.2.1, b3.2.2.2.2.1, b3.2.2.2.2.2.1, b3.2.2.2.2.2.2.1, b3.2.2.2.2.2.2.2.1, (IntKind.i64.wrap (b3.2.2.2.2.2.2.2.2.1 + (1 : Int))), b3.2.2.2.2.2.2.2.2.2.1, b3.2.2.2.2.2.2.2.2.2.2.1, b3.2.2.2.2.2.2.2.2.2.2.2.1, b3.2.2.2.2.2.2.2.2.2.2.2.2.1, b3.2.2.2.2.2.2.2.2.2.2.2.2.2.1, b3.2.2.2.2.2.2.2.2.2.2.2.2.2.2.1, b3.2.2.2.2.2.2.2.2.2.2.2.2.2.2.2.1, b3.2.2.2.2.2.2.2.2.2.2.2.2.2.2.2.2.1, ())) (
    some (.inr (n, i, v, v1, v2, v3, o, v6, v7, v8, v9, v10, v11, v12, ())))
noncomputable def qes : Nat → qhu → Option qhv
  | 0, _ => none
  | n + 1, x => qcz (qes n) x.1 x.2.1 x.2.2.1 x.2.2.2.1 x.2.2.2.2.1 x.2.2.2.2.2.1 x.2.2.2.2.2.2.1 x.2.2.2.2.2.2.2.1 x.2.2.2.2.2.2.2.2.1 x.2.2.2.2.2.2.2.2.2.1 x.2.2.2.2.2.2.2.2.2.2.1 x.2.2.2.2.2.2.2.2.2.2.2.1 x.2.2.2.2.2.2.2.2.2.2.2.2.1 x.2.2.2.2.2.2.2.2.2.2.2.2.2.1 x.2.2.2.2.2.2.2.2.2.2.2.2.2.2.1 x.2.2.2.2.2.2.2.2.2.2.2.2.2.2.2.1 x.2.2.2.2.2.2.2.2.2.2.2.2.2.2.2.2.1
theorem qol (fu : Nat) (n : Int) (i : Int) (j : Int) (v : Int) (v1 : Int) (v2 : Int) (v3 : Int) (v4 : Int) (v5 : Int) (o : Int) (v6 : ((List Int) × (Int × ((List Int) × Unit)))) (v7 : ((List Int) × (Int × ((List Int) × Unit)))) (v8 : Int) (v9 : ((List Int) × ((List Int) × ((List (List Int)) × Unit)))) (v10 : (List Int)) (v11 : Int) (v12 : (List Int)) : qes (fu + 1) (n, i, j, v, v1, v2, v3, v4, v5, o, v6, v7, v8, v9, v10, v11, v12, ()) = qcz (qes fu) n i j v v1 v2 v3 v4 v5 o v6 v7 v8 v9 v10 v11 v12 := rfl
theorem qul (fu : Nat) (n : Int) (i : Int) (j : Int) (v : Int) (v1 : Int) (v2 : Int) (v3 : Int) (v4 : Int) (v5 : Int) (o : Int) (v6 : ((List Int) × (Int × ((List Int) × Unit)))) (v7 : ((List Int) × (Int × ((List Int) × Unit)))) (v8 : Int) (v9 : ((List Int) × ((List Int) × ((List (List Int)) × Unit)))) (v10 : (List Int)) (v11 : Int) (v12 : (List Int)) : ev qed (fu + 1) 43 4 (.loop (loopAt Tryz.f43 4)) (qcy.enc qf7 (n, i, j, v, v1, v2, v3, v4, v5, o, v6, v7, v8, v9, v10, v11, v12, ())) (exitD qf8) = qcz (fun x => ev qed fu 43 4 (.loop (loopAt Tryz.f43 4)) (qcy.enc qf7 x) (exitD qf8)) n i j v v1 v2 v3 v4 v5 o v6 v7 v8 v9 v10 v11 v12 := by kernel_rfl
theorem qxt (n : Nat) (x : qhu) : ev qed n 43 4 (.loop (loopAt Tryz.f43 4)) (qcy.enc qf7 x) (exitD qf8) = qes n x :=
  fuel_eq (f := fun n x => ev qed n 43 4 (.loop (loopAt Tryz.f43 4)) (qcy.enc qf7 x) (exitD qf8)) (st := fun rec x => qcz rec x.1 x.2.1 x.2.2.1 x.2.2.2.1 x.2.2.2.2.1 x.2.2.2.2.2.1 x.2.2.2.2.2.2.1 x.2.2.2.2.2.2.2.1 x.2.2.2.2.2.2.2.2.1 x.2.2.2.2.2.2.2.2.2.1 x.2.2.2.2.2.2.2.2.2.2.1 x.2.2.2.2.2.2.2.2.2.2.2.1 x.2.2.2.2.2.2.2.2.2.2.2.2.1 x.2.2.2.2.2.2.2.2.2.2.2.2.2.1 x.2.2.2.2.2.2.2.2.2.2.2.2.2.2.1 x.2.2.2.2.2.2.2.2.2.2.2.2.2.2.2.1 x.2.2.2.2.2.2.2.2.2.2.2.2.2.2.2.2.1) (fun _ => rfl) (fun n x => qul n x.1 x.2.1 x.2.2.1 x.2.2.2.1 x.2.2.2.2.1 x.2.2.2.2.2.1 x.2.2.2.2.2.2.1 x.2.2.2.2.2.2.2.1 x.2.2.2.2.2.2.2.2.1 x.2.2.2.2.2.2.2.2.2.1 x.2.2.2.2.2.2.2.2.2.2.1 x.2.2.2.2.2.2.2.2.2.2.2.1 x.2.2.2.2.2.2.2.2.2.2.2.2.1 x.2.2.2.2.2.2.2.2.2.2.2.2.2.1 x.2.2.2.2.2.2.2.2.2.2.2.2.2.2.1 x.2.2.2.2.2.2.2.2.2.2.2.2.2.2.2.1 x.2.2.2.2.2.2.2.2.2.2.2.2.2.2.2.2.1) qes (fun _ => rfl) (fun _ _ => rfl) n x
def qlf : qhu → Option qhv
  | (n, i, j, v, v1, v2, v3, v4, v5, o, g, u0, u1, u2, u3, u4, u5, ()) => wh (okG3 g ∧ (0 ≤ i ∧ i < aN g) ∧ (0 ≤ j ∧ j < bN g) ∧ tgtP u5 ∧ v4 = ((cN g : Nat) : Int) ∧ v5 = 0 ∧ n = ((posN g (i.toNat) (j.toNat) (0) (0) : Nat) : Int)) (match scan (isHit g u5) (6 * (cN g)) (posN g (i.toNat) (j.toNat) (0) (0)) with | some m => .inl (o, u0, (m : Int), tetN g m, (hitN g u5 m).1, (hitN g u5 m).2.1, u5, ()) | none => .inr (((posN g (i.toNat) (j.toNat) (cN g) (0) : Nat) : Int), i, v, v1, v2, v3, o, g, u0, u1, u2, u3, u4, u5, ()))
theorem qpa (g : GridT) (i j : Nat) (hg : okG3 g) (hi : i < aN g) (hj : j < bN g) (v v1 v2 v3 : Int) (o : Int) (u0 : GridT) (u1 : Int) (u2 : TetT) (u3 : List Int) (u4 : Int) (u5 : List Int) (htg : tgtP u5) : ∀ (d k : Nat), k + d = cN g →
    qes (d + 1) ((((posN g (i) (j) (k) (0)) : Nat) : Int), (i : Int), (j : Int), v, v1, v2, v3, ((cN g : Nat) : Int), (k : Int), o, g, u0, u1, u2, u3, u4, u5, ()) = some (match scan (isHit g u5) (6 * (d)) (posN g (i) (j) (k) (0)) with | some m => .inl (o, u0, (m : Int), tetN g m, (hitN g u5 m).1, (hitN g u5 m).2.1, u5, ()) | none => .inr (((posN g (i) (j) (cN g) (0) : Nat) : Int), (i : Int), v, v1, v2, v3, o, g, u0, u1, u2, u3, u4, u5, ()))
  | 0, k, hq => by
    obtain rfl : k = cN g := by omega
    rw [qol]
    simp only [qcz]
    rw [cond'_neg (by omega)]
    rfl
  | d + 1, k, hq => by
    have hN := gN hg
    have hBC : bN g * cN g ≤ 8 * 8 := Nat.mul_le_mul hN.2.1.2.2 hN.2.2.2.2
    have en : posN g i j k 6 = posN g i j (k + 1) 0 := by unfold posN; omega
    have hsteps : 6 * (d + 1) = 6 + 6 * (d) := by omega
    have hpos : posN g (i) (j) (k) (0) + 6 = posN g (i) (j) (k + 1) (0) := by unfold posN; omega
    have g1 : qle ((((posN g (i) (j) (k) (0)) : Nat) : Int), (i : Int), (j : Int), (k : Int), v, v1, v2, v3, ((cN g : Nat) : Int), (k : Int), ords, (0 : Int), o, g, u0, u1, u2, u3, u4, u5, ()) = some (match scan (isHit g u5) (6) (posN g (i) (j) (k) (0)) with | some m => .inl (o, u0, (m : Int), tetN g m, (hitN g u5 m).1, (hitN g u5 m).2.1, u5, ()) | none => .inr ((((posN g (i) (j) (k + 1) (0)) : Nat) : Int), (i : Int), (j : Int), v, v1, v2, v3, ((cN g : Nat) : Int), (k : Int), o, g, u0, u1, u2, u3, u4, u5, ())) := by
      refine (wh_pos ⟨hg, ⟨by omega, by omega⟩, ⟨by omega, by omega⟩, ⟨by omega, by omega⟩, htg, rfl, rfl, rfl⟩).trans ?_
      simp only [Int.toNat_natCast]
      rw [en]
      all_goals rfl
    have ih := qpa g i j hg hi hj v v1 v2 v3 o u0 u1 u2 u3 u4 u5 htg d (k + 1) (by omega)
    rw [qol]
    simp only [qcz]
    rw [cond'_pos (by omega), g1]
    rw [hsteps, scan_add]
    cases scan (isHit g u5) (6) (posN g (i) (j) (k) (0)) with
    | some m => rfl
    | none =>
      simp only [Option.bind_some]
      rw [w64 (by omega) (by omega)]
      rw [hpos]
      exact ih
theorem qxu (x : qhu) (y : qhv) (h : qlf x = some y) : ∃ n, qes n x = some y := by
  obtain ⟨n, i, j, v, v1, v2, v3, v4, v5, o, g, u0, u1, u2, u3, u4, u5, ⟨⟩⟩ := x
  obtain ⟨⟨hg, ⟨hi, hi2⟩, ⟨hj, hj2⟩, htg, h1, h2, h3⟩, rfl⟩ := wh_some h
  obtain ⟨i, rfl⟩ := Int.eq_ofNat_of_zero_le hi
  obtain ⟨j, rfl⟩ := Int.eq_ofNat_of_zero_le hj
  simp only [Int.toNat_natCast] at h3 ⊢
  subst h1; subst h2; subst h3
  have hN := gN hg
  exact ⟨_, qpa g i j hg (by omega) (by omega) v v1 v2 v3 o u0 u1 u2 u3 u4 u5 htg _ 0 (by omega)⟩
noncomputable def qnj : LoopC := ⟨qcy, qf8, qlf⟩
theorem qov : LoopSpec Tryz.prog gl 43 4 qnj := qd (canon := qf7) (.cons (fun _ _ _ h => rfRec_eq (fn := Tryz.f12) Tryz.func12 (by kernel_rfl) h) .nil) (fun c hc x y h => by
  obtain rfl := loopAt_eq (fn := Tryz.f43) Tryz.func43 (by kernel_rfl) hc
  obtain ⟨n, hn⟩ := qxu x y h
  exact ⟨qed, n, rfl, qwi, (qxt n x).trans hn⟩)
noncomputable def qc0 : Shape := ⟨[.yld 0, .loc 0 [], .j, .dat (.int .i64), .dat (.int .i64), .j, .j, .j, .j, .j, .j, .j, .j, .j, .j, .j, .j, .dat (.int .i64), .dat (.int .i64), .j, .j, .j, .j, .j, .j, .dat (.int .i64), .dat (.int .i64), .j, .j, .j, .j, .j, .j, .j, .j, .j, .j, .j, .j, .j, .j, .j, .j, .j, .j, .j, .j, .j, .j, .j, .j, .j, .j, .j, .j, .j, .j, .j, .j, .j, .j, .j, .j, .j, .j, .j, .j, .j, .j, .j, .j, .j, .j, .j, .j, .j, .j, .j, .j, .j, .j, .j, .j, .j, .j, .j, .j, .j, .j, .j, .j, .j, .j, .j, .j, .j, .j, .j, .j, .j, .j, .j, .j, .j], [[.j, .j, .loc 1 [], .j, .nils, .loc 2 [], .dat (.int .i64), .j, .loc 3 [], .loc 4 [], .loc 5 [], .j, .j, .j, .j, .j, .j, .j, .j, .j, .j, .j, .j, .j, .j, .j, .j, .j, .j, .j, .j, .j, .j, .j, .j, .j, .j, .j, .j, .j, .j, .j, .j, .j, .j, .j, .j, .j, .j, .j, .j, .j, .j, .j, .j, .j, .j, .j, .j, .j, .j, .j, .j, .j, .j, .j, .j, .j, .j, .j, .j, .j, .j, .j, .j, .j, .j, .j, .j, .j, .j, .j, .j, .j, .j, .j, .j, .j, .j, .j, .j, .j, .j, .j, .j, .j, .j, .j, .j, .j, .j], []], [.box false (.dat (.prod (.slice (.int .i64)) (.prod (.int .i64) (.prod (.slice (.int .i64)) .unit)))), .box false (.dat (.prod (.slice (.int .i64)) (.prod (.int .i64) (.prod (.slice (.int .i64)) .unit)))), .box false (.dat (.int .i64)), .box false (.dat (.prod (.arr 3 (.int .i64)) (.prod (.arr 3 (.int .i64)) (.prod (.arr 4 (.arr 3 (.int .i64))) .unit)))), .box false (.dat (.arr 3 (.int .i64))), .box false (.dat (.int .i64)), .box false (.dat (.slice (.int .i64)))], [⟨12, 0, .ready, [.j, .j, .j, .loc 6 [], .j, .loc 2 [], .j, .j, .loc 3 [], .loc 4 [], .loc 5 [], .j, .j, .j, .j, .j, .j, .j, .j, .j, .j, .j, .j, .j, .j, .j, .j, .j, .j, .j, .j, .j, .j, .j, .j, .j, .j, .j, .j, .j, .j, .j, .j, .j, .j, .j, .j, .j, .j, .j, .j, .j, .j, .j, .j, .j, .j, .j, .j, .j, .j, .j, .j, .j, .j, .j, .j, .j, .j, .j, .j, .j, .j, .j, .j, .j, .j, .j, .j, .j, .j, .j, .j, .j, .j, .j, .j, .j, .j, .j, .j, .j, .j, .j, .j, .j, .j, .j, .j, .j, .j]⟩]⟩
noncomputable def qga : List (Ex × Shape) := [(.ret, ⟨[.j, .j, .j, .j, .j, .j, .j, .j, .j, .j, .j, .j, .j, .j, .j, .j, .j, .j, .j, .j, .j, .j, .j, .j, .j, .j, .j, .j, .j, .j, .j, .j, .j, .j, .j, .j, .j, .j, .j, .j, .j, .j, .j, .j, .j, .j, .j, .j, .j, .j, .j, .j, .j, .j, .j, .j, .j, .j, .j, .j, .j, .j, .j, .j, .j, .j, .j, .j, .j, .j, .j, .j, .j, .j, .j, .j, .j, .j, .j, .j, .j, .j, .j, .j, .j, .j, .j, .j, .j, .j, .j, .j, .j, .j, .j, .j, .j, .j, .j, .j, .j, .j, .j, .j], [[.j, .j, .loc 0 [], .j, .nils, .loc 1 [], .dat (.int .i64), .j, .loc 2 [], .loc 3 [], .loc 4 [], .j, .j, .j, .j, .j, .j, .j, .j, .j, .j, .j, .j, .j, .j, .j, .j, .j, .j, .j, .j, .j, .j, .j, .j, .j, .j, .j, .j, .j, .j, .j, .j, .j, .j, .j, .j, .j, .j, .j, .j, .j, .j, .j, .j, .j, .j, .j, .j, .j, .j, .j, .j, .j, .j, .j, .j, .j, .j, .j, .j, .j, .j, .j, .j, .j, .j, .j, .j, .j, .j, .j, .j, .j, .j, .j, .j, .j, .j, .j, .j, .j, .j, .j, .j, .j, .j, .j, .j, .j, .j], []], [.box false (.dat (.prod (.slice (.int .i64)) (.prod (.int .i64) (.prod (.slice (.int .i64)) .unit)))), .box false (.dat (.int .i64)), .box false (.dat (.prod (.arr 3 (.int .i64)) (.prod (.arr 3 (.int .i64)) (.prod (.arr 4 (.arr 3 (.int .i64))) .unit)))), .box false (.dat (.arr 3 (.int .i64))), .box false (.dat (.int .i64)), .box false (.dat (.slice (.int .i64)))], [⟨12, 0, .done (.exit 0), [.j, .j, .j, .loc 5 [], .j, .loc 1 [], .j, .j, .loc 2 [], .loc 3 [], .loc 4 [], .j, .j, .j, .j, .j, .j, .j, .j, .j, .j, .j, .j, .j, .j, .j, .j, .j, .j, .j, .j, .j, .j, .j, .j, .j, .j, .j, .j, .j, .j, .j, .j, .j, .j, .j, .j, .j, .j, .j, .j, .j, .j, .j, .j, .j, .j, .j, .j, .j, .j, .j, .j, .j, .j, .j, .j, .j, .j, .j, .j, .j, .j, .j, .j, .j, .j, .j, .j, .j, .j, .j, .j, .j, .j, .j, .j, .j, .j, .j, .j, .j, .j, .j, .j, .j, .j, .j, .j, .j, .j]⟩]⟩), (.exit 2, ⟨[.yld 0, .loc 0 [], .j, .dat (.int .i64), .j, .j, .j, .j, .j, .j, .j, .j, .j, .j, .j, .j, .j, .dat (.int .i64), .dat (.int .i64), .j, .j, .j, .j, .j, .j, .j, .j, .j, .j, .j, .j, .j, .j, .j, .j, .j, .j, .j, .j, .j, .j, .j, .j, .j, .j, .j, .j, .j, .j, .j, .j, .j, .j, .j, .j, .j, .j, .j, .j, .j, .j, .j, .j, .j, .j, .j, .j, .j, .j, .j, .j, .j, .j, .j, .j, .j, .j, .j, .j, .j, .j, .j, .j, .j, .j, .j, .j, .j, .j, .j, .j, .j, .j, .j, .j, .j, .j, .j, .j, .j, .j, .j, .j, .j], [[.j, .j, .loc 1 [], .j, .nils, .loc 2 [], .dat (.int .i64), .j, .loc 3 [], .loc 4 [], .loc 5 [], .j, .j, .j, .j, .j, .j, .j, .j, .j, .j, .j, .j, .j, .j, .j, .j, .j, .j, .j, .j, .j, .j, .j, .j, .j, .j, .j, .j, .j, .j, .j, .j, .j, .j, .j, .j, .j, .j, .j, .j, .j, .j, .j, .j, .j, .j, .j, .j, .j, .j, .j, .j, .j, .j, .j, .j, .j, .j, .j, .j, .j, .j, .j, .j, .j, .j, .j, .j, .j, .j, .j, .j, .j, .j, .j, .j, .j, .j, .j, .j, .j, .j, .j, .j, .j, .j, .j, .j, .j, .j], []], [.box false (.dat (.prod (.slice (.int .i64)) (.prod (.int .i64) (.prod (.slice (.int .i64)) .unit)))), .box false (.dat (.prod (.slice (.int .i64)) (.prod (.int .i64) (.prod (.slice (.int .i64)) .unit)))), .box false (.dat (.int .i64)), .box false (.dat (.prod (.arr 3 (.int .i64)) (.prod (.arr 3 (.int .i64)) (.prod (.arr 4 (.arr 3 (.int .i64))) .unit)))), .box false (.dat (.arr 3 (.int .i64))), .box false (.dat (.int .i64)), .box false (.dat (.slice (.int .i64)))], [⟨12, 0, .ready, [.j, .j, .j, .loc 6 [], .j, .loc 2 [], .j, .j, .loc 3 [], .loc 4 [], .loc 5 [], .j, .j, .j, .j, .j, .j, .j, .j, .j, .j, .j, .j, .j, .j, .j, .j, .j, .j, .j, .j, .j, .j, .j, .j, .j, .j, .j, .j, .j, .j, .j, .j, .j, .j, .j, .j, .j, .j, .j, .j, .j, .j, .j, .j, .j, .j, .j, .j, .j, .j, .j, .j, .j, .j, .j, .j, .j, .j, .j, .j, .j, .j, .j, .j, .j, .j, .j, .j, .j, .j, .j, .j, .j, .j, .j, .j, .j, .j, .j, .j, .j, .j, .j, .j, .j, .j, .j, .j, .j, .j]⟩]⟩)]
abbrev qhw : Type := Int × Int × Int × Int × Int × Int × Int × ((List Int) × (Int × ((List Int) × Unit))) × ((List Int) × (Int × ((List Int) × Unit))) × Int × ((List Int) × ((List Int) × ((List (List Int)) × Unit))) × (List Int) × Int × (List Int) × Unit
abbrev qhx : Type := ((Int × ((List Int) × (Int × ((List Int) × Unit))) × Int × ((List Int) × ((List Int) × ((List (List Int)) × Unit))) × (List Int) × Int × (List Int) × Unit) ⊕ (Int × Int × Int × Int × ((List Int) × (Int × ((List Int) × Unit))) × ((List Int) × (Int × ((List Int) × Unit))) × Int × ((List Int) × ((List Int) × ((List (List Int)) × Unit))) × (List Int) × Int × (List Int) × Unit))
noncomputable def qp1 : Env := Env.mk' tyF fnF gl (lookT []) (lookL [(43, 4, [qnj])]) (fun f c => match Nat.beq f 43 && Nat.beq c 2 with | true => some qc0 | false => none)
theorem qum : EnvAll Tryz.prog qp1 := EnvAll.mk' tabs _ (qb trivial) (qa ⟨⟨qov, trivial⟩, trivial⟩)
noncomputable def qee : Env := (qp1).up 1000
theorem qwj : EnvAll Tryz.prog qee := EnvAll.up (qum) 1000
noncomputable def qf9 : List Lp := [rfRec 12 0 Tryz.f12]
noncomputable def qc1 (rec : qhw → Option qhx) (n : Int) (i : Int) (v : Int) (v1 : Int) (v2 : Int) (v3 : Int) (o : Int) (v4 : ((List Int) × (Int × ((List Int) × Unit)))) (v5 : ((List Int) × (Int × ((List Int) × Unit)))) (v6 : Int) (v7 : ((List Int) × ((List Int) × ((List (List Int)) × Unit)))) (v8 : (List Int)) (v9 : Int) (v10 : (List Int)) : Option qhx :=
  cond' ((decide (v3 < v2))) (
    cond' (decide (0 ≤ (2 : Int) ∧ (2 : Int) < ((v4.1.length : Nat) : Int))) (
    (qlf (n, i, v3, v, v1, v2, v3, (IntKind.i64.wrap ((v4.1.getD 2 (0 : Int)) - (1 : Int))), (0 : Int), o, v4, v5, v6, v7, v8, v9, v10, ())).bind fun y1 =>
    match y1 with
    | .inl a2 =>
      some (.inl (a2.1, a2.2.1, a2.2.2.1, a2.2.2.2.1, a2.2.2.2.2.1, a2.2.2.2.2.2.1, a2.2.2.2.2.2.2.1, ()))
    | .inr b3 =>
      rec (b3.1, b3.2.1, b3.2.2.1, b3.2.2.2.1, b3.2.2.2.2.1, (IntKind.i64.wrap (b3.2.2.2.2.2.1 + (1 : Int))), b3.2.2.2.2.2.2.1, b3.2.2.2.2.2.2.2.1, b3.2.2.2.2.2.2.2.2.1, b3.2.2.2.2.2.2.2.2.2.1, b3.2.2.2.2.2.2.2.2.2.2.1, b3.2.2.2.2.2.2.2.2.2.2.2.1, b3.2.2.2.2.2.2.2.2.2.2.2.2.1, b3.2.2.2.2.2.2.2.2.2.2.2.2.2.1, ())) none) (
    some (.inr (n, v, v1, o, v4, v5, v6, v7, v8, v9, v10, ())))
noncomputable def qet : Nat → qhw → Option qhx
  | 0, _ => none
  | n + 1, x => qc1 (qet n) x.1 x.2.1 x.2.2.1 x.2.2.2.1 x.2.2.2.2.1 x.2.2.2.2.2.1 x.2.2.2.2.2.2.1 x.2.2.2.2.2.2.2.1 x.2.2.2.2.2.2.2.2.1 x.2.2.2.2.2.2.2.2.2.1 x.2.2.2.2.2.2.2.2.2.2.1 x.2.2.2.2.2.2.2.2.2.2.2.1 x.2.2.2.2.2.2.2.2.2.2.2.2.1 x.2.2.2.2.2.2.2.2.2.2.2.2.2.1
theorem qom (fu : Nat) (n : Int) (i : Int) (v : Int) (v1 : Int) (v2 : Int) (v3 : Int) (o : Int) (v4 : ((List Int) × (Int × ((List Int) × Unit)))) (v5 : ((List Int) × (Int × ((List Int) × Unit)))) (v6 : Int) (v7 : ((List Int) × ((List Int) × ((List (List Int)) × Unit)))) (v8 : (List Int)) (v9 : Int) (v10 : (List Int)) : qet (fu + 1) (n, i, v, v1, v2, v3, o, v4, v5, v6, v7, v8, v9, v10, ()) = qc1 (qet fu) n i v v1 v2 v3 o v4 v5 v6 v7 v8 v9 v10 := rfl
theorem qun (fu : Nat) (n : Int) (i : Int) (v : Int) (v1 : Int) (v2 : Int) (v3 : Int) (o : Int) (v4 : ((List Int) × (Int × ((List Int) × Unit)))) (v5 : ((List Int) × (Int × ((List Int) × Unit)))) (v6 : Int) (v7 : ((List Int) × ((List Int) × ((List (List Int)) × Unit)))) (v8 : (List Int)) (v9 : Int) (v10 : (List Int)) : ev qee (fu + 1) 43 2 (.loop (loopAt Tryz.f43 2)) (qc0.enc qf9 (n, i, v, v1, v2, v3, o, v4, v5, v6, v7, v8, v9, v10, ())) (exitD qga) = qc1 (fun x => ev qee fu 43 2 (.loop (loopAt Tryz.f43 2)) (qc0.enc qf9 x) (exitD qga)) n i v v1 v2 v3 o v4 v5 v6 v7 v8 v9 v10 := by kernel_rfl
theorem qxv (n : Nat) (x : qhw) : ev qee n 43 2 (.loop (loopAt Tryz.f43 2)) (qc0.enc qf9 x) (exitD qga) = qet n x :=
  fuel_eq (f := fun n x => ev qee n 43 2 (.loop (loopAt Tryz.f43 2)) (qc0.enc qf9 x) (exitD qga)) (st := fun rec x => qc1 rec x.1 x.2.1 x.2.2.1 x.2.2.2.1 x.2.2.2.2.1 x.2.2.2.2.2.1 x.2.2.2.2.2.2.1 x.2.2.2.2.2.2.2.1 x.2.2.2.2.2.2.2.2.1 x.2.2.2.2.2.2.2.2.2.1 x.2.2.2.2.2.2.2.2.2.2.1 x.2.2.2.2.2.2.2.2.2.2.2.1 x.2.2.2.2.2.2.2.2.2.2.2.2.1 x.2.2.2.2.2.2.2.2.2.2.2.2.2.1) (fun _ => rfl) (fun n x => qun n x.1 x.2.1 x.2.2.1 x.2.2.2.1 x.2.2.2.2.1 x.2.2.2.2.2.1 x.2.2.2.2.2.2.1 x.2.2.2.2.2.2.2.1 x.2.2.2.2.2.2.2.2.1 x.2.2.2.2.2.2.2.2.2.1 x.2.2.2.2.2.2.2.2.2.2.1 x.2.2.2.2.2.2.2.2.2.2.2.1 x.2.2.2.2.2.2.2.2.2.2.2.2.1 x.2.2.2.2.2.2.2.2.2.2.2.2.2.1) qet (fun _ => rfl) (fun _ _ => rfl) n x
def qlg : qhw → Option qhx
  | (n, i, v, v1, v2, v3, o, g, u0, u1, u2, u3, u4, u5, ()) => wh (okG3 g ∧ (0 ≤ i ∧ i < aN g) ∧ tgtP u5 ∧ v2 = ((bN g : Nat) : Int) ∧ v3 = 0 ∧ n = ((posN g (i.toNat) (0) (0) (0) : Nat) : Int)) (match scan (isHit g u5) (6 * ((bN g) * cN g)) (posN g (i.toNat) (0) (0) (0)) with | some m => .inl (o, u0, (m : Int), tetN g m, (hitN g u5 m).1, (hitN g u5 m).2.1, u5, ()) | none => .inr (((posN g (i.toNat) (bN g) (0) (0) : Nat) : Int), v, v1, o, g, u0, u1, u2, u3, u4, u5, ()))
theorem qpb (g : GridT) (i : Nat) (hg : okG3 g) (hi : i < aN g) (v v1 : Int) (o : Int) (u0 : GridT) (u1 : Int) (u2 : TetT) (u3 : List Int) (u4 : Int) (u5 : List Int) (htg : tgtP u5) : ∀ (d j : Nat), j + d = bN g →
    qet (d + 1) ((((posN g (i) (j) (0) (0)) : Nat) : Int), (i : Int), v, v1, ((bN g : Nat) : Int), (j : Int), o, g, u0, u1, u2, u3, u4, u5, ()) = some (match scan (isHit g u5) (6 * ((d) * cN g)) (posN g (i) (j) (0) (0)) with | some m => .inl (o, u0, (m : Int), tetN g m, (hitN g u5 m).1, (hitN g u5 m).2.1, u5, ()) | none => .inr (((posN g (i) (bN g) (0) (0) : Nat) : Int), v, v1, o, g, u0, u1, u2, u3, u4, u5, ()))
  | 0, j, hq => by
    obtain rfl : j = bN g := by omega
    rw [qom]
    simp only [qc1]
    rw [cond'_neg (by omega)]
    rw [show 6 * ((0) * cN g) = 0 by rw [Nat.zero_mul]]; rfl
  | d + 1, j, hq => by
    have hN := gN hg
    have hBC : bN g * cN g ≤ 8 * 8 := Nat.mul_le_mul hN.2.1.2.2 hN.2.2.2.2
    have en : posN g i j (cN g) 0 = posN g i (j + 1) 0 0 := by
      unfold posN
      have := Nat.succ_mul (i * bN g + j) (cN g)
      rw [show i * bN g + (j + 1) = (i * bN g + j).succ from rfl, this]
      omega
    have hsteps : 6 * ((d + 1) * cN g) = 6 * (cN g) + 6 * ((d) * cN g) := by rw [Nat.add_mul d 1, Nat.one_mul]; omega
    have hpos : posN g (i) (j) (0) (0) + 6 * (cN g) = posN g (i) (j + 1) (0) (0) := by rw [← en]; unfold posN; omega
    have g1 : qlf ((((posN g (i) (j) (0) (0)) : Nat) : Int), (i : Int), (j : Int), v, v1, ((bN g : Nat) : Int), (j : Int), ((cN g : Nat) : Int), (0 : Int), o, g, u0, u1, u2, u3, u4, u5, ()) = some (match scan (isHit g u5) (6 * (cN g)) (posN g (i) (j) (0) (0)) with | some m => .inl (o, u0, (m : Int), tetN g m, (hitN g u5 m).1, (hitN g u5 m).2.1, u5, ()) | none => .inr ((((posN g (i) (j + 1) (0) (0)) : Nat) : Int), (i : Int), v, v1, ((bN g : Nat) : Int), (j : Int), o, g, u0, u1, u2, u3, u4, u5, ())) := by
      refine (wh_pos ⟨hg, ⟨by omega, by omega⟩, ⟨by omega, by omega⟩, htg, rfl, rfl, rfl⟩).trans ?_
      simp only [Int.toNat_natCast]
      rw [en]
      all_goals rfl
    have ih := qpb g i hg hi v v1 o u0 u1 u2 u3 u4 u5 htg d (j + 1) (by omega)
    rw [qom]
    simp only [qc1]
    rw [cond'_pos (by omega), cond'_pos (by have := hg.l; omega), w64 (x := g.1.getD 2 0 - 1) (by have := hg.s2; omega) (by have := hg.s2; omega), ← (gN hg).2.2.1, g1]
    rw [hsteps, scan_add]
    cases scan (isHit g u5) (6 * (cN g)) (posN g (i) (j) (0) (0)) with
    | some m => rfl
    | none =>
      simp only [Option.bind_some]
      rw [w64 (by omega) (by omega)]
      rw [hpos]
      exact ih
theorem qxw (x : qhw) (y : qhx) (h : qlg x = some y) : ∃ n, qet n x = some y := by
  obtain ⟨n, i, v, v1, v2, v3, o, g, u0, u1, u2, u3, u4, u5, ⟨⟩⟩ := x
  obtain ⟨⟨hg, ⟨hi, hi2⟩, htg, h1, h2, h3⟩, rfl⟩ := wh_some h
  obtain ⟨i, rfl⟩ := Int.eq_ofNat_of_zero_le hi
  simp only [Int.toNat_natCast] at h3 ⊢
  subst h1; subst h2; subst h3
  have hN := gN hg
  exact ⟨_, qpb g i hg (by omega) v v1 o u0 u1 u2 u3 u4 u5 htg _ 0 (by omega)⟩
noncomputable def qnk : LoopC := ⟨qc0, qga, qlg⟩
theorem qow : LoopSpec Tryz.prog gl 43 2 qnk := qd (canon := qf9) (.cons (fun _ _ _ h => rfRec_eq (fn := Tryz.f12) Tryz.func12 (by kernel_rfl) h) .nil) (fun c hc x y h => by
  obtain rfl := loopAt_eq (fn := Tryz.f43) Tryz.func43 (by kernel_rfl) hc
  obtain ⟨n, hn⟩ := qxw x y h
  exact ⟨qee, n, rfl, qwj, (qxv n x).trans hn⟩)
noncomputable def qc2 : Shape := ⟨[.yld 0, .loc 0 [], .j, .dat (.int .i64), .j, .j, .j, .j, .j, .j, .j, .j, .j, .j, .j, .j, .j, .dat (.int .i64), .dat (.int .i64), .j, .j, .j, .j, .j, .j, .j, .j, .j, .j, .j, .j, .j, .j, .j, .j, .j, .j, .j, .j, .j, .j, .j, .j, .j, .j, .j, .j, .j, .j, .j, .j, .j, .j, .j, .j, .j, .j, .j, .j, .j, .j, .j, .j, .j, .j, .j, .j, .j, .j, .j, .j, .j, .j, .j, .j, .j, .j, .j, .j, .j, .j, .j, .j, .j, .j, .j, .j, .j, .j, .j, .j, .j, .j, .j, .j, .j, .j, .j, .j, .j, .j, .j, .j, .j], [[.j, .j, .loc 1 [], .j, .nils, .loc 2 [], .dat (.int .i64), .j, .loc 3 [], .loc 4 [], .loc 5 [], .j, .j, .j, .j, .j, .j, .j, .j, .j, .j, .j, .j, .j, .j, .j, .j, .j, .j, .j, .j, .j, .j, .j, .j, .j, .j, .j, .j, .j, .j, .j, .j, .j, .j, .j, .j, .j, .j, .j, .j, .j, .j, .j, .j, .j, .j, .j, .j, .j, .j, .j, .j, .j, .j, .j, .j, .j, .j, .j, .j, .j, .j, .j, .j, .j, .j, .j, .j, .j, .j, .j, .j, .j, .j, .j, .j, .j, .j, .j, .j, .j, .j, .j, .j, .j, .j, .j, .j, .j, .j], []], [.box false (.dat (.prod (.slice (.int .i64)) (.prod (.int .i64) (.prod (.slice (.int .i64)) .unit)))), .box false (.dat (.prod (.slice (.int .i64)) (.prod (.int .i64) (.prod (.slice (.int .i64)) .unit)))), .box false (.dat (.int .i64)), .box false (.dat (.prod (.arr 3 (.int .i64)) (.prod (.arr 3 (.int .i64)) (.prod (.arr 4 (.arr 3 (.int .i64))) .unit)))), .box false (.dat (.arr 3 (.int .i64))), .box false (.dat (.int .i64)), .box false (.dat (.slice (.int .i64)))], [⟨12, 0, .ready, [.j, .j, .j, .loc 6 [], .j, .loc 2 [], .j, .j, .loc 3 [], .loc 4 [], .loc 5 [], .j, .j, .j, .j, .j, .j, .j, .j, .j, .j, .j, .j, .j, .j, .j, .j, .j, .j, .j, .j, .j, .j, .j, .j, .j, .j, .j, .j, .j, .j, .j, .j, .j, .j, .j, .j, .j, .j, .j, .j, .j, .j, .j, .j, .j, .j, .j, .j, .j, .j, .j, .j, .j, .j, .j, .j, .j, .j, .j, .j, .j, .j, .j, .j, .j, .j, .j, .j, .j, .j, .j, .j, .j, .j, .j, .j, .j, .j, .j, .j, .j, .j, .j, .j, .j, .j, .j, .j, .j, .j]⟩]⟩
noncomputable def qgc : List (Ex × Shape) := [(.ret, ⟨[.j, .j, .j, .j, .j, .j, .j, .j, .j, .j, .j, .j, .j, .j, .j, .j, .j, .j, .j, .j, .j, .j, .j, .j, .j, .j, .j, .j, .j, .j, .j, .j, .j, .j, .j, .j, .j, .j, .j, .j, .j, .j, .j, .j, .j, .j, .j, .j, .j, .j, .j, .j, .j, .j, .j, .j, .j, .j, .j, .j, .j, .j, .j, .j, .j, .j, .j, .j, .j, .j, .j, .j, .j, .j, .j, .j, .j, .j, .j, .j, .j, .j, .j, .j, .j, .j, .j, .j, .j, .j, .j, .j, .j, .j, .j, .j, .j, .j, .j, .j, .j, .j, .j, .j], [[.j, .j, .loc 0 [], .j, .nils, .loc 1 [], .dat (.int .i64), .j, .loc 2 [], .loc 3 [], .loc 4 [], .j, .j, .j, .j, .j, .j, .j, .j, .j, .j, .j, .j, .j, .j, .j, .j, .j, .j, .j, .j, .j, .j, .j, .j, .j, .j, .j, .j, .j, .j, .j, .j, .j, .j, .j, .j, .j, .j, .j, .j, .j, .j, .j, .j, .j, .j, .j, .j, .j, .j, .j, .j, .j, .j, .j, .j, .j, .j, .j, .j, .j, .j, .j, .j, .j, .j, .j, .j, .j, .j, .j, .j, .j, .j, .j, .j, .j, .j, .j, .j, .j, .j, .j, .j, .j, .j, .j, .j, .j, .j], []], [.box false (.dat (.prod (.slice (.int .i64)) (.prod (.int .i64) (.prod (.slice (.int .i64)) .unit)))), .box false (.dat (.int .i64)), .box false (.dat (.prod (.arr 3 (.int .i64)) (.prod (.arr 3 (.int .i64)) (.prod (.arr 4 (.arr 3 (.int .i64))) .unit)))), .box false (.dat (.arr 3 (.int .i64))), .box false (.dat (.int .i64)), .box false (.dat (.slice (.int .i64)))], [⟨12, 0, .done (.exit 0), [.j, .j, .j, .loc 5 [], .j, .loc 1 [], .j, .j, .loc 2 [], .loc 3 [], .loc 4 [], .j, .j, .j, .j, .j, .j, .j, .j, .j, .j, .j, .j, .j, .j, .j, .j, .j, .j, .j, .j, .j, .j, .j, .j, .j, .j, .j, .j, .j, .j, .j, .j, .j, .j, .j, .j, .j, .j, .j, .j, .j, .j, .j, .j, .j, .j, .j, .j, .j, .j, .j, .j, .j, .j, .j, .j, .j, .j, .j, .j, .j, .j, .j, .j, .j, .j, .j, .j, .j, .j, .j, .j, .j, .j, .j, .j, .j, .j, .j, .j, .j, .j, .j, .j, .j, .j, .j, .j, .j, .j]⟩]⟩), (.exit 0, ⟨[.j, .j, .j, .j, .j, .j, .j, .j, .j, .j, .j, .j, .j, .j, .j, .j, .j, .j, .j, .j, .j, .j, .j, .j, .j, .j, .j, .j, .j, .j, .j, .j, .j, .j, .j, .j, .j, .j, .j, .j, .j, .j, .j, .j, .j, .j, .j, .j, .j, .j, .j, .j, .j, .j, .j, .j, .j, .j, .j, .j, .j, .j, .j, .j, .j, .j, .j, .j, .j, .j, .j, .j, .j, .j, .j, .j, .j, .j, .j, .j, .j, .j, .j, .j, .j, .j, .j, .j, .j, .j, .j, .j, .j, .j, .j, .j, .j, .j, .j, .j, .j, .j, .j, .j], [[.j, .j, .loc 0 [], .j, .nils, .loc 1 [], .dat (.int .i64), .j, .loc 2 [], .loc 3 [], .loc 4 [], .j, .j, .j, .j, .j, .j, .j, .j, .j, .j, .j, .j, .j, .j, .j, .j, .j, .j, .j, .j, .j, .j, .j, .j, .j, .j, .j, .j, .j, .j, .j, .j, .j, .j, .j, .j, .j, .j, .j, .j, .j, .j, .j, .j, .j, .j, .j, .j, .j, .j, .j, .j, .j, .j, .j, .j, .j, .j, .j, .j, .j, .j, .j, .j, .j, .j, .j, .j, .j, .j, .j, .j, .j, .j, .j, .j, .j, .j, .j, .j, .j, .j, .j, .j, .j, .j, .j, .j, .j, .j], []], [.box false (.dat (.prod (.slice (.int .i64)) (.prod (.int .i64) (.prod (.slice (.int .i64)) .unit)))), .box false (.dat (.int .i64)), .box false (.dat (.prod (.arr 3 (.int .i64)) (.prod (.arr 3 (.int .i64)) (.prod (.arr 4 (.arr 3 (.int .i64))) .unit)))), .box false (.dat (.arr 3 (.int .i64))), .box false (.dat (.int .i64)), .box false (.dat (.slice (.int .i64)))], [⟨12, 0, .ready, [.j, .j, .j, .loc 5 [], .j, .loc 1 [], .j, .j, .loc 2 [], .loc 3 [], .loc 4 [], .j, .j, .j, .j, .j, .j, .j, .j, .j, .j, .j, .j, .j, .j, .j, .j, .j, .j, .j, .j, .j, .j, .j, .j, .j, .j, .j, .j, .j, .j, .j, .j, .j, .j, .j, .j, .j, .j, .j, .j, .j, .j, .j, .j, .j, .j, .j, .j, .j, .j, .j, .j, .j, .j, .j, .j, .j, .j, .j, .j, .j, .j, .j, .j, .j, .j, .j, .j, .j, .j, .j, .j, .j, .j, .j, .j, .j, .j, .j, .j, .j, .j, .j, .j, .j, .j, .j, .j, .j, .j]⟩]⟩)]
abbrev qhy : Type := Int × Int × Int × Int × ((List Int) × (Int × ((List Int) × Unit))) × ((List Int) × (Int × ((List Int) × Unit))) × Int × ((List Int) × ((List Int) × ((List (List Int)) × Unit))) × (List Int) × Int × (List Int) × Unit
abbrev qhz : Type := ((Int × ((List Int) × (Int × ((List Int) × Unit))) × Int × ((List Int) × ((List Int) × ((List (List Int)) × Unit))) × (List Int) × Int × (List Int) × Unit) ⊕ (Int × ((List Int) × (Int × ((List Int) × Unit))) × Int × ((List Int) × ((List Int) × ((List (List Int)) × Unit))) × (List Int) × Int × (List Int) × Unit))
noncomputable def qp2 : Env := Env.mk' tyF fnF gl (lookT []) (lookL [(43, 2, [qnk])]) (fun f c => match Nat.beq f 43 && Nat.beq c 0 with | true => some qc2 | false => none)
theorem qup : EnvAll Tryz.prog qp2 := EnvAll.mk' tabs _ (qb trivial) (qa ⟨⟨qow, trivial⟩, trivial⟩)
noncomputable def qef : Env := (qp2).up 1000
theorem qwk : EnvAll Tryz.prog qef := EnvAll.up (qup) 1000
noncomputable def qgb : List Lp := [rfRec 12 0 Tryz.f12]
noncomputable def qc3 (rec : qhy → Option qhz) (n : Int) (v : Int) (v1 : Int) (o : Int) (v2 : ((List Int) × (Int × ((List Int) × Unit)))) (v3 : ((List Int) × (Int × ((List Int) × Unit)))) (v4 : Int) (v5 : ((List Int) × ((List Int) × ((List (List Int)) × Unit)))) (v6 : (List Int)) (v7 : Int) (v8 : (List Int)) : Option qhz :=
  cond' ((decide (v1 < v))) (
    cond' (decide (0 ≤ (1 : Int) ∧ (1 : Int) < ((v2.1.length : Nat) : Int))) (
    (qlg (n, v1, v, v1, (IntKind.i64.wrap ((v2.1.getD 1 (0 : Int)) - (1 : Int))), (0 : Int), o, v2, v3, v4, v5, v6, v7, v8, ())).bind fun y1 =>
    match y1 with
    | .inl a2 =>
      some (.inl (a2.1, a2.2.1, a2.2.2.1, a2.2.2.2.1, a2.2.2.2.2.1, a2.2.2.2.2.2.1, a2.2.2.2.2.2.2.1, ()))
    | .inr b3 =>
      rec (b3.1, b3.2.1, (IntKind.i64.wrap (b3.2.2.1 + (1 : Int))), b3.2.2.2.1, b3.2.2.2.2.1, b3.2.2.2.2.2.1, b3.2.2.2.2.2.2.1, b3.2.2.2.2.2.2.2.1, b3.2.2.2.2.2.2.2.2.1, b3.2.2.2.2.2.2.2.2.2.1, b3.2.2.2.2.2.2.2.2.2.2.1, ())) none) (
    some (.inr (o, v3, v4, v5, v6, v7, v8, ())))
noncomputable def qeu : Nat → qhy → Option qhz
  | 0, _ => none
  | n + 1, x => qc3 (qeu n) x.1 x.2.1 x.2.2.1 x.2.2.2.1 x.2.2.2.2.1 x.2.2.2.2.2.1 x.2.2.2.2.2.2.1 x.2.2.2.2.2.2.2.1 x.2.2.2.2.2.2.2.2.1 x.2.2.2.2.2.2.2.2.2.1 x.2.2.2.2.2.2.2.2.2.2.1
theorem qon (fu : Nat) (n : Int) (v : Int) (v1 : Int) (o : Int) (v2 : ((List Int) × (Int × ((List Int) × Unit)))) (v3 : ((List Int) × (Int × ((List Int) × Unit)))) (v4 : Int) (v5 : ((List Int) × ((List Int) × ((List (List Int)) × Unit)))) (v6 : (List Int)) (v7 : Int) (v8 : (List Int)) : qeu (fu + 1) (n, v, v1, o, v2, v3, v4, v5, v6, v7, v8, ()) = qc3 (qeu fu) n v v1 o v2 v3 v4 v5 v6 v7 v8 := rfl
theorem quq (fu : Nat) (n : Int) (v : Int) (v1 : Int) (o : Int) (v2 : ((List Int) × (Int × ((List Int) × Unit)))) (v3 : ((List Int) × (Int × ((List Int) × Unit)))) (v4 : Int) (v5 : ((List Int) × ((List Int) × ((List (List Int)) × Unit)))) (v6 : (List Int)) (v7 : Int) (v8 : (List Int)) : ev qef (fu + 1) 43 0 (.loop (loopAt Tryz.f43 0)) (qc2.enc qgb (n, v, v1, o, v2, v3, v4, v5, v6, v7, v8, ())) (exitD qgc) = qc3 (fun x => ev qef fu 43 0 (.loop (loopAt Tryz.f43 0)) (qc2.enc qgb x) (exitD qgc)) n v v1 o v2 v3 v4 v5 v6 v7 v8 := by kernel_rfl
theorem qxx (n : Nat) (x : qhy) : ev qef n 43 0 (.loop (loopAt Tryz.f43 0)) (qc2.enc qgb x) (exitD qgc) = qeu n x :=
  fuel_eq (f := fun n x => ev qef n 43 0 (.loop (loopAt Tryz.f43 0)) (qc2.enc qgb x) (exitD qgc)) (st := fun rec x => qc3 rec x.1 x.2.1 x.2.2.1 x.2.2.2.1 x.2.2.2.2.1 x.2.2.2.2.2.1 x.2.2.2.2.2.2.1 x.2.2.2.2.2.2.2.1 x.2.2.2.2.2.2.2.2.1 x.2.2.2.2.2.2.2.2.2.1 x.2.2.2.2.2.2.2.2.2.2.1) (fun _ => rfl) (fun n x => quq n x.1 x.2.1 x.2.2.1 x.2.2.2.1 x.2.2.2.2.1 x.2.2.2.2.2.1 x.2.2.2.2.2.2.1 x.2.2.2.2.2.2.2.1 x.2.2.2.2.2.2.2.2.1 x.2.2.2.2.2.2.2.2.2.1 x.2.2.2.2.2.2.2.2.2.2.1) qeu (fun _ => rfl) (fun _ _ => rfl) n x
def qlh : qhy → Option qhz
  | (n, v, v1, o, g, u0, u1, u2, u3, u4, u5, ()) => wh (okG3 g ∧ tgtP u5 ∧ v = ((aN g : Nat) : Int) ∧ v1 = 0 ∧ n = ((posN g (0) (0) (0) (0) : Nat) : Int)) (match scan (isHit g u5) (6 * ((aN g) * (bN g * cN g))) (posN g (0) (0) (0) (0)) with | some m => .inl (o, u0, (m : Int), tetN g m, (hitN g u5 m).1, (hitN g u5 m).2.1, u5, ()) | none => .inr (o, u0, u1, u2, u3, u4, u5, ()))
theorem qpc (g : GridT) (hg : okG3 g)  (o : Int) (u0 : GridT) (u1 : Int) (u2 : TetT) (u3 : List Int) (u4 : Int) (u5 : List Int) (htg : tgtP u5) : ∀ (d i : Nat), i + d = aN g →
    qeu (d + 1) ((((posN g (i) (0) (0) (0)) : Nat) : Int), ((aN g : Nat) : Int), (i : Int), o, g, u0, u1, u2, u3, u4, u5, ()) = some (match scan (isHit g u5) (6 * ((d) * (bN g * cN g))) (posN g (i) (0) (0) (0)) with | some m => .inl (o, u0, (m : Int), tetN g m, (hitN g u5 m).1, (hitN g u5 m).2.1, u5, ()) | none => .inr (o, u0, u1, u2, u3, u4, u5, ()))
  | 0, i, hq => by
    obtain rfl : i = aN g := by omega
    rw [qon]
    simp only [qc3]
    rw [cond'_neg (by omega)]
    rw [show 6 * ((0) * (bN g * cN g)) = 0 by rw [Nat.zero_mul]]; rfl
  | d + 1, i, hq => by
    have hN := gN hg
    have hBC : bN g * cN g ≤ 8 * 8 := Nat.mul_le_mul hN.2.1.2.2 hN.2.2.2.2
    have en : posN g i (bN g) 0 0 = posN g (i + 1) 0 0 0 := by
      unfold posN
      rw [show (i + 1) * bN g = i * bN g + bN g from Nat.succ_mul i (bN g), Nat.add_zero (i * bN g + bN g)]
    have hsteps : 6 * ((d + 1) * (bN g * cN g)) = 6 * (bN g * cN g) + 6 * ((d) * (bN g * cN g)) := by rw [Nat.add_mul d 1, Nat.one_mul]; omega
    have hpos : posN g (i) (0) (0) (0) + 6 * (bN g * cN g) = posN g (i + 1) (0) (0) (0) := by rw [← en]; unfold posN; rw [Nat.add_mul]; simp only [Nat.add_zero]; rw [Nat.add_mul]; omega
    have g1 : qlg ((((posN g (i) (0) (0) (0)) : Nat) : Int), (i : Int), ((aN g : Nat) : Int), (i : Int), ((bN g : Nat) : Int), (0 : Int), o, g, u0, u1, u2, u3, u4, u5, ()) = some (match scan (isHit g u5) (6 * (bN g * cN g)) (posN g (i) (0) (0) (0)) with | some m => .inl (o, u0, (m : Int), tetN g m, (hitN g u5 m).1, (hitN g u5 m).2.1, u5, ()) | none => .inr ((((posN g (i + 1) (0) (0) (0)) : Nat) : Int), ((aN g : Nat) : Int), (i : Int), o, g, u0, u1, u2, u3, u4, u5, ())) := by
      refine (wh_pos ⟨hg, ⟨by omega, by omega⟩, htg, rfl, rfl, rfl⟩).trans ?_
      simp only [Int.toNat_natCast]
      rw [en]
      all_goals rfl
    have ih := qpc g  hg  o u0 u1 u2 u3 u4 u5 htg d (i + 1) (by omega)
    rw [qon]
    simp only [qc3]
    rw [cond'_pos (by omega), cond'_pos (by have := hg.l; omega), w64 (x := g.1.getD 1 0 - 1) (by have := hg.s1; omega) (by have := hg.s1; omega), ← (gN hg).2.1.1, g1]
    rw [hsteps, scan_add]
    cases scan (isHit g u5) (6 * (bN g * cN g)) (posN g (i) (0) (0) (0)) with
    | some m => rfl
    | none =>
      simp only [Option.bind_some]
      rw [w64 (by omega) (by omega)]
      rw [hpos]
      exact ih
theorem qxy (x : qhy) (y : qhz) (h : qlh x = some y) : ∃ n, qeu n x = some y := by
  obtain ⟨n, v, v1, o, g, u0, u1, u2, u3, u4, u5, ⟨⟩⟩ := x
  obtain ⟨⟨hg, htg, h1, h2, h3⟩, rfl⟩ := wh_some h
  subst h1; subst h2; subst h3
  have hN := gN hg
  exact ⟨_, qpc g  hg   o u0 u1 u2 u3 u4 u5 htg _ 0 (by omega)⟩
noncomputable def qnl : LoopC := ⟨qc2, qgc, qlh⟩
theorem qox : LoopSpec Tryz.prog gl 43 0 qnl := qd (canon := qgb) (.cons (fun _ _ _ h => rfRec_eq (fn := Tryz.f12) Tryz.func12 (by kernel_rfl) h) .nil) (fun c hc x y h => by
  obtain rfl := loopAt_eq (fn := Tryz.f43) Tryz.func43 (by kernel_rfl) hc
  obtain ⟨n, hn⟩ := qxy x y h
  exact ⟨qef, n, rfl, qwk, (qxx n x).trans hn⟩)
noncomputable def qd5 : Shape := ⟨[.yld 0, .loc 0 [], .j, .dat (.int .i64), .dat (.int .i64), .dat (.int .i64), .j, .j, .j, .j, .j, .j, .j, .j, .j, .j, .j, .dat (.int .i64), .dat (.int .i64), .j, .j, .j, .j, .j, .j, .dat (.int .i64), .dat (.int .i64), .j, .j, .j, .j, .j, .j, .dat (.int .i64), .dat (.int .i64), .j, .j, .j, .j, .j, .j, .j, .j, .j, .j, .j, .j, .j, .j, .j, .j, .j, .j, .j, .j, .j, .j, .j, .j, .j, .j, .j, .j, .j, .j, .j, .j, .j, .j, .j, .j, .j, .j, .j, .j, .j, .j, .j, .j, .j, .j, .j, .j, .j, .j, .j, .j, .j, .j, .j, .j, .j, .j, .j, .j, .j, .j, .j, .j, .j, .j, .j, .j, .j], [[.j, .j, .j, .j, .dat (.int .i64), .dat (.int .i64), .j, .loc 1 [], .j, .j, .j, .j, .j, .j, .j, .j, .j, .j, .j, .j, .j, .j, .j, .j, .j, .j, .j, .j, .j, .j, .j, .j, .j, .j, .j, .j], []], [.box false (.dat (.prod (.slice (.int .i64)) (.prod (.int .i64) (.prod (.slice (.int .i64)) .unit)))), .box false (.dat (.int .i64)), .box false (.dat (.slice (.int .i64)))], [⟨14, 0, .ready, [.j, .j, .j, .loc 2 [], .j, .j, .j, .loc 1 [], .j, .j, .j, .j, .j, .j, .j, .j, .j, .j, .j, .j, .j, .j, .j, .j, .j, .j, .j, .j, .j, .j, .j, .j, .j, .j, .j, .j]⟩]⟩
noncomputable def qho : List (Ex × Shape) := [(.exit 4, ⟨[.yld 0, .loc 0 [], .j, .dat (.int .i64), .dat (.int .i64), .j, .j, .j, .j, .j, .j, .j, .j, .j, .j, .j, .j, .dat (.int .i64), .dat (.int .i64), .j, .j, .j, .j, .j, .j, .dat (.int .i64), .dat (.int .i64), .j, .j, .j, .j, .j, .j, .j, .j, .j, .j, .j, .j, .j, .j, .j, .j, .j, .j, .j, .j, .j, .j, .j, .j, .j, .j, .j, .j, .j, .j, .j, .j, .j, .j, .j, .j, .j, .j, .j, .j, .j, .j, .j, .j, .j, .j, .j, .j, .j, .j, .j, .j, .j, .j, .j, .j, .j, .j, .j, .j, .j, .j, .j, .j, .j, .j, .j, .j, .j, .j, .j, .j, .j, .j, .j, .j, .j], [[.j, .j, .j, .j, .dat (.int .i64), .dat (.int .i64), .j, .loc 1 [], .j, .j, .j, .j, .j, .j, .j, .j, .j, .j, .j, .j, .j, .j, .j, .j, .j, .j, .j, .j, .j, .j, .j, .j, .j, .j, .j, .j], []], [.box false (.dat (.prod (.slice (.int .i64)) (.prod (.int .i64) (.prod (.slice (.int .i64)) .unit)))), .box false (.dat (.int .i64)), .box false (.dat (.slice (.int .i64)))], [⟨14, 0, .ready, [.j, .j, .j, .loc 2 [], .j, .j, .j, .loc 1 [], .j, .j, .j, .j, .j, .j, .j, .j, .j, .j, .j, .j, .j, .j, .j, .j, .j, .j, .j, .j, .j, .j, .j, .j, .j, .j, .j, .j]⟩]⟩)]
abbrev qjd : Type := Int × Int × Int × Int × Int × Int × Int × Int × Int × Int × Int × ((List Int) × (Int × ((List Int) × Unit))) × Int × (List Int) × Unit
abbrev qje : Type := (Int × Int × Int × Int × Int × Int × Int × Int × ((List Int) × (Int × ((List Int) × Unit))) × Int × (List Int) × Unit)
noncomputable def qqr : Env := Env.mk' tyF fnF gl (lookT []) (lookL [(43, 6, [qn6, qni])]) (fun f c => match Nat.beq f 43 && Nat.beq c 4 with | true => some qd5 | false => none)
theorem qv9 : EnvAll Tryz.prog qqr := EnvAll.mk' tabs _ (qb trivial) (qa ⟨⟨qpl, ⟨qou, trivial⟩⟩, trivial⟩)
noncomputable def qfo : Env := (qqr).up 1000
theorem qxm : EnvAll Tryz.prog qfo := EnvAll.up (qv9) 1000
noncomputable def qhn : List Lp := [rfRec 14 0 Tryz.f14]
noncomputable def qd6 (rec : qjd → Option qje) (n : Int) (i : Int) (j : Int) (v : Int) (v1 : Int) (v2 : Int) (v3 : Int) (v4 : Int) (v5 : Int) (o : Int) (o1 : Int) (v6 : ((List Int) × (Int × ((List Int) × Unit)))) (v7 : Int) (v8 : (List Int)) : Option qje :=
  cond' ((decide (v5 < v4))) (
    (qmi (n, i, j, v5, v, v1, v2, v3, v4, v5, [[(0 : Int), (1 : Int), (2 : Int)], [(0 : Int), (2 : Int), (1 : Int)], [(1 : Int), (0 : Int), (2 : Int)], [(1 : Int), (2 : Int), (0 : Int)], [(2 : Int), (0 : Int), (1 : Int)], [(2 : Int), (1 : Int), (0 : Int)]], (0 : Int), o, o1, v6, v7, v8, ())).bind fun y1 =>
    rec (y1.1, y1.2.1, y1.2.2.1, y1.2.2.2.1, y1.2.2.2.2.1, y1.2.2.2.2.2.1, y1.2.2.2.2.2.2.1, y1.2.2.2.2.2.2.2.1, (IntKind.i64.wrap (y1.2.2.2.2.2.2.2.2.1 + (1 : Int))), y1.2.2.2.2.2.2.2.2.2.1, y1.2.2.2.2.2.2.2.2.2.2.1, y1.2.2.2.2.2.2.2.2.2.2.2.1, y1.2.2.2.2.2.2.2.2.2.2.2.2.1, y1.2.2.2.2.2.2.2.2.2.2.2.2.2.1, ())) (
    some (n, i, v, v1, v2, v3, o, o1, v6, v7, v8, ()))
noncomputable def qf2 : Nat → qjd → Option qje
  | 0, _ => none
  | n + 1, x => qd6 (qf2 n) x.1 x.2.1 x.2.2.1 x.2.2.2.1 x.2.2.2.2.1 x.2.2.2.2.2.1 x.2.2.2.2.2.2.1 x.2.2.2.2.2.2.2.1 x.2.2.2.2.2.2.2.2.1 x.2.2.2.2.2.2.2.2.2.1 x.2.2.2.2.2.2.2.2.2.2.1 x.2.2.2.2.2.2.2.2.2.2.2.1 x.2.2.2.2.2.2.2.2.2.2.2.2.1 x.2.2.2.2.2.2.2.2.2.2.2.2.2.1
theorem qo6 (fu : Nat) (n : Int) (i : Int) (j : Int) (v : Int) (v1 : Int) (v2 : Int) (v3 : Int) (v4 : Int) (v5 : Int) (o : Int) (o1 : Int) (v6 : ((List Int) × (Int × ((List Int) × Unit)))) (v7 : Int) (v8 : (List Int)) : qf2 (fu + 1) (n, i, j, v, v1, v2, v3, v4, v5, o, o1, v6, v7, v8, ()) = qd6 (qf2 fu) n i j v v1 v2 v3 v4 v5 o o1 v6 v7 v8 := rfl
theorem qwa (fu : Nat) (n : Int) (i : Int) (j : Int) (v : Int) (v1 : Int) (v2 : Int) (v3 : Int) (v4 : Int) (v5 : Int) (o : Int) (o1 : Int) (v6 : ((List Int) × (Int × ((List Int) × Unit)))) (v7 : Int) (v8 : (List Int)) : ev qfo (fu + 1) 43 4 (.loop (loopAt Tryz.f43 4)) (qd5.enc qhn (n, i, j, v, v1, v2, v3, v4, v5, o, o1, v6, v7, v8, ())) (exitD qho) = qd6 (fun x => ev qfo fu 43 4 (.loop (loopAt Tryz.f43 4)) (qd5.enc qhn x) (exitD qho)) n i j v v1 v2 v3 v4 v5 o o1 v6 v7 v8 := by kernel_rfl
theorem qzh (n : Nat) (x : qjd) : ev qfo n 43 4 (.loop (loopAt Tryz.f43 4)) (qd5.enc qhn x) (exitD qho) = qf2 n x :=
  fuel_eq (f := fun n x => ev qfo n 43 4 (.loop (loopAt Tryz.f43 4)) (qd5.enc qhn x) (exitD qho)) (st := fun rec x => qd6 rec x.1 x.2.1 x.2.2.1 x.2.2.2.1 x.2.2.2.2.1 x.2.2.2.2.2.1 x.2.2.2.2.2.2.1 x.2.2.2.2.2.2.2.1 x.2.2.2.2.2.2.2.2.1 x.2.2.2.2.2.2.2.2.2.1 x.2.2.2.2.2.2.2.2.2.2.1 x.2.2.2.2.2.2.2.2.2.2.2.1 x.2.2.2.2.2.2.2.2.2.2.2.2.1 x.2.2.2.2.2.2.2.2.2.2.2.2.2.1) (fun _ => rfl) (fun n x => qwa n x.1 x.2.1 x.2.2.1 x.2.2.2.1 x.2.2.2.2.1 x.2.2.2.2.2.1 x.2.2.2.2.2.2.1 x.2.2.2.2.2.2.2.1 x.2.2.2.2.2.2.2.2.1 x.2.2.2.2.2.2.2.2.2.1 x.2.2.2.2.2.2.2.2.2.2.1 x.2.2.2.2.2.2.2.2.2.2.2.1 x.2.2.2.2.2.2.2.2.2.2.2.2.1 x.2.2.2.2.2.2.2.2.2.2.2.2.2.1) qf2 (fun _ => rfl) (fun _ _ => rfl) n x
def qmj : qjd → Option qje
  | (n, i, j, v, v1, v2, v3, v4, v5, o, o1, g, u0, u1, ()) => wh (okG3 g ∧ (0 ≤ i ∧ i < aN g) ∧ (0 ≤ j ∧ j < bN g) ∧ tgtP u1 ∧ v4 = ((cN g : Nat) : Int) ∧ v5 = 0 ∧ n = ((posN g (i.toNat) (j.toNat) (0) (0) : Nat) : Int) ∧ 0 ≤ u0 ∧ u0 ≤ 900000) (((posN g (i.toNat) (j.toNat) (cN g) (0) : Nat) : Int), i, v, v1, v2, v3, o, o1, g, u0 + (cnt (isHit g u1) (6 * (cN g)) (posN g (i.toNat) (j.toNat) (0) (0)) : Nat), u1, ())
theorem qpu (g : GridT) (i j : Nat) (hg : okG3 g) (hi : i < aN g) (hj : j < bN g) (v v1 v2 v3 : Int) (o : Int) (o1 : Int) (u1 : List Int) (htg : tgtP u1) : ∀ (d k : Nat) (u0 : Int), k + d = cN g → 0 ≤ u0 → u0 + 6 * d ≤ 950000 →
    qf2 (d + 1) ((((posN g (i) (j) (k) (0)) : Nat) : Int), (i : Int), (j : Int), v, v1, v2, v3, ((cN g : Nat) : Int), (k : Int), o, o1, g, u0, u1, ()) = some (((posN g (i) (j) (cN g) (0) : Nat) : Int), (i : Int), v, v1, v2, v3, o, o1, g, u0 + (cnt (isHit g u1) (6 * (d)) (posN g (i) (j) (k) (0)) : Nat), u1, ())
  | 0, k, u0, hq, hu0, hu1 => by
    obtain rfl : k = cN g := by omega
    rw [qo6]
    simp only [qd6]
    rw [cond'_neg (by omega)]
    simp only [cnt]
    have e0 : u0 + ((0 : Nat) : Int) = u0 := by omega
    rw [e0]
  | d + 1, k, u0, hq, hu0, hu1 => by
    have hN := gN hg
    have hBC : bN g * cN g ≤ 8 * 8 := Nat.mul_le_mul hN.2.1.2.2 hN.2.2.2.2
    have en : posN g i j k 6 = posN g i j (k + 1) 0 := by unfold posN; omega
    have hsteps : 6 * (d + 1) = 6 + 6 * (d) := by omega
    have hpos : posN g (i) (j) (k) (0) + 6 = posN g (i) (j) (k + 1) (0) := by unfold posN; omega
    have g1 : qmi ((((posN g (i) (j) (k) (0)) : Nat) : Int), (i : Int), (j : Int), (k : Int), v, v1, v2, v3, ((cN g : Nat) : Int), (k : Int), ords, (0 : Int), o, o1, g, u0, u1, ()) = some ((((posN g (i) (j) (k + 1) (0)) : Nat) : Int), (i : Int), (j : Int), v, v1, v2, v3, ((cN g : Nat) : Int), (k : Int), o, o1, g, u0 + (cnt (isHit g u1) (6) (posN g (i) (j) (k) (0)) : Nat), u1, ()) := by
      refine (wh_pos ⟨hg, ⟨by omega, by omega⟩, ⟨by omega, by omega⟩, ⟨by omega, by omega⟩, htg, rfl, rfl, rfl, by omega, by omega⟩).trans ?_
      simp only [Int.toNat_natCast]
      rw [en]
      all_goals rfl
    have hcl := cnt_le (isHit g u1) (6) (posN g (i) (j) (k) (0))
    have ih := qpu g i j hg hi hj v v1 v2 v3 o o1 u1 htg d (k + 1) (u0 + (cnt (isHit g u1) (6) (posN g (i) (j) (k) (0)) : Nat)) (by omega) (by omega) (by omega)
    rw [qo6]
    simp only [qd6]
    rw [cond'_pos (by omega), g1]
    simp only [Option.bind_some]
    rw [w64 (by omega) (by omega), hsteps, cnt_add]
    refine ih.trans ?_
    rw [hpos]
    have e1 : ∀ a b : Nat, u0 + (a : Int) + (b : Int) = u0 + ((a + b : Nat) : Int) := fun a b => by omega
    rw [e1]
theorem qzi (x : qjd) (y : qje) (h : qmj x = some y) : ∃ n, qf2 n x = some y := by
  obtain ⟨n, i, j, v, v1, v2, v3, v4, v5, o, o1, g, u0, u1, ⟨⟩⟩ := x
  obtain ⟨⟨hg, ⟨hi, hi2⟩, ⟨hj, hj2⟩, htg, h1, h2, h3, hu0, hu1⟩, rfl⟩ := wh_some h
  obtain ⟨i, rfl⟩ := Int.eq_ofNat_of_zero_le hi
  obtain ⟨j, rfl⟩ := Int.eq_ofNat_of_zero_le hj
  simp only [Int.toNat_natCast] at h3 ⊢
  subst h1; subst h2; subst h3
  have hN := gN hg
  exact ⟨_, qpu g i j hg (by omega) (by omega) v v1 v2 v3 o o1 u1 htg _ 0 u0 (by omega) hu0 (by omega)⟩
noncomputable def qr4 : LoopC := ⟨qd5, qho, qmj⟩
theorem qwv : LoopSpec Tryz.prog gl 43 4 qr4 := qd (canon := qhn) (.cons (fun _ _ _ h => rfRec_eq (fn := Tryz.f14) Tryz.func14 (by kernel_rfl) h) .nil) (fun c hc x y h => by
  obtain rfl := loopAt_eq (fn := Tryz.f43) Tryz.func43 (by kernel_rfl) hc
  obtain ⟨n, hn⟩ := qzi x y h
  exact ⟨qfo, n, rfl, qxm, (qzh n x).trans hn⟩)
noncomputable def qd7 : Shape := ⟨[.yld 0, .loc 0 [], .j, .dat (.int .i64), .dat (.int .i64), .j, .j, .j, .j, .j, .j, .j, .j, .j, .j, .j, .j, .dat (.int .i64), .dat (.int .i64), .j, .j, .j, .j, .j, .j, .dat (.int .i64), .dat (.int .i64), .j, .j, .j, .j, .j, .j, .j, .j, .j, .j, .j, .j, .j, .j, .j, .j, .j, .j, .j, .j, .j, .j, .j, .j, .j, .j, .j, .j, .j, .j, .j, .j, .j, .j, .j, .j, .j, .j, .j, .j, .j, .j, .j, .j, .j, .j, .j, .j, .j, .j, .j, .j, .j, .j, .j, .j, .j, .j, .j, .j, .j, .j, .j, .j, .j, .j, .j, .j, .j, .j, .j, .j, .j, .j, .j, .j, .j], [[.j, .j, .j, .j, .dat (.int .i64), .dat (.int .i64), .j, .loc 1 [], .j, .j, .j, .j, .j, .j, .j, .j, .j, .j, .j, .j, .j, .j, .j, .j, .j, .j, .j, .j, .j, .j, .j, .j, .j, .j, .j, .j], []], [.box false (.dat (.prod (.slice (.int .i64)) (.prod (.int .i64) (.prod (.slice (.int .i64)) .unit)))), .box false (.dat (.int .i64)), .box false (.dat (.slice (.int .i64)))], [⟨14, 0, .ready, [.j, .j, .j, .loc 2 [], .j, .j, .j, .loc 1 [], .j, .j, .j, .j, .j, .j, .j, .j, .j, .j, .j, .j, .j, .j, .j, .j, .j, .j, .j, .j, .j, .j, .j, .j, .j, .j, .j, .j]⟩]⟩
noncomputable def qhq : List (Ex × Shape) := [(.exit 2, ⟨[.yld 0, .loc 0 [], .j, .dat (.int .i64), .j, .j, .j, .j, .j, .j, .j, .j, .j, .j, .j, .j, .j, .dat (.int .i64), .dat (.int .i64), .j, .j, .j, .j, .j, .j, .j, .j, .j, .j, .j, .j, .j, .j, .j, .j, .j, .j, .j, .j, .j, .j, .j, .j, .j, .j, .j, .j, .j, .j, .j, .j, .j, .j, .j, .j, .j, .j, .j, .j, .j, .j, .j, .j, .j, .j, .j, .j, .j, .j, .j, .j, .j, .j, .j, .j, .j, .j, .j, .j, .j, .j, .j, .j, .j, .j, .j, .j, .j, .j, .j, .j, .j, .j, .j, .j, .j, .j, .j, .j, .j, .j, .j, .j, .j], [[.j, .j, .j, .j, .dat (.int .i64), .dat (.int .i64), .j, .loc 1 [], .j, .j, .j, .j, .j, .j, .j, .j, .j, .j, .j, .j, .j, .j, .j, .j, .j, .j, .j, .j, .j, .j, .j, .j, .j, .j, .j, .j], []], [.box false (.dat (.prod (.slice (.int .i64)) (.prod (.int .i64) (.prod (.slice (.int .i64)) .unit)))), .box false (.dat (.int .i64)), .box false (.dat (.slice (.int .i64)))], [⟨14, 0, .ready, [.j, .j, .j, .loc 2 [], .j, .j, .j, .loc 1 [], .j, .j, .j, .j, .j, .j, .j, .j, .j, .j, .j, .j, .j, .j, .j, .j, .j, .j, .j, .j, .j, .j, .j, .j, .j, .j, .j, .j]⟩]⟩)]
abbrev qjf : Type := Int × Int × Int × Int × Int × Int × Int × Int × ((List Int) × (Int × ((List Int) × Unit))) × Int × (List Int) × Unit
abbrev qjg : Type := (Int × Int × Int × Int × Int × ((List Int) × (Int × ((List Int) × Unit))) × Int × (List Int) × Unit)
noncomputable def qqs : Env := Env.mk' tyF fnF gl (lookT []) (lookL [(43, 4, [qr4, qnj])]) (fun f c => match Nat.beq f 43 && Nat.beq c 2 with | true => some qd7 | false => none)
theorem qwb : EnvAll Tryz.prog qqs := EnvAll.mk' tabs _ (qb trivial) (qa ⟨⟨qwv, ⟨qov, trivial⟩⟩, trivial⟩)
noncomputable def qfp : Env := (qqs).up 1000
theorem qxn : EnvAll Tryz.prog qfp := EnvAll.up (qwb) 1000
noncomputable def qhp : List Lp := [rfRec 14 0 Tryz.f14]
noncomputable def qd8 (rec : qjf → Option qjg) (n : Int) (i : Int) (v : Int) (v1 : Int) (v2 : Int) (v3 : Int) (o : Int) (o1 : Int) (v4 : ((List Int) × (Int × ((List Int) × Unit)))) (v5 : Int) (v6 : (List Int)) : Option qjg :=
  cond' ((decide (v3 < v2))) (
    cond' (decide (0 ≤ (2 : Int) ∧ (2 : Int) < ((v4.1.length : Nat) : Int))) (
    (qmj (n, i, v3, v, v1, v2, v3, (IntKind.i64.wrap ((v4.1.getD 2 (0 : Int)) - (1 : Int))), (0 : Int), o, o1, v4, v5, v6, ())).bind fun y1 =>
    rec (y1.1, y1.2.1, y1.2.2.1, y1.2.2.2.1, y1.2.2.2.2.1, (IntKind.i64.wrap (y1.2.2.2.2.2.1 + (1 : Int))), y1.2.2.2.2.2.2.1, y1.2.2.2.2.2.2.2.1, y1.2.2.2.2.2.2.2.2.1, y1.2.2.2.2.2.2.2.2.2.1, y1.2.2.2.2.2.2.2.2.2.2.1, ())) none) (
    some (n, v, v1, o, o1, v4, v5, v6, ()))
noncomputable def qf3 : Nat → qjf → Option qjg
  | 0, _ => none
  | n + 1, x => qd8 (qf3 n) x.1 x.2.1 x.2.2.1 x.2.2.2.1 x.2.2.2.2.1 x.2.2.2.2.2.1 x.2.2.2.2.2.2.1 x.2.2.2.2.2.2.2.1 x.2.2.2.2.2.2.2.2.1 x.2.2.2.2.2.2.2.2.2.1 x.2.2.2.2.2.2.2.2.2.2.1
theorem qo7 (fu : Nat) (n : Int) (i : Int) (v : Int) (v1 : Int) (v2 : Int) (v3 : Int) (o : Int) (o1 : Int) (v4 : ((List Int) × (Int × ((List Int) × Unit)))) (v5 : Int) (v6 : (List Int)) : qf3 (fu + 1) (n, i, v, v1, v2, v3, o, o1, v4, v5, v6, ()) = qd8 (qf3 fu) n i v v1 v2 v3 o o1 v4 v5 v6 := rfl
theorem qwc (fu : Nat) (n : Int) (i : Int) (v : Int) (v1 : Int) (v2 : Int) (v3 : Int) (o : Int) (o1 : Int) (v4 : ((List Int) × (Int × ((List Int) × Unit)))) (v5 : Int) (v6 : (List Int)) : ev qfp (fu + 1) 43 2 (.loop (loopAt Tryz.f43 2)) (qd7.enc qhp (n, i, v, v1, v2, v3, o, o1, v4, v5, v6, ())) (exitD qhq) = qd8 (fun x => ev qfp fu 43 2 (.loop (loopAt Tryz.f43 2)) (qd7.enc qhp x) (exitD qhq)) n i v v1 v2 v3 o o1 v4 v5 v6 := by kernel_rfl
theorem qzj (n : Nat) (x : qjf) : ev qfp n 43 2 (.loop (loopAt Tryz.f43 2)) (qd7.enc qhp x) (exitD qhq) = qf3 n x :=
  fuel_eq (f := fun n x => ev qfp n 43 2 (.loop (loopAt Tryz.f43 2)) (qd7.enc qhp x) (exitD qhq)) (st := fun rec x => qd8 rec x.1 x.2.1 x.2.2.1 x.2.2.2.1 x.2.2.2.2.1 x.2.2.2.2.2.1 x.2.2.2.2.2.2.1 x.2.2.2.2.2.2.2.1 x.2.2.2.2.2.2.2.2.1 x.2.2.2.2.2.2.2.2.2.1 x.2.2.2.2.2.2.2.2.2.2.1) (fun _ => rfl) (fun n x => qwc n x.1 x.2.1 x.2.2.1 x.2.2.2.1 x.2.2.2.2.1 x.2.2.2.2.2.1 x.2.2.2.2.2.2.1 x.2.2.2.2.2.2.2.1 x.2.2.2.2.2.2.2.2.1 x.2.2.2.2.2.2.2.2.2.1 x.2.2.2.2.2.2.2.2.2.2.1) qf3 (fun _ => rfl) (fun _ _ => rfl) n x
def qmk : qjf → Option qjg
  | (n, i, v, v1, v2, v3, o, o1, g, u0, u1, ()) => wh (okG3 g ∧ (0 ≤ i ∧ i < aN g) ∧ tgtP u1 ∧ v2 = ((bN g : Nat) : Int) ∧ v3 = 0 ∧ n = ((posN g (i.toNat) (0) (0) (0) : Nat) : Int) ∧ 0 ≤ u0 ∧ u0 ≤ 800000) (((posN g (i.toNat) (bN g) (0) (0) : Nat) : Int), v, v1, o, o1, g, u0 + (cnt (isHit g u1) (6 * ((bN g) * cN g)) (posN g (i.toNat) (0) (0) (0)) : Nat), u1, ())
theorem qpv (g : GridT) (i : Nat) (hg : okG3 g) (hi : i < aN g) (v v1 : Int) (o : Int) (o1 : Int) (u1 : List Int) (htg : tgtP u1) : ∀ (d j : Nat) (u0 : Int), j + d = bN g → 0 ≤ u0 → u0 + 48 * d ≤ 850000 →
    qf3 (d + 1) ((((posN g (i) (j) (0) (0)) : Nat) : Int), (i : Int), v, v1, ((bN g : Nat) : Int), (j : Int), o, o1, g, u0, u1, ()) = some (((posN g (i) (bN g) (0) (0) : Nat) : Int), v, v1, o, o1, g, u0 + (cnt (isHit g u1) (6 * ((d) * cN g)) (posN g (i) (j) (0) (0)) : Nat), u1, ())
  | 0, j, u0, hq, hu0, hu1 => by
    obtain rfl : j = bN g := by omega
    rw [qo7]
    simp only [qd8]
    rw [cond'_neg (by omega)]
    rw [show 6 * ((0) * cN g) = 0 by rw [Nat.zero_mul]]
    simp only [cnt]
    have e0 : u0 + ((0 : Nat) : Int) = u0 := by omega
    rw [e0]
  | d + 1, j, u0, hq, hu0, hu1 => by
    have hN := gN hg
    have hBC : bN g * cN g ≤ 8 * 8 := Nat.mul_le_mul hN.2.1.2.2 hN.2.2.2.2
    have en : posN g i j (cN g) 0 = posN g i (j + 1) 0 0 := by
      unfold posN
      have := Nat.succ_mul (i * bN g + j) (cN g)
      rw [show i * bN g + (j + 1) = (i * bN g + j).succ from rfl, this]
      omega
    have hsteps : 6 * ((d + 1) * cN g) = 6 * (cN g) + 6 * ((d) * cN g) := by rw [Nat.add_mul d 1, Nat.one_mul]; omega
    have hpos : posN g (i) (j) (0) (0) + 6 * (cN g) = posN g (i) (j + 1) (0) (0) := by rw [← en]; unfold posN; omega
    have g1 : qmj ((((posN g (i) (j) (0) (0)) : Nat) : Int), (i : Int), (j : Int), v, v1, ((bN g : Nat) : Int), (j : Int), ((cN g : Nat) : Int), (0 : Int), o, o1, g, u0, u1, ()) = some ((((posN g (i) (j + 1) (0) (0)) : Nat) : Int), (i : Int), v, v1, ((bN g : Nat) : Int), (j : Int), o, o1, g, u0 + (cnt (isHit g u1) (6 * (cN g)) (posN g (i) (j) (0) (0)) : Nat), u1, ()) := by
      refine (wh_pos ⟨hg, ⟨by omega, by omega⟩, ⟨by omega, by omega⟩, htg, rfl, rfl, rfl, by omega, by omega⟩).trans ?_
      simp only [Int.toNat_natCast]
      rw [en]
      all_goals rfl
    have hcl := cnt_le (isHit g u1) (6 * (cN g)) (posN g (i) (j) (0) (0))
    have ih := qpv g i hg hi v v1 o o1 u1 htg d (j + 1) (u0 + (cnt (isHit g u1) (6 * (cN g)) (posN g (i) (j) (0) (0)) : Nat)) (by omega) (by omega) (by omega)
    rw [qo7]
    simp only [qd8]
    rw [cond'_pos (by omega), cond'_pos (by have := hg.l; omega), w64 (x := g.1.getD 2 0 - 1) (by have := hg.s2; omega) (by have := hg.s2; omega), ← (gN hg).2.2.1, g1]
    simp only [Option.bind_some]
    rw [w64 (by omega) (by omega), hsteps, cnt_add]
    refine ih.trans ?_
    rw [hpos]
    have e1 : ∀ a b : Nat, u0 + (a : Int) + (b : Int) = u0 + ((a + b : Nat) : Int) := fun a b => by omega
    rw [e1]
theorem qzk (x : qjf) (y : qjg) (h : qmk x = some y) : ∃ n, qf3 n x = some y := by
  obtain ⟨n, i, v, v1, v2, v3, o, o1, g, u0, u1, ⟨⟩⟩ := x
  obtain ⟨⟨hg, ⟨hi, hi2⟩, htg, h1, h2, h3, hu0, hu1⟩, rfl⟩ := wh_some h
  obtain ⟨i, rfl⟩ := Int.eq_ofNat_of_zero_le hi
  simp only [Int.toNat_natCast] at h3 ⊢
  subst h1; subst h2; subst h3
  have hN := gN hg
  exact ⟨_, qpv g i hg (by omega) v v1 o o1 u1 htg _ 0 u0 (by omega) hu0 (by omega)⟩
noncomputable def qr5 : LoopC := ⟨qd7, qhq, qmk⟩
theorem qww : LoopSpec Tryz.prog gl 43 2 qr5 := qd (canon := qhp) (.cons (fun _ _ _ h => rfRec_eq (fn := Tryz.f14) Tryz.func14 (by kernel_rfl) h) .nil) (fun c hc x y h => by
  obtain rfl := loopAt_eq (fn := Tryz.f43) Tryz.func43 (by kernel_rfl) hc
  obtain ⟨n, hn⟩ := qzk x y h
  exact ⟨qfp, n, rfl, qxn, (qzj n x).trans hn⟩)
noncomputable def qd9 : Shape := ⟨[.yld 0, .loc 0 [], .j, .dat (.int .i64), .j, .j, .j, .j, .j, .j, .j, .j, .j, .j, .j, .j, .j, .dat (.int .i64), .dat (.int .i64), .j, .j, .j, .j, .j, .j, .j, .j, .j, .j, .j, .j, .j, .j, .j, .j, .j, .j, .j, .j, .j, .j, .j, .j, .j, .j, .j, .j, .j, .j, .j, .j, .j, .j, .j, .j, .j, .j, .j, .j, .j, .j, .j, .j, .j, .j, .j, .j, .j, .j, .j, .j, .j, .j, .j, .j, .j, .j, .j, .j, .j, .j, .j, .j, .j, .j, .j, .j, .j, .j, .j, .j, .j, .j, .j, .j, .j, .j, .j, .j, .j, .j, .j, .j, .j], [[.j, .j, .j, .j, .dat (.int .i64), .dat (.int .i64), .j, .loc 1 [], .j, .j, .j, .j, .j, .j, .j, .j, .j, .j, .j, .j, .j, .j, .j, .j, .j, .j, .j, .j, .j, .j, .j, .j, .j, .j, .j, .j], []], [.box false (.dat (.prod (.slice (.int .i64)) (.prod (.int .i64) (.prod (.slice (.int .i64)) .unit)))), .box false (.dat (.int .i64)), .box false (.dat (.slice (.int .i64)))], [⟨14, 0, .ready, [.j, .j, .j, .loc 2 [], .j, .j, .j, .loc 1 [], .j, .j, .j, .j, .j, .j, .j, .j, .j, .j, .j, .j, .j, .j, .j, .j, .j, .j, .j, .j, .j, .j, .j, .j, .j, .j, .j, .j]⟩]⟩
noncomputable def qhs : List (Ex × Shape) := [(.exit 0, ⟨[.j, .j, .j, .j, .j, .j, .j, .j, .j, .j, .j, .j, .j, .j, .j, .j, .j, .j, .j, .j, .j, .j, .j, .j, .j, .j, .j, .j, .j, .j, .j, .j, .j, .j, .j, .j, .j, .j, .j, .j, .j, .j, .j, .j, .j, .j, .j, .j, .j, .j, .j, .j, .j, .j, .j, .j, .j, .j, .j, .j, .j, .j, .j, .j, .j, .j, .j, .j, .j, .j, .j, .j, .j, .j, .j, .j, .j, .j, .j, .j, .j, .j, .j, .j, .j, .j, .j, .j, .j, .j, .j, .j, .j, .j, .j, .j, .j, .j, .j, .j, .j, .j, .j, .j], [[.j, .j, .j, .j, .dat (.int .i64), .dat (.int .i64), .j, .loc 0 [], .j, .j, .j, .j, .j, .j, .j, .j, .j, .j, .j, .j, .j, .j, .j, .j, .j, .j, .j, .j, .j, .j, .j, .j, .j, .j, .j, .j], []], [.box false (.dat (.int .i64)), .box false (.dat (.slice (.int .i64)))], [⟨14, 0, .ready, [.j, .j, .j, .loc 1 [], .j, .j, .j, .loc 0 [], .j, .j, .j, .j, .j, .j, .j, .j, .j, .j, .j, .j, .j, .j, .j, .j, .j, .j, .j, .j, .j, .j, .j, .j, .j, .j, .j, .j]⟩]⟩)]
abbrev qjh : Type := Int × Int × Int × Int × Int × ((List Int) × (Int × ((List Int) × Unit))) × Int × (List Int) × Unit
abbrev qji : Type := (Int × Int × Int × (List Int) × Unit)
noncomputable def qqt : Env := Env.mk' tyF fnF gl (lookT []) (lookL [(43, 2, [qr5, qnk])]) (fun f c => match Nat.beq f 43 && Nat.beq c 0 with | true => some qd9 | false => none)
theorem qwd : EnvAll Tryz.prog qqt := EnvAll.mk' tabs _ (qb trivial) (qa ⟨⟨qww, ⟨qow, trivial⟩⟩, trivial⟩)
noncomputable def qfq : Env := (qqt).up 1000
theorem qxo : EnvAll Tryz.prog qfq := EnvAll.up (qwd) 1000
noncomputable def qhr : List Lp := [rfRec 14 0 Tryz.f14]
noncomputable def qea (rec : qjh → Option qji) (n : Int) (v : Int) (v1 : Int) (o : Int) (o1 : Int) (v2 : ((List Int) × (Int × ((List Int) × Unit)))) (v3 : Int) (v4 : (List Int)) : Option qji :=
  cond' ((decide (v1 < v))) (
    cond' (decide (0 ≤ (1 : Int) ∧ (1 : Int) < ((v2.1.length : Nat) : Int))) (
    (qmk (n, v1, v, v1, (IntKind.i64.wrap ((v2.1.getD 1 (0 : Int)) - (1 : Int))), (0 : Int), o, o1, v2, v3, v4, ())).bind fun y1 =>
    rec (y1.1, y1.2.1, (IntKind.i64.wrap (y1.2.2.1 + (1 : Int))), y1.2.2.2.1, y1.2.2.2.2.1, y1.2.2.2.2.2.1, y1.2.2.2.2.2.2.1, y1.2.2.2.2.2.2.2.1, ())) none) (
    some (o, o1, v3, v4, ()))
noncomputable def qf4 : Nat → qjh → Option qji
  | 0, _ => none
  | n + 1, x => qea (qf4 n) x.1 x.2.1 x.2.2.1 x.2.2.2.1 x.2.2.2.2.1 x.2.2.2.2.2.1 x.2.2.2.2.2.2.1 x.2.2.2.2.2.2.2.1
theorem qo8 (fu : Nat) (n : Int) (v : Int) (v1 : Int) (o : Int) (o1 : Int) (v2 : ((List Int) × (Int × ((List Int) × Unit)))) (v3 : Int) (v4 : (List Int)) : qf4 (fu + 1) (n, v, v1, o, o1, v2, v3, v4, ()) = qea (qf4 fu) n v v1 o o1 v2 v3 v4 := rfl
theorem qwe (fu : Nat) (n : Int) (v : Int) (v1 : Int) (o : Int) (o1 : Int) (v2 : ((List Int) × (Int × ((List Int) × Unit)))) (v3 : Int) (v4 : (List Int)) : ev qfq (fu + 1) 43 0 (.loop (loopAt Tryz.f43 0)) (qd9.enc qhr (n, v, v1, o, o1, v2, v3, v4, ())) (exitD qhs) = qea (fun x => ev qfq fu 43 0 (.loop (loopAt Tryz.f43 0)) (qd9.enc qhr x) (exitD qhs)) n v v1 o o1 v2 v3 v4 := by kernel_rfl
theorem qzl (n : Nat) (x : qjh) : ev qfq n 43 0 (.loop (loopAt Tryz.f43 0)) (qd9.enc qhr x) (exitD qhs) = qf4 n x :=
  fuel_eq (f := fun n x => ev qfq n 43 0 (.loop (loopAt Tryz.f43 0)) (qd9.enc qhr x) (exitD qhs)) (st := fun rec x => qea rec x.1 x.2.1 x.2.2.1 x.2.2.2.1 x.2.2.2.2.1 x.2.2.2.2.2.1 x.2.2.2.2.2.2.1 x.2.2.2.2.2.2.2.1) (fun _ => rfl) (fun n x => qwe n x.1 x.2.1 x.2.2.1 x.2.2.2.1 x.2.2.2.2.1 x.2.2.2.2.2.1 x.2.2.2.2.2.2.1 x.2.2.2.2.2.2.2.1) qf4 (fun _ => rfl) (fun _ _ => rfl) n x
def qml : qjh → Option qji
  | (n, v, v1, o, o1, g, u0, u1, ()) => wh (okG3 g ∧ tgtP u1 ∧ v = ((aN g : Nat) : Int) ∧ v1 = 0 ∧ n = ((posN g (0) (0) (0) (0) : Nat) : Int) ∧ 0 ≤ u0 ∧ u0 ≤ 700000) (o, o1, u0 + (cnt (isHit g u1) (6 * ((aN g) * (bN g * cN g))) (posN g (0) (0) (0) (0)) : Nat), u1, ())
theorem qpw (g : GridT) (hg : okG3 g)  (o : Int) (o1 : Int) (u1 : List Int) (htg : tgtP u1) : ∀ (d i : Nat) (u0 : Int), i + d = aN g → 0 ≤ u0 → u0 + 384 * d ≤ 750000 →
    qf4 (d + 1) ((((posN g (i) (0) (0) (0)) : Nat) : Int), ((aN g : Nat) : Int), (i : Int), o, o1, g, u0, u1, ()) = some (o, o1, u0 + (cnt (isHit g u1) (6 * ((d) * (bN g * cN g))) (posN g (i) (0) (0) (0)) : Nat), u1, ())
  | 0, i, u0, hq, hu0, hu1 => by
    obtain rfl : i = aN g := by omega
    rw [qo8]
    simp only [qea]
    rw [cond'_neg (by omega)]
    rw [show 6 * ((0) * (bN g * cN g)) = 0 by rw [Nat.zero_mul]]
    simp only [cnt]
    have e0 : u0 + ((0 : Nat) : Int) = u0 := by omega
    rw [e0]
  | d + 1, i, u0, hq, hu0, hu1 => by
    have hN := gN hg
    have hBC : bN g * cN g ≤ 8 * 8 := Nat.mul_le_mul hN.2.1.2.2 hN.2.2.2.2
    have en : posN g i (bN g) 0 0 = posN g (i + 1) 0 0 0 := by
      unfold posN
      rw [show (i + 1) * bN g = i * bN g + bN g from Nat.succ_mul i (bN g), Nat.add_zero (i * bN g + bN g)]
    have hsteps : 6 * ((d + 1) * (bN g * cN g)) = 6 * (bN g * cN g) + 6 * ((d) * (bN g * cN g)) := by rw [Nat.add_mul d 1, Nat.one_mul]; omega
    have hpos : posN g (i) (0) (0) (0) + 6 * (bN g * cN g) = posN g (i + 1) (0) (0) (0) := by rw [← en]; unfold posN; rw [Nat.add_mul]; simp only [Nat.add_zero]; rw [Nat.add_mul]; omega
    have g1 : qmk ((((posN g (i) (0) (0) (0)) : Nat) : Int), (i : Int), ((aN g : Nat) : Int), (i : Int), ((bN g : Nat) : Int), (0 : Int), o, o1, g, u0, u1, ()) = some ((((posN g (i + 1) (0) (0) (0)) : Nat) : Int), ((aN g : Nat) : Int), (i : Int), o, o1, g, u0 + (cnt (isHit g u1) (6 * (bN g * cN g)) (posN g (i) (0) (0) (0)) : Nat), u1, ()) := by
      refine (wh_pos ⟨hg, ⟨by omega, by omega⟩, htg, rfl, rfl, rfl, by omega, by omega⟩).trans ?_
      simp only [Int.toNat_natCast]
      rw [en]
      all_goals rfl
    have hcl := cnt_le (isHit g u1) (6 * (bN g * cN g)) (posN g (i) (0) (0) (0))
    have ih := qpw g  hg  o o1 u1 htg d (i + 1) (u0 + (cnt (isHit g u1) (6 * (bN g * cN g)) (posN g (i) (0) (0) (0)) : Nat)) (by omega) (by omega) (by omega)
    rw [qo8]
    simp only [qea]
    rw [cond'_pos (by omega), cond'_pos (by have := hg.l; omega), w64 (x := g.1.getD 1 0 - 1) (by have := hg.s1; omega) (by have := hg.s1; omega), ← (gN hg).2.1.1, g1]
    simp only [Option.bind_some]
    rw [w64 (by omega) (by omega), hsteps, cnt_add]
    refine ih.trans ?_
    rw [hpos]
    have e1 : ∀ a b : Nat, u0 + (a : Int) + (b : Int) = u0 + ((a + b : Nat) : Int) := fun a b => by omega
    rw [e1]
theorem qzm (x : qjh) (y : qji) (h : qml x = some y) : ∃ n, qf4 n x = some y := by
  obtain ⟨n, v, v1, o, o1, g, u0, u1, ⟨⟩⟩ := x
  obtain ⟨⟨hg, htg, h1, h2, h3, hu0, hu1⟩, rfl⟩ := wh_some h
  subst h1; subst h2; subst h3
  have hN := gN hg
  exact ⟨_, qpw g  hg   o o1 u1 htg _ 0 u0 (by omega) hu0 (by omega)⟩
noncomputable def qn7 : LoopC := ⟨qd9, qhs, qml⟩
theorem qpm : LoopSpec Tryz.prog gl 43 0 qn7 := qd (canon := qhr) (.cons (fun _ _ _ h => rfRec_eq (fn := Tryz.f14) Tryz.func14 (by kernel_rfl) h) .nil) (fun c hc x y h => by
  obtain rfl := loopAt_eq (fn := Tryz.f43) Tryz.func43 (by kernel_rfl) hc
  obtain ⟨n, hn⟩ := qzm x y h
  exact ⟨qfq, n, rfl, qxo, (qzl n x).trans hn⟩)
end
end Go.AV
end
section
set_option linter.unusedVariables false
set_option linter.unusedSimpArgs false
set_option maxRecDepth 100000
namespace Go.AV
open Go Go.Proofs
noncomputable section
def totN (g : GridT) : Nat := 6 * (aN g * (bN g * cN g))
theorem q5b {g : GridT} {t : List Int} (h : locErr g t = 0) : okGrid g = true ∧ okLoc g t = true := by
  unfold locErr at h
  cases h1 : okGrid g with
  | false => rw [h1] at h; simp at h
  | true =>
    rw [h1] at h
    cases h2 : okLoc g t with
    | false => rw [h2] at h; simp at h
    | true => exact ⟨rfl, rfl⟩
theorem locErr_tgt {g : GridT} {t : List Int} (h : locErr g t = 0) : okG3 g ∧ tgtP t := by
  obtain ⟨h1, h2⟩ := q5b h
  refine ⟨okG3_of h1 h2, ?_⟩
  simp only [okLoc, Bool.and_eq_true, decide_eq_true_eq] at h2
  obtain ⟨⟨_, h3⟩, h4⟩ := h2
  exact ⟨h3, allIn_get h4 (i := 0) (by omega), allIn_get h4 (i := 1) (by omega), allIn_get h4 (i := 2) (by omega)⟩
noncomputable def que : Env := Env.mk' tyF fnF gl (lookT [(24, ⟨[(false, (.prod (.slice (.int .i64)) (.prod (.int .i64) (.prod (.slice (.int .i64)) .unit)))), (false, (.slice (.int .i64)))], [(false, (.int .i64))], qfd⟩)]) (lookL [(43, 0, [qn7, qnl])]) (fun _ _ => none)
theorem q0p : EnvAll Tryz.prog que := EnvAll.mk' tabs _ (qb ⟨spec_locate_check, trivial⟩) (qa ⟨⟨qpm, ⟨qox, trivial⟩⟩, trivial⟩)
noncomputable def qrh : Env := (que).up 1000
theorem q1o : EnvAll Tryz.prog qrh := EnvAll.up (q0p) 1000
noncomputable def locate_Holds (g : ((List Int) × (Int × ((List Int) × Unit)))) (target : (List Int)) : Option (Int × Int × Unit) :=
  (qfd (g, target, ())).bind fun y1 =>
  cond' ((y1.1 != (0 : Int))) (
    some ((0 : Int), y1.1, ())) (
    cond' (decide (0 ≤ (0 : Int) ∧ (0 : Int) < ((g.1.length : Nat) : Int))) (
    (qml ((0 : Int), (IntKind.i64.wrap ((g.1.getD 0 (0 : Int)) - (1 : Int))), (0 : Int), (0 : Int), (0 : Int), g, (0 : Int), target, ())).bind fun y2 =>
    some (y2.2.2.1, (0 : Int), ())) none)
theorem q2l (g : ((List Int) × (Int × ((List Int) × Unit)))) (target : (List Int)) : evFn qrh 50 14 [(false, (.prod (.slice (.int .i64)) (.prod (.int .i64) (.prod (.slice (.int .i64)) .unit)))), (false, (.slice (.int .i64)))] [(false, (.int .i64)), (false, (.int .i64))] (g, target, ()) = locate_Holds g target := by kernel_rfl
def holdsV (g : GridT) (t : List Int) : Int × Int × Unit := if locErr g t = 0 then (((cnt (isHit g t) (totN g) 0 : Nat) : Int), 0, ()) else (0, locErr g t, ())
def qdj (x : GridT × List Int × Unit) : Option (Int × Int × Unit) := wh (x.1.1.length ≤ 1000000 ∧ x.1.2.2.1.length ≤ 1000000) (holdsV x.1 x.2.1)
theorem pos0 (g : GridT) : posN g 0 0 0 0 = 0 := by simp [posN]
theorem q2m (x : GridT × List Int × Unit) (y : Int × Int × Unit) (h : qdj x = some y) : locate_Holds x.1 x.2.1 = some y := by
  obtain ⟨g, t, ⟨⟩⟩ := x
  obtain ⟨h1, rfl⟩ := wh_some h
  have hc : qfd (g, t, ()) = some (locErr g t, ()) := wh_pos h1
  simp only [locate_Holds, hc, Option.bind_some]
  unfold holdsV
  by_cases h0 : locErr g t = 0
  · obtain ⟨hg, ht⟩ := locErr_tgt h0
    have hN := gN hg
    have hl := hg.l
    have hs := hg.s0
    have g4 : qml ((0 : Int), ((aN g : Nat) : Int), (0 : Int), (0 : Int), (0 : Int), g, (0 : Int), t, ()) = some ((0 : Int), (0 : Int), (0 : Int) + (cnt (isHit g t) (6 * (aN g * (bN g * cN g))) (posN g 0 0 0 0) : Nat), t, ()) :=
      wh_pos ⟨hg, ht, rfl, rfl, by rw [pos0]; rfl, by omega, by omega⟩
    rw [cond'_bne_eq h0, if_pos h0, cond'_pos (by omega), w64 (by omega) (by omega), ← hN.1.1, g4]
    simp only [Option.bind_some]
    rw [pos0, Int.zero_add]
    rfl
  · rw [cond'_bne_ne h0, if_neg h0]
theorem spec_locate_Holds : FnSpec Tryz.prog gl 14 ⟨[(false, (.prod (.slice (.int .i64)) (.prod (.int .i64) (.prod (.slice (.int .i64)) .unit)))), (false, (.slice (.int .i64)))], [(false, (.int .i64)), (false, (.int .i64))], qdj⟩ := qe fun x y h => ⟨qrh, 50, rfl, q1o, (q2l x.1 x.2.1).trans (q2m x y h)⟩
theorem q5i {q0 q1 q2 wl : Int} (h : (pickQ q0 q1 q2 wl).2.2.1 = true) : pickQ q0 q1 q2 wl = ([q0, q1, q2], wl, true, ()) ∧ 0 ≤ q0 ∧ 0 ≤ q1 ∧ 0 ≤ q2 ∧ q0 + q1 + q2 ≤ wl := by
  unfold pickQ at h ⊢
  by_cases a0 : q0 < 0
  · rw [if_pos a0] at h; simp at h
  rw [if_neg a0] at h ⊢
  by_cases a1 : q1 < 0
  · rw [if_pos a1] at h; simp at h
  rw [if_neg a1] at h ⊢
  by_cases a2 : q2 < 0
  · rw [if_pos a2] at h; simp at h
  rw [if_neg a2] at h ⊢
  simp only [decide_eq_true_eq] at h
  rw [decide_eq_true h]
  exact ⟨rfl, by omega, by omega, by omega, h⟩
theorem q5f {s0 s1 s2 t : List Int} (b0 : bnd 65535 s0) (b1 : bnd 65535 s1) (b2 : bnd 65535 s2) (h : (holdR s0 s1 s2 t).2.2.1 = true) :
    ∃ q0 q1 q2 d : Int, holdR s0 s1 s2 t = ([q0, q1, q2], d, true, ()) ∧ 0 ≤ q0 ∧ 0 ≤ q1 ∧ 0 ≤ q2 ∧ q0 + q1 + q2 ≤ d ∧ 0 < d ∧ d ≤ 1688772552032250 := by
  have hb := det3_bnd b0 b1 b2
  unfold holdR at h ⊢
  by_cases h0 : det3 s0 s1 s2 = 0
  · rw [if_pos h0] at h; simp at h
  rw [if_neg h0] at h ⊢
  obtain ⟨e, h1, h2, h3, h4⟩ := q5i h
  refine ⟨_, _, _, _, e, h1, h2, h3, h4, ?_, ?_⟩
  · by_cases hn : det3 s0 s1 s2 < 0
    · rw [if_pos hn]; omega
    · rw [if_neg hn]; omega
  · by_cases hn : det3 s0 s1 s2 < 0
    · rw [if_pos hn]; omega
    · rw [if_neg hn]; omega
theorem q9t {g : GridT} {t : List Int} {x od : List Int} (hg : okG3 g) (hw : wayP g x od) (ht : in16 t) (h : (holdC (cor g x od) t).2.2.1 = true) :
    ∃ q0 q1 q2 d : Int, holdC (cor g x od) t = ([q0, q1, q2], d, true, ()) ∧ 0 ≤ q0 ∧ 0 ≤ q1 ∧ 0 ≤ q2 ∧ q0 + q1 + q2 ≤ d ∧ 0 < d ∧ d ≤ 1688772552032250 := by
  obtain ⟨c0, c1, c2, c3⟩ := cor_in hg hw
  exact q5f (sub3_bnd c1 c0) (sub3_bnd c2 c0) (sub3_bnd c3 c0) h
theorem cellN_in {g : GridT} (hg : okG3 g) {m : Nat} (hm : m < totN g) : ∃ i j k : Nat, i < aN g ∧ j < bN g ∧ k < cN g ∧ cellN g m = [(i : Int), (j : Int), (k : Int)] := by
  obtain ⟨⟨_, a1, a2⟩, ⟨_, b1, b2⟩, ⟨_, c1, c2⟩⟩ := gN hg
  refine ⟨_, _, _, ?_, Nat.mod_lt _ (by omega), Nat.mod_lt _ (by omega), rfl⟩
  unfold totN at hm
  rw [Nat.div_lt_iff_lt_mul (Nat.mul_pos (by omega) (by omega))]
  generalize aN g * (bN g * cN g) = p at *
  omega
def restP (w od : List Int) : List Int := ((Z3.set (od.getD 2 0).toNat (w.getD 2 0)).set (od.getD 1 0).toNat (w.getD 2 0 + w.getD 1 0)).set (od.getD 0 0).toNat (w.getD 2 0 + w.getD 1 0 + w.getD 0 0)
abbrev FracT := ByteArray × ByteArray × Unit
def fracsP (sz cell rest : List Int) (d : Int) : List FracT := [fr (cell.getD 0 0 * d + rest.getD 0 0) (d * (sz.getD 0 0 - 1)), fr (cell.getD 1 0 * d + rest.getD 1 0) (d * (sz.getD 1 0 - 1)), fr (cell.getD 2 0 * d + rest.getD 2 0) (d * (sz.getD 2 0 - 1))]
def big3 (w : List Int) : Prop := (0 ≤ w.getD 0 0 ∧ w.getD 0 0 ≤ 1688772552032250) ∧ (0 ≤ w.getD 1 0 ∧ w.getD 1 0 ≤ 1688772552032250) ∧ (0 ≤ w.getD 2 0 ∧ w.getD 2 0 ≤ 1688772552032250)
def odP (od : List Int) : Prop := (0 ≤ od.getD 0 0 ∧ od.getD 0 0 < 3) ∧ (0 ≤ od.getD 1 0 ∧ od.getD 1 0 < 3) ∧ (0 ≤ od.getD 2 0 ∧ od.getD 2 0 < 3)
noncomputable def qc4 : Shape := ⟨[.j, .j, .loc 0 [], .j, .nils, .loc 1 [], .j, .j, .loc 2 [], .loc 3 [], .loc 4 [], .j, .j, .j, .j, .j, .loc 5 [], .dat (.int .i64), .dat (.int .i64), .j, .j, .j, .j, .j, .j, .j, .j, .j, .j, .j, .j, .j, .j, .j, .j, .j, .j, .j, .j, .j, .j, .j, .j, .j, .j, .j, .j, .j, .j, .j, .j, .j, .j, .j, .j, .j, .j, .j, .j, .j, .j, .j, .j, .j, .j, .j, .j, .j, .j, .j, .j, .j, .j, .j, .j, .j, .j, .j, .j, .j, .j, .j, .j, .j, .j, .j, .j, .j, .j, .j, .j, .j, .j, .j, .j, .j, .j, .j, .j, .j, .j], [[]], [.box false (.dat (.prod (.slice (.int .i64)) (.prod (.int .i64) (.prod (.slice (.int .i64)) .unit)))), .box false (.dat (.int .i64)), .box false (.dat (.prod (.arr 3 (.int .i64)) (.prod (.arr 3 (.int .i64)) (.prod (.arr 4 (.arr 3 (.int .i64))) .unit)))), .box false (.dat (.arr 3 (.int .i64))), .box false (.dat (.int .i64)), .box false (.dat (.arr 3 (.int .i64)))], []⟩
noncomputable def qge : List (Ex × Shape) := [(.exit 3, ⟨[.j, .j, .loc 0 [], .j, .nils, .loc 1 [], .j, .j, .loc 2 [], .j, .loc 3 [], .j, .j, .j, .j, .j, .loc 4 [], .j, .j, .j, .j, .j, .j, .j, .j, .j, .j, .j, .j, .j, .j, .j, .j, .j, .j, .j, .j, .j, .j, .j, .j, .j, .j, .j, .j, .j, .j, .j, .j, .j, .j, .j, .j, .j, .j, .j, .j, .j, .j, .j, .j, .j, .j, .j, .j, .j, .j, .j, .j, .j, .j, .j, .j, .j, .j, .j, .j, .j, .j, .j, .j, .j, .j, .j, .j, .j, .j, .j, .j, .j, .j, .j, .j, .j, .j, .j, .j, .j, .j, .j, .j], [[]], [.box false (.dat (.prod (.slice (.int .i64)) (.prod (.int .i64) (.prod (.slice (.int .i64)) .unit)))), .box false (.dat (.int .i64)), .box false (.dat (.prod (.arr 3 (.int .i64)) (.prod (.arr 3 (.int .i64)) (.prod (.arr 4 (.arr 3 (.int .i64))) .unit)))), .box false (.dat (.int .i64)), .box false (.dat (.arr 3 (.int .i64)))], []⟩)]
abbrev qh1 : Type := Int × Int × ((List Int) × (Int × ((List Int) × Unit))) × Int × ((List Int) × ((List Int) × ((List (List Int)) × Unit))) × (List Int) × Int × (List Int) × Unit
abbrev qh2 : Type := (((List Int) × (Int × ((List Int) × Unit))) × Int × ((List Int) × ((List Int) × ((List (List Int)) × Unit))) × Int × (List Int) × Unit)
noncomputable def qp3 : Env := Env.mk' tyF fnF gl (lookT []) (lookL []) (fun f c => match Nat.beq f 12 && Nat.beq c 3 with | true => some qc4 | false => none)
theorem qur : EnvAll Tryz.prog qp3 := EnvAll.mk' tabs _ (qb trivial) (qa trivial)
noncomputable def qeg : Env := (qp3).up 1000
theorem qwl : EnvAll Tryz.prog qeg := EnvAll.up (qur) 1000
noncomputable def qgd : List Lp := []
noncomputable def q7 (rec : qh1 → Option qh2) (sum : Int) (i : Int) (g : ((List Int) × (Int × ((List Int) × Unit)))) (at1 : Int) (found : ((List Int) × ((List Int) × ((List (List Int)) × Unit)))) (w : (List Int)) (whole : Int) (rest : (List Int)) : Option qh2 :=
  cond' ((decide (i ≥ (0 : Int)))) (
    cond' (decide (0 ≤ i ∧ i < ((3 : Nat) : Int))) (
    cond' (decide (0 ≤ i ∧ i < ((3 : Nat) : Int))) (
    cond' (decide (0 ≤ (found.2.1.getD i.toNat (0 : Int)) ∧ (found.2.1.getD i.toNat (0 : Int)) < ((3 : Nat) : Int))) (
    rec ((IntKind.i64.wrap (sum + (w.getD i.toNat (0 : Int)))), (IntKind.i64.wrap (i - (1 : Int))), g, at1, found, w, whole, (rest.set ((found.2.1.getD i.toNat (0 : Int)).toNat) (IntKind.i64.wrap (sum + (w.getD i.toNat (0 : Int))))), ())) none) none) none) (
    some (g, at1, found, whole, rest, ()))
noncomputable def qg4 : Nat → qh1 → Option qh2
  | 0, _ => none
  | n + 1, x => q7 (qg4 n) x.1 x.2.1 x.2.2.1 x.2.2.2.1 x.2.2.2.2.1 x.2.2.2.2.2.1 x.2.2.2.2.2.2.1 x.2.2.2.2.2.2.2.1
theorem qh3 (fu : Nat) (sum : Int) (i : Int) (g : ((List Int) × (Int × ((List Int) × Unit)))) (at1 : Int) (found : ((List Int) × ((List Int) × ((List (List Int)) × Unit)))) (w : (List Int)) (whole : Int) (rest : (List Int)) : qg4 (fu + 1) (sum, i, g, at1, found, w, whole, rest, ()) = q7 (qg4 fu) sum i g at1 found w whole rest := rfl
theorem qus (fu : Nat) (sum : Int) (i : Int) (g : ((List Int) × (Int × ((List Int) × Unit)))) (at1 : Int) (found : ((List Int) × ((List Int) × ((List (List Int)) × Unit)))) (w : (List Int)) (whole : Int) (rest : (List Int)) : ev qeg (fu + 1) 12 3 (.loop (loopAt Tryz.f12 3)) (qc4.enc qgd (sum, i, g, at1, found, w, whole, rest, ())) (exitD qge) = q7 (fun x => ev qeg fu 12 3 (.loop (loopAt Tryz.f12 3)) (qc4.enc qgd x) (exitD qge)) sum i g at1 found w whole rest := by kernel_rfl
theorem qxz (n : Nat) (x : qh1) : ev qeg n 12 3 (.loop (loopAt Tryz.f12 3)) (qc4.enc qgd x) (exitD qge) = qg4 n x :=
  fuel_eq (f := fun n x => ev qeg n 12 3 (.loop (loopAt Tryz.f12 3)) (qc4.enc qgd x) (exitD qge)) (st := fun rec x => q7 rec x.1 x.2.1 x.2.2.1 x.2.2.2.1 x.2.2.2.2.1 x.2.2.2.2.2.1 x.2.2.2.2.2.2.1 x.2.2.2.2.2.2.2.1) (fun _ => rfl) (fun n x => qus n x.1 x.2.1 x.2.2.1 x.2.2.2.1 x.2.2.2.2.1 x.2.2.2.2.2.1 x.2.2.2.2.2.2.1 x.2.2.2.2.2.2.2.1) qg4 (fun _ => rfl) (fun _ _ => rfl) n x
def qh0 : qh1 → Option qh2
  | (sum, i, g, at1, found, w, whole, rest, ()) => wh (sum = 0 ∧ i = 2 ∧ rest = Z3 ∧ big3 w ∧ odP found.2.1) (g, at1, found, whole, restP w found.2.1, ())
theorem qx0 (x : qh1) (y : qh2) (h : qh0 x = some y) : ∃ n, qg4 n x = some y := by
  obtain ⟨sum, i, g, at1, found, w, whole, rest, ⟨⟩⟩ := x
  obtain ⟨⟨h1, h2, h3, ⟨w0, w1, w2⟩, ⟨o0, o1, o2⟩⟩, rfl⟩ := wh_some h
  subst h1; subst h2; subst h3
  have n2 : (2 : Int).toNat = 2 := rfl
  have n1 : (1 : Int).toNat = 1 := rfl
  have n0 : (0 : Int).toNat = 0 := rfl
  have e1 : IntKind.i64.wrap ((2 : Int) - 1) = 1 := by decide
  have e2 : IntKind.i64.wrap ((1 : Int) - 1) = 0 := by decide
  have e3 : IntKind.i64.wrap ((0 : Int) - 1) = -1 := by decide
  refine ⟨4, ?_⟩
  rw [qh3]
  simp only [q7, n2, e1]
  rw [cond'_pos (by omega), cond'_pos (by omega), cond'_pos (by omega), cond'_pos (by omega), Int.zero_add, w64 (by omega) (by omega), qh3]
  simp only [q7, n1, e2]
  rw [cond'_pos (by omega), cond'_pos (by omega), cond'_pos (by omega), cond'_pos (by omega), w64 (by omega) (by omega), qh3]
  simp only [q7, n0, e3]
  rw [cond'_pos (by omega), cond'_pos (by omega), cond'_pos (by omega), cond'_pos (by omega), w64 (by omega) (by omega), qh3]
  simp only [q7]
  rw [cond'_neg (by omega)]
  rfl
noncomputable def qqu : LoopC := ⟨qc4, qge, qh0⟩
theorem qvh : LoopSpec Tryz.prog gl 12 3 qqu := qd (canon := qgd) .nil (fun c hc x y h => by
  obtain rfl := loopAt_eq (fn := Tryz.f12) Tryz.func12 (by kernel_rfl) hc
  obtain ⟨n, hn⟩ := qx0 x y h
  exact ⟨qeg, n, rfl, qwl, (qxz n x).trans hn⟩)
def small8 (c : List Int) : Prop := (0 ≤ c.getD 0 0 ∧ c.getD 0 0 ≤ 8) ∧ (0 ≤ c.getD 1 0 ∧ c.getD 1 0 ≤ 8) ∧ (0 ≤ c.getD 2 0 ∧ c.getD 2 0 ≤ 8)
def size9 (c : List Int) : Prop := (2 ≤ c.getD 0 0 ∧ c.getD 0 0 ≤ 9) ∧ (2 ≤ c.getD 1 0 ∧ c.getD 1 0 ≤ 9) ∧ (2 ≤ c.getD 2 0 ∧ c.getD 2 0 ≤ 9)
theorem of_one {c r d s : Int} (hc : 0 ≤ c ∧ c ≤ 8) (hr : 0 ≤ r ∧ r ≤ 1688772552032250) (hd : 0 < d ∧ d ≤ 1688772552032250) (hs : 2 ≤ s ∧ s ≤ 9) :
    IntKind.i64.wrap (c * d) = c * d ∧ IntKind.i64.wrap (s - 1) = s - 1 ∧ IntKind.i64.wrap (c * d + r) = c * d + r ∧ IntKind.i64.wrap (d * (s - 1)) = d * (s - 1) ∧ qrt (c * d + r, d * (s - 1), ()) = some (fr (c * d + r) (d * (s - 1)), 0, ()) ∧
    (0 ≤ c * d + r ∧ c * d + r ≤ 15198952968290250) ∧ (0 < d * (s - 1) ∧ d * (s - 1) ≤ 13510180416258000) := by
  have m1 := mul_bounds hc.1 hc.2 (by omega : 0 ≤ d) hd.2
  have m2 := mul_bounds (by omega : 0 ≤ d) hd.2 (by omega : 0 ≤ s - 1) (by omega : s - 1 ≤ 8)
  have m3 : 0 < d * (s - 1) := Int.mul_pos hd.1 (by omega)
  generalize c * d = p at *
  generalize d * (s - 1) = q at *
  refine ⟨w64 (by omega) (by omega), w64 (by omega) (by omega), w64 (by omega) (by omega), w64 (by omega) (by omega), ?_, by omega, by omega⟩
  have : qrt (p + r, q, ()) = some (if q = 0 then ((ByteArray.empty, ByteArray.empty, ()), 7, ()) else (fr (p + r) q, 0, ())) := wh_pos ⟨by simp only [BG]; omega, by simp only [BG]; omega⟩
  rw [this, if_neg (by omega)]
noncomputable def qc5 : Shape := ⟨[.j, .j, .j, .j, .own 0 (.prod .str (.prod .str .unit)), .loc 1 [], .j, .j, .loc 2 [], .j, .loc 3 [], .j, .j, .j, .j, .j, .loc 4 [], .j, .j, .j, .j, .j, .j, .j, .j, .j, .j, .j, .j, .j, .j, .j, .j, .j, .j, .j, .j, .j, .j, .j, .j, .j, .j, .j, .j, .j, .j, .j, .j, .j, .j, .j, .j, .j, .j, .j, .j, .j, .j, .j, .j, .j, .j, .j, .j, .j, .dat (.slice (.int .i64)), .dat (.int .i64), .dat (.int .i64), .j, .j, .j, .j, .j, .j, .j, .j, .j, .j, .j, .j, .j, .j, .j, .j, .j, .j, .j, .j, .j, .j, .j, .j, .j, .j, .j, .j, .j, .j, .j, .j], [[]], [.row false (.prod .str (.prod .str .unit)), .box false (.dat (.int .i64)), .box false (.dat (.prod (.arr 3 (.int .i64)) (.prod (.arr 3 (.int .i64)) (.prod (.arr 4 (.arr 3 (.int .i64))) .unit)))), .box false (.dat (.int .i64)), .box false (.dat (.arr 3 (.int .i64)))], []⟩
noncomputable def qgg : List (Ex × Shape) := [(.ret, ⟨[.j, .j, .j, .j, .nils, .loc 0 [], .dat (.int .i64), .j, .j, .j, .j, .j, .j, .j, .j, .j, .j, .j, .j, .j, .j, .j, .j, .j, .j, .j, .j, .j, .j, .j, .j, .j, .j, .j, .j, .j, .j, .j, .j, .j, .j, .j, .j, .j, .j, .j, .j, .j, .j, .j, .j, .j, .j, .j, .j, .j, .j, .j, .j, .j, .j, .j, .j, .j, .j, .j, .j, .j, .j, .j, .j, .j, .j, .j, .j, .j, .j, .j, .j, .j, .j, .j, .j, .j, .j, .j, .j, .j, .j, .j, .j, .j, .j, .j, .j, .j, .j, .j, .j, .j, .j], [[]], [.box false (.dat (.int .i64))], []⟩), (.exit 5, ⟨[.j, .j, .j, .j, .own 0 (.prod .str (.prod .str .unit)), .loc 1 [], .j, .j, .j, .j, .j, .j, .j, .j, .j, .j, .j, .j, .j, .j, .j, .j, .j, .j, .j, .j, .j, .j, .j, .j, .j, .j, .j, .j, .j, .j, .j, .j, .j, .j, .j, .j, .j, .j, .j, .j, .j, .j, .j, .j, .j, .j, .j, .j, .j, .j, .j, .j, .j, .j, .j, .j, .j, .j, .j, .j, .j, .j, .j, .j, .j, .j, .j, .j, .j, .j, .j, .j, .j, .j, .j, .j, .j, .j, .j, .j, .j, .j, .j, .j, .j, .j, .j, .j, .j, .j, .j, .j, .j, .j, .j], [[]], [.row false (.prod .str (.prod .str .unit)), .box false (.dat (.int .i64))], []⟩)]
abbrev qh5 : Type := (List Int) × Int × Int × (List (ByteArray × (ByteArray × Unit))) × Int × ((List Int) × ((List Int) × ((List (List Int)) × Unit))) × Int × (List Int) × Unit
abbrev qh6 : Type := ((Int × Int × Unit) ⊕ ((List (ByteArray × (ByteArray × Unit))) × Int × Unit))
noncomputable def qp4 : Env := Env.mk' tyF fnF gl (lookT [(27, ⟨[(false, (.int .i64)), (false, (.int .i64))], [(false, (.prod .str (.prod .str .unit))), (false, (.int .i64))], qrt⟩)]) (lookL []) (fun f c => match Nat.beq f 12 && Nat.beq c 5 with | true => some qc5 | false => none)
theorem qut : EnvAll Tryz.prog qp4 := EnvAll.mk' tabs _ (qb ⟨spec_frac_Of, trivial⟩) (qa trivial)
noncomputable def qeh : Env := (qp4).up 1000
theorem qwm : EnvAll Tryz.prog qeh := EnvAll.up (qut) 1000
noncomputable def qgf : List Lp := []
noncomputable def q8 (rec : qh5 → Option qh6) (v : (List Int)) (v1 : Int) (v2 : Int) (x : (List (ByteArray × (ByteArray × Unit)))) (at1 : Int) (found : ((List Int) × ((List Int) × ((List (List Int)) × Unit)))) (whole : Int) (rest : (List Int)) : Option qh6 :=
  cond' ((decide (v2 < v1))) (
    cond' (decide (0 ≤ v2 ∧ v2 < ((v.length : Nat) : Int))) (
    cond' (decide (0 ≤ v2 ∧ v2 < ((3 : Nat) : Int))) (
    (some (IntKind.i64.wrap ((found.1.getD v2.toNat (0 : Int)) * whole))).bind fun z1 =>
    cond' (decide (0 ≤ v2 ∧ v2 < ((3 : Nat) : Int))) (
    (some (IntKind.i64.wrap ((v.getD v2.toNat (0 : Int)) - (1 : Int)))).bind fun z2 =>
    (qrt ((IntKind.i64.wrap (z1 + (rest.getD v2.toNat (0 : Int)))), (IntKind.i64.wrap (whole * z2)), ())).bind fun y3 =>
    cond' ((y3.2.1 != (0 : Int))) (
      some (.inl (y3.2.1, (0 : Int), ()))) (
      cond' (decide ((x.length + [y3.1].length) * 32 ≤ 140737488355328)) (
      rec (v, v1, (IntKind.i64.wrap (v2 + (1 : Int))), (x ++ [y3.1]), at1, found, whole, rest, ())) none)) none) none) none) (
    some (.inr (x, at1, ())))
noncomputable def qg5 : Nat → qh5 → Option qh6
  | 0, _ => none
  | n + 1, x => q8 (qg5 n) x.1 x.2.1 x.2.2.1 x.2.2.2.1 x.2.2.2.2.1 x.2.2.2.2.2.1 x.2.2.2.2.2.2.1 x.2.2.2.2.2.2.2.1
theorem qh7 (fu : Nat) (v : (List Int)) (v1 : Int) (v2 : Int) (x : (List (ByteArray × (ByteArray × Unit)))) (at1 : Int) (found : ((List Int) × ((List Int) × ((List (List Int)) × Unit)))) (whole : Int) (rest : (List Int)) : qg5 (fu + 1) (v, v1, v2, x, at1, found, whole, rest, ()) = q8 (qg5 fu) v v1 v2 x at1 found whole rest := rfl
theorem quu (fu : Nat) (v : (List Int)) (v1 : Int) (v2 : Int) (x : (List (ByteArray × (ByteArray × Unit)))) (at1 : Int) (found : ((List Int) × ((List Int) × ((List (List Int)) × Unit)))) (whole : Int) (rest : (List Int)) : ev qeh (fu + 1) 12 5 (.loop (loopAt Tryz.f12 5)) (qc5.enc qgf (v, v1, v2, x, at1, found, whole, rest, ())) (exitD qgg) = q8 (fun x => ev qeh fu 12 5 (.loop (loopAt Tryz.f12 5)) (qc5.enc qgf x) (exitD qgg)) v v1 v2 x at1 found whole rest := by kernel_rfl
theorem qx1 (n : Nat) (x : qh5) : ev qeh n 12 5 (.loop (loopAt Tryz.f12 5)) (qc5.enc qgf x) (exitD qgg) = qg5 n x :=
  fuel_eq (f := fun n x => ev qeh n 12 5 (.loop (loopAt Tryz.f12 5)) (qc5.enc qgf x) (exitD qgg)) (st := fun rec x => q8 rec x.1 x.2.1 x.2.2.1 x.2.2.2.1 x.2.2.2.2.1 x.2.2.2.2.2.1 x.2.2.2.2.2.2.1 x.2.2.2.2.2.2.2.1) (fun _ => rfl) (fun n x => quu n x.1 x.2.1 x.2.2.1 x.2.2.2.1 x.2.2.2.2.1 x.2.2.2.2.2.1 x.2.2.2.2.2.2.1 x.2.2.2.2.2.2.2.1) qg5 (fun _ => rfl) (fun _ _ => rfl) n x
def qh4 : qh5 → Option qh6
  | (sz, v1, v2, x, at1, found, whole, rest, ()) => wh (sz.length = 3 ∧ v1 = 3 ∧ v2 = 0 ∧ x = [] ∧ (0 < whole ∧ whole ≤ 1688772552032250) ∧ small8 found.1 ∧ big3 rest ∧ size9 sz) (.inr (fracsP sz found.1 rest whole, at1, ()))
theorem qx2 (x : qh5) (y : qh6) (h : qh4 x = some y) : ∃ n, qg5 n x = some y := by
  obtain ⟨sz, v1, v2, x, at1, found, whole, rest, ⟨⟩⟩ := x
  obtain ⟨⟨h0, h1, h2, h3, hd, ⟨c0, c1, c2⟩, ⟨r0, r1, r2⟩, ⟨s0, s1, s2⟩⟩, rfl⟩ := wh_some h
  subst h1; subst h2; subst h3
  have n2 : (2 : Int).toNat = 2 := rfl
  have n1 : (1 : Int).toNat = 1 := rfl
  have n0 : (0 : Int).toNat = 0 := rfl
  have e1 : IntKind.i64.wrap ((0 : Int) + 1) = 1 := by decide
  have e2 : IntKind.i64.wrap ((1 : Int) + 1) = 2 := by decide
  have e3 : IntKind.i64.wrap ((2 : Int) + 1) = 3 := by decide
  obtain ⟨p1, p2, p3, p4, p5, _, _⟩ := of_one c0 r0 hd s0
  obtain ⟨q1, q2, q3, q4, q5, _, _⟩ := of_one c1 r1 hd s1
  obtain ⟨t1, t2, t3, t4, t5, _, _⟩ := of_one c2 r2 hd s2
  refine ⟨4, ?_⟩
  rw [qh7]
  simp only [q8, n0, e1, p1, p2, p3, p4, p5, Option.bind_some]
  rw [cond'_pos (by omega), cond'_pos (by omega), cond'_pos (by omega), cond'_pos (by omega), cond'_bne_eq rfl, cond'_pos (by simp only [List.length_nil, List.length_cons]; omega), qh7]
  simp only [q8, n1, e2, q1, q2, q3, q4, q5, Option.bind_some]
  rw [cond'_pos (by omega), cond'_pos (by omega), cond'_pos (by omega), cond'_pos (by omega), cond'_bne_eq rfl, cond'_pos (by simp only [List.length_nil, List.length_append, List.length_cons]; omega), qh7]
  simp only [q8, n2, e3, t1, t2, t3, t4, t5, Option.bind_some]
  rw [cond'_pos (by omega), cond'_pos (by omega), cond'_pos (by omega), cond'_pos (by omega), cond'_bne_eq rfl, cond'_pos (by simp only [List.length_nil, List.length_append, List.length_cons]; omega), qh7]
  simp only [q8]
  rw [cond'_neg (by omega)]
  rfl
noncomputable def qqv : LoopC := ⟨qc5, qgg, qh4⟩
theorem qvi : LoopSpec Tryz.prog gl 12 5 qqv := qd (canon := qgf) .nil (fun c hc x y h => by
  obtain rfl := loopAt_eq (fn := Tryz.f12) Tryz.func12 (by kernel_rfl) hc
  obtain ⟨n, hn⟩ := qx2 x y h
  exact ⟨qeh, n, rfl, qwm, (qx1 n x).trans hn⟩)
noncomputable def qto : Env := Env.mk' tyF fnF gl (lookT [(24, ⟨[(false, (.prod (.slice (.int .i64)) (.prod (.int .i64) (.prod (.slice (.int .i64)) .unit)))), (false, (.slice (.int .i64)))], [(false, (.int .i64))], qfd⟩)]) (lookL [(12, 3, [qqu]), (12, 5, [qqv]), (43, 0, [qn7, qnl])]) (fun _ _ => none)
theorem qzn : EnvAll Tryz.prog qto := EnvAll.mk' tabs _ (qb ⟨spec_locate_check, trivial⟩) (qa ⟨⟨qvh, trivial⟩, ⟨⟨qvi, trivial⟩, ⟨⟨qpm, ⟨qox, trivial⟩⟩, trivial⟩⟩⟩)
noncomputable def qpx : Env := (qto).up 1000
theorem q0q : EnvAll Tryz.prog qpx := EnvAll.up (qzn) 1000
noncomputable def locate_Locate (g : ((List Int) × (Int × ((List Int) × Unit)))) (target : (List Int)) : Option ((List (ByteArray × (ByteArray × Unit))) × Int × Int × Unit) :=
  (qfd (g, target, ())).bind fun y1 =>
  cond' ((y1.1 != (0 : Int))) (
    some (([] : List (ByteArray × (ByteArray × Unit))), (0 : Int), y1.1, ())) (
    cond' (decide (0 ≤ (0 : Int) ∧ (0 : Int) < ((g.1.length : Nat) : Int))) (
    (qlh ((0 : Int), (IntKind.i64.wrap ((g.1.getD 0 (0 : Int)) - (1 : Int))), (0 : Int), (0 : Int), g, g, (0 : Int), ([(0 : Int), (0 : Int), (0 : Int)], [(0 : Int), (0 : Int), (0 : Int)], [[(0 : Int), (0 : Int), (0 : Int)], [(0 : Int), (0 : Int), (0 : Int)], [(0 : Int), (0 : Int), (0 : Int)], [(0 : Int), (0 : Int), (0 : Int)]], ()), [(0 : Int), (0 : Int), (0 : Int)], (0 : Int), target, ())).bind fun y2 =>
    match y2 with
    | .inl a3 =>
      cond' ((a3.2.2.2.2.2.1 == (0 : Int))) (
        some (([] : List (ByteArray × (ByteArray × Unit))), (0 : Int), (4 : Int), ())) (
        (qh0 ((0 : Int), (2 : Int), a3.2.1, a3.2.2.1, a3.2.2.2.1, a3.2.2.2.2.1, a3.2.2.2.2.2.1, [(0 : Int), (0 : Int), (0 : Int)], ())).bind fun y5 =>
        (qh4 (y5.1.1, ((y5.1.1.length : Nat) : Int), (0 : Int), ([] : List (ByteArray × (ByteArray × Unit))), y5.2.1, y5.2.2.1, y5.2.2.2.1, y5.2.2.2.2.1, ())).bind fun y6 =>
        match y6 with
        | .inl a7 =>
          some (([] : List (ByteArray × (ByteArray × Unit))), a7.2.1, a7.1, ())
        | .inr b8 =>
          some (b8.1, b8.2.1, (0 : Int), ()))
    | .inr b4 =>
      cond' ((b4.2.2.2.2.2.1 == (0 : Int))) (
        some (([] : List (ByteArray × (ByteArray × Unit))), (0 : Int), (4 : Int), ())) (
        (qh0 ((0 : Int), (2 : Int), b4.2.1, b4.2.2.1, b4.2.2.2.1, b4.2.2.2.2.1, b4.2.2.2.2.2.1, [(0 : Int), (0 : Int), (0 : Int)], ())).bind fun y9 =>
        (qh4 (y9.1.1, ((y9.1.1.length : Nat) : Int), (0 : Int), ([] : List (ByteArray × (ByteArray × Unit))), y9.2.1, y9.2.2.1, y9.2.2.2.1, y9.2.2.2.2.1, ())).bind fun y10 =>
        match y10 with
        | .inl a11 =>
          some (([] : List (ByteArray × (ByteArray × Unit))), a11.2.1, a11.1, ())
        | .inr b12 =>
          some (b12.1, b12.2.1, (0 : Int), ()))) none)
theorem q1p (g : ((List Int) × (Int × ((List Int) × Unit)))) (target : (List Int)) : evFn qpx 50 12 [(false, (.prod (.slice (.int .i64)) (.prod (.int .i64) (.prod (.slice (.int .i64)) .unit)))), (false, (.slice (.int .i64)))] [(false, (.slice (.prod .str (.prod .str .unit)))), (false, (.int .i64)), (false, (.int .i64))] (g, target, ()) = locate_Locate g target := by kernel_rfl
def locV (g : GridT) (t : List Int) : List FracT × Int × Int × Unit :=
  if locErr g t = 0 then (match scan (isHit g t) (totN g) 0 with
    | some m => (fracsP g.1 (cellN g m) (restP (hitN g t m).1 (ordN (m % 6))) (hitN g t m).2.1, (m : Int), 0, ())
    | none => ([], 0, 4, ()))
  else ([], 0, locErr g t, ())
def qm (x : GridT × List Int × Unit) : Option (List FracT × Int × Int × Unit) := wh (x.1.1.length ≤ 1000000 ∧ x.1.2.2.1.length ≤ 1000000) (locV x.1 x.2.1)
theorem ordN_odP {o : Nat} (h : o < 6) : odP (ordN o) := by
  have : o = 0 ∨ o = 1 ∨ o = 2 ∨ o = 3 ∨ o = 4 ∨ o = 5 := by omega
  rcases this with rfl | rfl | rfl | rfl | rfl | rfl <;> (unfold odP ordN; decide)
theorem restP_big {w : List Int} {q0 q1 q2 d : Int} {o : Nat} (ho : o < 6) (hw : w = [q0, q1, q2]) (h0 : 0 ≤ q0) (h1 : 0 ≤ q1) (h2 : 0 ≤ q2) (hs : q0 + q1 + q2 ≤ d) (hd : d ≤ 1688772552032250) : big3 (restP w (ordN o)) := by
  subst hw
  have n1 : (1 : Int).toNat = 1 := rfl
  have n2 : (2 : Int).toNat = 2 := rfl
  have : o = 0 ∨ o = 1 ∨ o = 2 ∨ o = 3 ∨ o = 4 ∨ o = 5 := by omega
  rcases this with rfl | rfl | rfl | rfl | rfl | rfl <;>
    (simp only [big3, restP, ordN, ords, Z3, List.getD_cons_zero, List.getD_cons_succ, Int.toNat_zero, n1, n2, List.set_cons_zero, List.set_cons_succ]; omega)
theorem q1q (x : GridT × List Int × Unit) (y : List FracT × Int × Int × Unit) (h : qm x = some y) : locate_Locate x.1 x.2.1 = some y := by
  obtain ⟨g, t, ⟨⟩⟩ := x
  obtain ⟨h1, rfl⟩ := wh_some h
  have hc : qfd (g, t, ()) = some (locErr g t, ()) := wh_pos h1
  simp only [locate_Locate, hc, Option.bind_some]
  unfold locV
  by_cases h0 : locErr g t = 0
  · obtain ⟨hg, ht⟩ := locErr_tgt h0
    have hN := gN hg
    have hl := hg.l
    have hs := hg.s0
    have g4 : qlh ((0 : Int), ((aN g : Nat) : Int), (0 : Int), (0 : Int), g, g, (0 : Int), (Z3, Z3, [Z3, Z3, Z3, Z3], ()), Z3, (0 : Int), t, ()) = some (match scan (isHit g t) (6 * (aN g * (bN g * cN g))) (posN g 0 0 0 0) with
      | some m => .inl ((0 : Int), g, (m : Int), tetN g m, (hitN g t m).1, (hitN g t m).2.1, t, ())
      | none => .inr ((0 : Int), g, (0 : Int), (Z3, Z3, [Z3, Z3, Z3, Z3], ()), Z3, (0 : Int), t, ())) :=
      wh_pos ⟨hg, ht, rfl, rfl, by rw [pos0]; rfl⟩
    rw [cond'_bne_eq h0, if_pos h0, cond'_pos (by omega), w64 (by omega) (by omega), ← hN.1.1, g4, pos0]
    simp only [Option.bind_some]
    have hT : totN g = 6 * (aN g * (bN g * cN g)) := rfl
    rw [← hT]
    cases hsc : scan (isHit g t) (totN g) 0 with
    | none => rfl
    | some m =>
      obtain ⟨_, hm, hh⟩ := scan_some _ _ _ _ hsc
      obtain ⟨i, j, k, hi, hj, hk, hcell⟩ := cellN_in hg (m := m) (by omega)
      have ho : m % 6 < 6 := Nat.mod_lt _ (by omega)
      have hw := wayP_of (cellP_of hg hi hj hk) ho
      have hhit : hitN g t m = holdC (cor g [(i : Int), (j : Int), (k : Int)] (ordN (m % 6))) t := by unfold hitN; rw [hcell]
      unfold isHit at hh
      rw [hhit] at hh
      obtain ⟨q0, q1, q2, d, hq, a0, a1, a2, a3, a4, a5⟩ := q9t hg hw ht.2 hh
      have hbig := restP_big (w := [q0, q1, q2]) ho rfl a0 a1 a2 a3 a5
      have ht2 : tetN g m = ([(i : Int), (j : Int), (k : Int)], ordN (m % 6), cor g [(i : Int), (j : Int), (k : Int)] (ordN (m % 6)), ()) := by unfold tetN; rw [hcell]
      simp only [ht2, hhit, hq, hcell]
      rw [cond'_ne (by omega)]
      have g5 : qh0 ((0 : Int), (2 : Int), g, (m : Int), ([(i : Int), (j : Int), (k : Int)], ordN (m % 6), cor g [(i : Int), (j : Int), (k : Int)] (ordN (m % 6)), ()), [q0, q1, q2], d, Z3, ()) =
        some (g, (m : Int), ([(i : Int), (j : Int), (k : Int)], ordN (m % 6), cor g [(i : Int), (j : Int), (k : Int)] (ordN (m % 6)), ()), d, restP [q0, q1, q2] (ordN (m % 6)), ()) := wh_pos ⟨rfl, rfl, rfl, by
          simp only [big3, List.getD_cons_zero, List.getD_cons_succ]; omega, ordN_odP ho⟩
      rw [g5]
      simp only [Option.bind_some]
      have g6 : qh4 (g.1, ((g.1.length : Nat) : Int), (0 : Int), ([] : List FracT), (m : Int), ([(i : Int), (j : Int), (k : Int)], ordN (m % 6), cor g [(i : Int), (j : Int), (k : Int)] (ordN (m % 6)), ()), d, restP [q0, q1, q2] (ordN (m % 6)), ()) =
        some (.inr (fracsP g.1 [(i : Int), (j : Int), (k : Int)] (restP [q0, q1, q2] (ordN (m % 6))) d, (m : Int), ())) := wh_pos ⟨hl, by rw [hl]; rfl, rfl, rfl, ⟨a4, a5⟩, by
          simp only [small8, List.getD_cons_zero, List.getD_cons_succ]; omega, hbig, hg.s0, hg.s1, hg.s2⟩
      rw [g6]
      rfl
  · rw [cond'_bne_ne h0, if_neg h0]
theorem spec_locate_Locate : FnSpec Tryz.prog gl 12 ⟨[(false, (.prod (.slice (.int .i64)) (.prod (.int .i64) (.prod (.slice (.int .i64)) .unit)))), (false, (.slice (.int .i64)))], [(false, (.slice (.prod .str (.prod .str .unit)))), (false, (.int .i64)), (false, (.int .i64))], qm⟩ := qe fun x y h => ⟨qpx, 50, rfl, q0q, (q1p x.1 x.2.1).trans (q1q x y h)⟩
end
end Go.AV
end
section
set_option linter.unusedVariables false
set_option linter.unusedSimpArgs false
set_option maxRecDepth 100000
namespace Go.AV
open Go Go.Proofs
noncomputable section
end
end Go.AV
end
section
set_option linter.unusedVariables false
set_option linter.unusedSimpArgs false
set_option maxRecDepth 100000
namespace Go.AV
open Go Go.Proofs
noncomputable section
end
end Go.AV
end
section
set_option linter.unusedVariables false
set_option linter.unusedSimpArgs false
set_option maxRecDepth 100000
namespace Go.AV
open Go Go.Proofs
noncomputable section
noncomputable def q0i : Env := (Env.mk' tyF fnF gl (lookT [(33, ⟨[(false, (.int .i64)), (false, (.int .i64))], [(false, (.prod .str (.prod .str .unit))), (false, (.int .i64))], qsg⟩)]) (lookL []) (fun _ _ => none))
theorem q4g : EnvAll Tryz.prog q0i := EnvAll.mk' tabs _ (qb ⟨spec_ref02_Of, trivial⟩) (qa trivial)
noncomputable def law22_of (n : Int) (d : Int) : Option ((ByteArray × (ByteArray × Unit)) × Unit) :=
  (qsg (n, d, ())).bind fun y1 =>
  some (y1.1, ())
theorem q4y (n : Int) (d : Int) : evFn q0i 50 18 [(false, (.int .i64)), (false, (.int .i64))] [(false, (.prod .str (.prod .str .unit)))] (n, d, ()) = law22_of n d := by kernel_rfl
def qf (x : Int × Int × Unit) : Option (FracT × Unit) :=
  wh (-9223372036854775808 ≤ x.1 ∧ x.1 < 9223372036854775808 ∧ -9223372036854775808 ≤ x.2.1 ∧ x.2.1 < 9223372036854775808 ∧ x.2.1 ≠ 0) (fr x.1 x.2.1, ())
theorem q4z (x : Int × Int × Unit) (y : FracT × Unit) (h : qf x = some y) : law22_of x.1 x.2.1 = some y := by
  obtain ⟨n, d, ⟨⟩⟩ := x
  obtain ⟨⟨h1, h2, h3, h4, h5⟩, rfl⟩ := wh_some h
  simp only at h1 h2 h3 h4 h5
  have : qsg (n, d, ()) = some (if d = 0 then ((ByteArray.empty, ByteArray.empty, ()), 7, ()) else (fr n d, 0, ())) := wh_pos ⟨h1, h2, h3, h4⟩
  rw [if_neg h5] at this
  simp only [law22_of, this, Option.bind_some]
theorem spec_law22_of : FnSpec Tryz.prog gl 18 ⟨[(false, (.int .i64)), (false, (.int .i64))], [(false, (.prod .str (.prod .str .unit)))], qf⟩ := qe fun x y h => ⟨q0i, 50, rfl, q4g, (q4y x.1 x.2.1).trans (q4z x y h)⟩
abbrev cubeD : List Int := [0, 0, 0, 0, 0, 65535, 0, 65535, 0, 0, 65535, 65535, 65535, 0, 0, 65535, 0, 65535, 65535, 65535, 0, 65535, 65535, 65535]
abbrev cubeG : GridT := ([2, 2, 2], 3, cubeD, ())
def eqF (a b : FracT) : Bool := (a.1.toList == b.1.toList) && ((a.2.1.toList == b.2.1.toList) && true)
def eqAll : List FracT → List FracT → Bool
  | a :: l, b :: m => eqF a b && eqAll l m
  | _, _ => true
theorem eqF_refl (a : FracT) : eqF a a = true := by simp [eqF]
theorem eqAll_refl : ∀ l : List FracT, eqAll l l = true
  | [] => rfl
  | a :: l => by rw [eqAll, eqF_refl, eqAll_refl l]; rfl
abbrev F0 : FracT := (ByteArray.empty, ByteArray.empty, ())
theorem drop_getF {l : List FracT} {i : Nat} (hi : i < l.length) : l.drop i = l.getD i F0 :: l.drop (i + 1) := by
  rw [List.drop_eq_getElem_cons hi, List.getD_eq_getElem?_getD, List.getElem?_eq_getElem hi]; rfl
noncomputable def qfh : Shape := ⟨[.j, .j, .j, .dat (.slice (.prod .str (.prod .str .unit))), .j, .j, .j, .j, .j, .dat (.slice (.prod .str (.prod .str .unit))), .j, .j, .j, .j, .j, .j, .j, .j, .j, .j, .j, .j, .j, .j, .j, .j, .j, .j, .j, .j, .j, .j, .j, .j, .j, .dat (.int .i64), .dat (.int .i64), .j, .j, .j, .j, .j, .j, .j, .j, .j, .j, .j, .j], [[]], [], []⟩
noncomputable def qi5 : List (Ex × Shape) := [(.ret, ⟨[.j, .j, .j, .j, .j, .j, .j, .j, .dat .bool, .j, .j, .j, .j, .j, .j, .j, .j, .j, .j, .j, .j, .j, .j, .j, .j, .j, .j, .j, .j, .j, .j, .j, .j, .j, .j, .j, .j, .j, .j, .j, .j, .j, .j, .j, .j, .j, .j, .j, .j], [[]], [], []⟩), (.exit 0, ⟨[.j, .j, .j, .j, .j, .j, .j, .j, .j, .j, .j, .j, .j, .j, .j, .j, .j, .j, .j, .j, .j, .j, .j, .j, .j, .j, .j, .j, .j, .j, .j, .j, .j, .j, .j, .j, .j, .j, .j, .j, .j, .j, .j, .j, .j, .j, .j, .j, .j], [[]], [], []⟩)]
abbrev qkg : Type := (List (ByteArray × (ByteArray × Unit))) × (List (ByteArray × (ByteArray × Unit))) × Int × Int × Unit
abbrev qkh : Type := ((Bool × Unit) ⊕ (Unit))
noncomputable def qg0 : Env := (Env.mk' tyF fnF gl (lookT []) (lookL []) (fun f c => match Nat.beq f 19 && Nat.beq c 0 with | true => some qfh | false => none))
theorem qy9 : EnvAll Tryz.prog qg0 := EnvAll.mk' tabs _ (qb trivial) (qa trivial)
noncomputable def qi4 : List Lp := []
noncomputable def qfi (rec : qkg → Option qkh) (want : (List (ByteArray × (ByteArray × Unit)))) (x : (List (ByteArray × (ByteArray × Unit)))) (v : Int) (v1 : Int) : Option qkh :=
  cond' ((decide (v1 < v))) (
    cond' (decide (0 ≤ v1 ∧ v1 < ((x.length : Nat) : Int))) (
    cond' (decide (0 ≤ v1 ∧ v1 < ((want.length : Nat) : Int))) (
    cond' ((!((((x.getD v1.toNat (ByteArray.empty, ByteArray.empty, ())).1).toList == ((want.getD v1.toNat (ByteArray.empty, ByteArray.empty, ())).1).toList) && (((((x.getD v1.toNat (ByteArray.empty, ByteArray.empty, ())).2).1).toList == (((want.getD v1.toNat (ByteArray.empty, ByteArray.empty, ())).2).1).toList) && true)))) (
      some (.inl (false, ()))) (
      rec (want, x, v, (IntKind.i64.wrap (v1 + (1 : Int))), ()))) none) none) (
    some (.inr ()))
noncomputable def qiq : Nat → qkg → Option qkh
  | 0, _ => none
  | n + 1, x => qfi (qiq n) x.1 x.2.1 x.2.2.1 x.2.2.2.1
theorem qpt (fu : Nat) (want : (List (ByteArray × (ByteArray × Unit)))) (x : (List (ByteArray × (ByteArray × Unit)))) (v : Int) (v1 : Int) : qiq (fu + 1) (want, x, v, v1, ()) = qfi (qiq fu) want x v v1 := rfl
theorem qxc (fu : Nat) (want : (List (ByteArray × (ByteArray × Unit)))) (x : (List (ByteArray × (ByteArray × Unit)))) (v : Int) (v1 : Int) : ev qg0 (fu + 1) 19 0 (.loop (loopAt Tryz.f19 0)) (qfh.enc qi4 (want, x, v, v1, ())) (exitD qi5) = qfi (fun x => ev qg0 fu 19 0 (.loop (loopAt Tryz.f19 0)) (qfh.enc qi4 x) (exitD qi5)) want x v v1 := by kernel_rfl
theorem q0g (n : Nat) (x : qkg) : ev qg0 n 19 0 (.loop (loopAt Tryz.f19 0)) (qfh.enc qi4 x) (exitD qi5) = qiq n x :=
  fuel_eq (f := fun n x => ev qg0 n 19 0 (.loop (loopAt Tryz.f19 0)) (qfh.enc qi4 x) (exitD qi5)) (st := fun rec x => qfi rec x.1 x.2.1 x.2.2.1 x.2.2.2.1) (fun _ => rfl) (fun n x => qxc n x.1 x.2.1 x.2.2.1 x.2.2.2.1) qiq (fun _ => rfl) (fun _ _ => rfl) n x
def qmy : qkg → Option qkh
  | (want, x, v, v1, ()) => wh (v = x.length ∧ v1 = 0 ∧ x.length = want.length ∧ x.length ≤ 1000) (match eqAll x want with
    | true => .inr ()
    | false => .inl (false, ()))
theorem qqo (want x : List FracT) (hl : x.length = want.length) (h : x.length ≤ 1000) : ∀ (j k : Nat), k + j = x.length → qiq (j + 1) (want, x, (x.length : Int), (k : Int), ()) = some (match eqAll (x.drop k) (want.drop k) with
    | true => .inr ()
    | false => .inl (false, ()))
  | 0, k, hk => by
    rw [qpt]
    simp only [qfi]
    rw [cond'_neg (by omega), List.drop_eq_nil_of_le (by omega)]
    rfl
  | j + 1, k, hk => by
    have ih := qqo want x hl h j (k + 1) (by omega)
    rw [qpt]
    simp only [qfi, Int.toNat_natCast]
    rw [cond'_pos (by omega), cond'_pos (by omega), cond'_pos (by omega), drop_getF (l := x) (i := k) (by omega), drop_getF (l := want) (i := k) (by omega), eqAll, w64 (by omega) (by omega)]
    have e : (((x.getD k F0).1.toList == (want.getD k F0).1.toList) && (((x.getD k F0).2.1.toList == (want.getD k F0).2.1.toList) && true)) = eqF (x.getD k F0) (want.getD k F0) := rfl
    rw [e]
    cases eqF (x.getD k F0) (want.getD k F0) with
    | false => rfl
    | true => exact ih
theorem q0h (x : qkg) (y : qkh) (h : qmy x = some y) : ∃ n, qiq n x = some y := by
  obtain ⟨want, x, v, v1, ⟨⟩⟩ := x
  obtain ⟨⟨h1, h2, h3, h4⟩, rfl⟩ := wh_some h
  subst h1; subst h2
  exact ⟨_, qqo want x h3 h4 x.length 0 (by omega)⟩
noncomputable def qtm : LoopC := ⟨qfh, qi5, qmy⟩
theorem qyp : LoopSpec Tryz.prog gl 19 0 qtm := qd (canon := qi4) .nil (fun c hc x y h => by
  obtain rfl := loopAt_eq (fn := Tryz.f19) Tryz.func19 (by kernel_rfl) hc
  obtain ⟨n, hn⟩ := q0h x y h
  exact ⟨qg0, n, rfl, qy9, (q0g n x).trans hn⟩)
noncomputable def qsx : Env := (Env.mk' tyF fnF gl (lookT [(12, ⟨[(false, (.prod (.slice (.int .i64)) (.prod (.int .i64) (.prod (.slice (.int .i64)) .unit)))), (false, (.slice (.int .i64)))], [(false, (.slice (.prod .str (.prod .str .unit)))), (false, (.int .i64)), (false, (.int .i64))], qm⟩)]) (lookL [(19, 0, [qtm])]) (fun _ _ => none))
theorem q2j : EnvAll Tryz.prog qsx := EnvAll.mk' tabs _ (qb ⟨spec_locate_Locate, trivial⟩) (qa ⟨⟨qyp, trivial⟩, trivial⟩)
noncomputable def law22_finds (g : ((List Int) × (Int × ((List Int) × Unit)))) (target : (List Int)) (at2 : Int) (want : (List (ByteArray × (ByteArray × Unit)))) : Option (Bool × Unit) :=
  (qm (g, target, ())).bind fun y1 =>
  cond' ((y1.2.2.1 != (0 : Int))) (
    some (false, ())) (
    cond' ((y1.2.1 != at2)) (
      some (false, ())) (
      cond' ((((y1.1.length : Nat) : Int) != ((want.length : Nat) : Int))) (
        some (false, ())) (
        (qmy (want, y1.1, ((y1.1.length : Nat) : Int), (0 : Int), ())).bind fun y2 =>
        match y2 with
        | .inl a3 =>
          some (a3.1, ())
        | .inr b4 =>
          some (true, ()))))
theorem q23 (g : ((List Int) × (Int × ((List Int) × Unit)))) (target : (List Int)) (at2 : Int) (want : (List (ByteArray × (ByteArray × Unit)))) : evFn qsx 50 19 [(false, (.prod (.slice (.int .i64)) (.prod (.int .i64) (.prod (.slice (.int .i64)) .unit)))), (false, (.arr 3 (.int .i64))), (false, (.int .i64)), (false, (.slice (.prod .str (.prod .str .unit))))] [(false, .bool)] (g, target, at2, want, ()) = law22_finds g target at2 want := by kernel_rfl
theorem locV_len (g : GridT) (t : List Int) : (locV g t).1.length ≤ 3 := by
  unfold locV
  split
  · split
    · exact Nat.le_refl _
    · exact Nat.zero_le _
  · exact Nat.zero_le _
def findsV (g : GridT) (t : List Int) (at1 : Int) (want : List FracT) : Bool :=
  ((locV g t).2.2.1 == 0) && (((locV g t).2.1 == at1) && (decide ((locV g t).1.length = want.length) && eqAll (locV g t).1 want))
def qi (x : GridT × List Int × Int × List FracT × Unit) : Option (Bool × Unit) := wh (x.1.1.length ≤ 1000000 ∧ x.1.2.2.1.length ≤ 1000000) (findsV x.1 x.2.1 x.2.2.1 x.2.2.2.1, ())
theorem q24 (x : GridT × List Int × Int × List FracT × Unit) (y : Bool × Unit) (h : qi x = some y) : law22_finds x.1 x.2.1 x.2.2.1 x.2.2.2.1 = some y := by
  obtain ⟨g, t, at1, want, ⟨⟩⟩ := x
  obtain ⟨h1, rfl⟩ := wh_some h
  have hl : qm (g, t, ()) = some (locV g t) := wh_pos h1
  have h3 := locV_len g t
  simp only [law22_finds, hl, Option.bind_some, findsV]
  generalize locV g t = r at *
  obtain ⟨xs, n, e, ⟨⟩⟩ := r
  simp only at h3 ⊢
  by_cases he : e = 0
  case neg => rw [cond'_bne_ne he, show (e == 0) = false by simpa using he]; rfl
  rw [cond'_bne_eq he, show (e == 0) = true by simpa using he, Bool.true_and]
  by_cases hn : n = at1
  case neg => rw [cond'_bne_ne hn, show (n == at1) = false by simpa using hn]; rfl
  rw [cond'_bne_eq hn, show (n == at1) = true by simpa using hn, Bool.true_and]
  by_cases hw : xs.length = want.length
  case neg => rw [cond'_bne_ne (by omega), decide_eq_false hw]; rfl
  have g0 : qmy (want, xs, (xs.length : Int), (0 : Int), ()) = some (match eqAll xs want with
    | true => .inr ()
    | false => .inl (false, ())) := wh_pos ⟨rfl, rfl, hw, by omega⟩
  rw [cond'_bne_eq (by omega), decide_eq_true hw, Bool.true_and, g0]
  cases eqAll xs want <;> rfl
theorem spec_law22_finds : FnSpec Tryz.prog gl 19 ⟨[(false, (.prod (.slice (.int .i64)) (.prod (.int .i64) (.prod (.slice (.int .i64)) .unit)))), (false, (.arr 3 (.int .i64))), (false, (.int .i64)), (false, (.slice (.prod .str (.prod .str .unit))))], [(false, .bool)], qi⟩ := qe fun x y h => ⟨qsx, 50, rfl, q2j, (q23 x.1 x.2.1 x.2.2.1 x.2.2.2.1).trans (q24 x y h)⟩
end
end Go.AV
end
section
set_option linter.unusedVariables false
set_option linter.unusedSimpArgs false
set_option maxRecDepth 100000
namespace Go.AV
open Go Go.Proofs
noncomputable section
noncomputable def qfj : Shape := ⟨[.loc 0 [], .loc 1 [], .j, .j, .j, .dat (.int .i64), .j, .j, .j, .j, .j, .j, .j, .j, .j, .j, .j, .j, .j, .j, .j, .j, .j, .j, .j], [[.j, .j, .j, .j, .j, .j, .j, .j, .j, .j, .j, .j, .j, .j, .j, .j, .j, .j, .j, .j, .j, .j, .j, .j, .j, .j, .j, .j, .j, .j, .j, .j, .j, .j, .j, .j, .j, .j, .j, .j, .j, .j, .j, .j, .j, .j, .j, .j, .j, .j, .j, .j, .j, .j, .j, .j, .j, .j, .j, .j, .j, .j, .j, .j, .j, .j, .j, .j, .j, .j, .j, .j, .j, .j, .j, .j, .j, .j, .j, .j, .j, .j, .j, .j, .j, .j, .j, .j, .j, .j, .j, .j, .j, .j, .j, .j, .j, .j, .j, .j, .j, .j], []], [.box false (.agg [.nils, .dat (.int .i64), .nils]), .box false (.agg [.own 2 (.int .i64), .dat (.int .i64), .own 3 (.int .i64)]), .row false (.int .i64), .row false (.int .i64)], []⟩
noncomputable def qi7 : List (Ex × Shape) := [(.exit 0, ⟨[.loc 0 [], .loc 1 [], .j, .j, .j, .j, .j, .j, .j, .j, .j, .j, .j, .j, .j, .j, .j, .j, .j, .j, .j, .j, .j, .j, .j], [[.j, .j, .j, .j, .j, .j, .j, .j, .j, .j, .j, .j, .j, .j, .j, .j, .j, .j, .j, .j, .j, .j, .j, .j, .j, .j, .j, .j, .j, .j, .j, .j, .j, .j, .j, .j, .j, .j, .j, .j, .j, .j, .j, .j, .j, .j, .j, .j, .j, .j, .j, .j, .j, .j, .j, .j, .j, .j, .j, .j, .j, .j, .j, .j, .j, .j, .j, .j, .j, .j, .j, .j, .j, .j, .j, .j, .j, .j, .j, .j, .j, .j, .j, .j, .j, .j, .j, .j, .j, .j, .j, .j, .j, .j, .j, .j, .j, .j, .j, .j, .j, .j], []], [.box false (.agg [.nils, .dat (.int .i64), .nils]), .box false (.agg [.own 2 (.int .i64), .dat (.int .i64), .own 3 (.int .i64)]), .row false (.int .i64), .row false (.int .i64)], []⟩)]
abbrev qki : Type := Int × Int × Int × (List Int) × (List Int) × Unit
abbrev qkj : Type := (Int × Int × (List Int) × (List Int) × Unit)
noncomputable def qr1 : Env := Env.mk' tyF fnF gl (lookT []) (lookL []) (fun f c => match Nat.beq f 20 && Nat.beq c 0 with | true => some qfj | false => none)
theorem qxd : EnvAll Tryz.prog qr1 := EnvAll.mk' tabs _ (qb trivial) (qa trivial)
noncomputable def qg1 : Env := (qr1).up 1000
theorem qza : EnvAll Tryz.prog qg1 := EnvAll.up (qxd) 1000
noncomputable def qi6 : List Lp := []
noncomputable def qn2 (rec : qki → Option qkj) (v : Int) (v1 : Int) (g : Int) (g1 : (List Int)) (g2 : (List Int)) : Option qkj :=
  cond' ((decide (v < (8 : Int)))) (
    (some (IntKind.i64.wrap ((65535 : Int) * (IntKind.i64.wrap (v.tdiv (4 : Int)))))).bind fun z1 =>
    (some (IntKind.i64.wrap ((65535 : Int) * ((IntKind.i64.wrap (v.tdiv (2 : Int))).tmod (2 : Int))))).bind fun z2 =>
    cond' (decide ((g2.length + [z1, z2, (IntKind.i64.wrap ((65535 : Int) * (v.tmod (2 : Int))))].length) * 8 ≤ 140737488355328)) (
    rec ((IntKind.i64.wrap (v + (1 : Int))), v1, g, g1, (g2 ++ [z1, z2, (IntKind.i64.wrap ((65535 : Int) * (v.tmod (2 : Int))))]), ())) none) (
    some (v1, g, g1, g2, ()))
noncomputable def qod : Nat → qki → Option qkj
  | 0, _ => none
  | n + 1, x => qn2 (qod n) x.1 x.2.1 x.2.2.1 x.2.2.2.1 x.2.2.2.2.1
theorem qxe (fu : Nat) (v : Int) (v1 : Int) (g : Int) (g1 : (List Int)) (g2 : (List Int)) : ev qg1 (fu + 1) 20 0 (.loop (loopAt Tryz.f20 0)) (qfj.enc qi6 (v, v1, g, g1, g2, ())) (exitD qi7) = qn2 (fun x => ev qg1 fu 20 0 (.loop (loopAt Tryz.f20 0)) (qfj.enc qi6 x) (exitD qi7)) v v1 g g1 g2 := by kernel_rfl
theorem q0j (n : Nat) (x : qki) : ev qg1 n 20 0 (.loop (loopAt Tryz.f20 0)) (qfj.enc qi6 x) (exitD qi7) = qod n x :=
  fuel_eq (f := fun n x => ev qg1 n 20 0 (.loop (loopAt Tryz.f20 0)) (qfj.enc qi6 x) (exitD qi7)) (st := fun rec x => qn2 rec x.1 x.2.1 x.2.2.1 x.2.2.2.1 x.2.2.2.2.1) (fun _ => rfl) (fun n x => qxe n x.1 x.2.1 x.2.2.1 x.2.2.2.1 x.2.2.2.2.1) qod (fun _ => rfl) (fun _ _ => rfl) n x
def qmz : qki → Option qkj
  | (v, v1, g, g1, g2, ()) => wh (v = 0 ∧ g2 = []) (v1, g, g1, cubeD, ())
theorem q0k (x : qki) (y : qkj) (h : qmz x = some y) : ∃ n, qod n x = some y := by
  obtain ⟨v, v1, g, g1, g2, ⟨⟩⟩ := x
  obtain ⟨⟨h1, h2⟩, rfl⟩ := wh_some h
  subst h1; subst h2
  exact ⟨9, rfl⟩
noncomputable def qo0 : LoopC := ⟨qfj, qi7, qmz⟩
theorem qqc : LoopSpec Tryz.prog gl 20 0 qo0 := qd (canon := qi6) .nil (fun c hc x y h => by
  obtain rfl := loopAt_eq (fn := Tryz.f20) Tryz.func20 (by kernel_rfl) hc
  obtain ⟨n, hn⟩ := q0k x y h
  exact ⟨qg1, n, rfl, qza, (q0j n x).trans hn⟩)
noncomputable def qfk : Shape := ⟨[.loc 0 [], .loc 1 [], .j, .j, .j, .dat (.int .i64), .j, .j, .j, .j, .j, .j, .j, .j, .j, .j, .j, .j, .j, .j, .j, .j, .j, .j, .j], [[.j, .j, .j, .j, .j, .j, .j, .j, .j, .j, .j, .j, .j, .j, .j, .j, .agg [.own 2 (.int .i64), .dat (.int .i64), .own 3 (.int .i64)], .j, .j, .j, .j, .j, .j, .j, .j, .j, .j, .j, .j, .j, .j, .j, .j, .j, .j, .j, .j, .j, .j, .j, .j, .j, .j, .j, .j, .j, .j, .j, .j, .j, .j, .j, .j, .j, .j, .j, .j, .j, .j, .j, .j, .j, .j, .j, .j, .j, .j, .j, .j, .j, .j, .j, .j, .j, .j, .j, .j, .j, .j, .j, .j, .j, .j, .j, .j, .j, .j, .j, .j, .j, .j, .j, .j, .j, .j, .j, .j, .j, .j, .j, .j, .j], []], [.box false (.agg [.nils, .dat (.int .i64), .nils]), .box false (.agg [.own 4 (.int .i64), .dat (.int .i64), .own 5 (.int .i64)]), .row false (.int .i64), .row false (.int .i64), .row false (.int .i64), .row false (.int .i64)], []⟩
noncomputable def qi9 : List (Ex × Shape) := [(.exit 0, ⟨[.loc 0 [], .loc 1 [], .j, .j, .j, .j, .j, .j, .j, .j, .j, .j, .j, .j, .j, .j, .j, .j, .j, .j, .j, .j, .j, .j, .j], [[.j, .j, .j, .j, .j, .j, .j, .j, .j, .j, .j, .j, .j, .j, .j, .j, .agg [.own 2 (.int .i64), .dat (.int .i64), .own 3 (.int .i64)], .j, .j, .j, .j, .j, .j, .j, .j, .j, .j, .j, .j, .j, .j, .j, .j, .j, .j, .j, .j, .j, .j, .j, .j, .j, .j, .j, .j, .j, .j, .j, .j, .j, .j, .j, .j, .j, .j, .j, .j, .j, .j, .j, .j, .j, .j, .j, .j, .j, .j, .j, .j, .j, .j, .j, .j, .j, .j, .j, .j, .j, .j, .j, .j, .j, .j, .j, .j, .j, .j, .j, .j, .j, .j, .j, .j, .j, .j, .j, .j, .j, .j, .j, .j, .j], []], [.box false (.agg [.nils, .dat (.int .i64), .nils]), .box false (.agg [.own 4 (.int .i64), .dat (.int .i64), .own 5 (.int .i64)]), .row false (.int .i64), .row false (.int .i64), .row false (.int .i64), .row false (.int .i64)], []⟩)]
abbrev qkk : Type := Int × Int × Int × Int × (List Int) × (List Int) × (List Int) × (List Int) × Unit
abbrev qkl : Type := (Int × Int × Int × (List Int) × (List Int) × (List Int) × (List Int) × Unit)
noncomputable def qr2 : Env := Env.mk' tyF fnF gl (lookT []) (lookL []) (fun f c => match Nat.beq f 20 && Nat.beq c 0 with | true => some qfk | false => none)
theorem qxf : EnvAll Tryz.prog qr2 := EnvAll.mk' tabs _ (qb trivial) (qa trivial)
noncomputable def qg2 : Env := (qr2).up 1000
theorem qzb : EnvAll Tryz.prog qg2 := EnvAll.up (qxf) 1000
noncomputable def qi8 : List Lp := []
noncomputable def qn3 (rec : qkk → Option qkl) (v : Int) (o : Int) (v1 : Int) (g : Int) (v2 : (List Int)) (v3 : (List Int)) (g1 : (List Int)) (g2 : (List Int)) : Option qkl :=
  cond' ((decide (v < (8 : Int)))) (
    (some (IntKind.i64.wrap ((65535 : Int) * (IntKind.i64.wrap (v.tdiv (4 : Int)))))).bind fun z1 =>
    (some (IntKind.i64.wrap ((65535 : Int) * ((IntKind.i64.wrap (v.tdiv (2 : Int))).tmod (2 : Int))))).bind fun z2 =>
    cond' (decide ((g2.length + [z1, z2, (IntKind.i64.wrap ((65535 : Int) * (v.tmod (2 : Int))))].length) * 8 ≤ 140737488355328)) (
    rec ((IntKind.i64.wrap (v + (1 : Int))), o, v1, g, v2, v3, g1, (g2 ++ [z1, z2, (IntKind.i64.wrap ((65535 : Int) * (v.tmod (2 : Int))))]), ())) none) (
    some (o, v1, g, v2, v3, g1, g2, ()))
noncomputable def qoe : Nat → qkk → Option qkl
  | 0, _ => none
  | n + 1, x => qn3 (qoe n) x.1 x.2.1 x.2.2.1 x.2.2.2.1 x.2.2.2.2.1 x.2.2.2.2.2.1 x.2.2.2.2.2.2.1 x.2.2.2.2.2.2.2.1
theorem qxg (fu : Nat) (v : Int) (o : Int) (v1 : Int) (g : Int) (v2 : (List Int)) (v3 : (List Int)) (g1 : (List Int)) (g2 : (List Int)) : ev qg2 (fu + 1) 20 0 (.loop (loopAt Tryz.f20 0)) (qfk.enc qi8 (v, o, v1, g, v2, v3, g1, g2, ())) (exitD qi9) = qn3 (fun x => ev qg2 fu 20 0 (.loop (loopAt Tryz.f20 0)) (qfk.enc qi8 x) (exitD qi9)) v o v1 g v2 v3 g1 g2 := by kernel_rfl
theorem q0l (n : Nat) (x : qkk) : ev qg2 n 20 0 (.loop (loopAt Tryz.f20 0)) (qfk.enc qi8 x) (exitD qi9) = qoe n x :=
  fuel_eq (f := fun n x => ev qg2 n 20 0 (.loop (loopAt Tryz.f20 0)) (qfk.enc qi8 x) (exitD qi9)) (st := fun rec x => qn3 rec x.1 x.2.1 x.2.2.1 x.2.2.2.1 x.2.2.2.2.1 x.2.2.2.2.2.1 x.2.2.2.2.2.2.1 x.2.2.2.2.2.2.2.1) (fun _ => rfl) (fun n x => qxg n x.1 x.2.1 x.2.2.1 x.2.2.2.1 x.2.2.2.2.1 x.2.2.2.2.2.1 x.2.2.2.2.2.2.1 x.2.2.2.2.2.2.2.1) qoe (fun _ => rfl) (fun _ _ => rfl) n x
def qm0 : qkk → Option qkl
  | (v, o, v1, g, v2, v3, g1, g2, ()) => wh (v = 0 ∧ g2 = []) (o, v1, g, v2, v3, g1, cubeD, ())
theorem q0m (x : qkk) (y : qkl) (h : qm0 x = some y) : ∃ n, qoe n x = some y := by
  obtain ⟨v, o, v1, g, v2, v3, g1, g2, ⟨⟩⟩ := x
  obtain ⟨⟨h1, h2⟩, rfl⟩ := wh_some h
  subst h1; subst h2
  exact ⟨9, rfl⟩
noncomputable def qo1 : LoopC := ⟨qfk, qi9, qm0⟩
theorem qqd : LoopSpec Tryz.prog gl 20 0 qo1 := qd (canon := qi8) .nil (fun c hc x y h => by
  obtain rfl := loopAt_eq (fn := Tryz.f20) Tryz.func20 (by kernel_rfl) hc
  obtain ⟨n, hn⟩ := q0m x y h
  exact ⟨qg2, n, rfl, qzb, (q0l n x).trans hn⟩)
noncomputable def qfl : Shape := ⟨[.j, .loc 0 [], .loc 1 [], .j, .j, .j, .j, .j, .j, .j, .j, .j, .j, .j, .j, .j, .j, .j, .j, .j, .dat (.int .i64), .dat (.int .i64), .j, .j, .j, .j, .j, .j, .j, .j, .j, .j, .j, .j, .j, .j, .j, .j, .j, .j, .j, .j, .j, .j, .j, .j, .j, .j, .j, .j, .j, .j, .j, .j, .j, .j, .j, .j, .j, .j, .j, .j, .j, .j, .j, .j, .j, .j, .j, .j, .j, .j, .j, .j, .j, .j, .j, .j, .j, .j, .j, .j, .j, .j, .j, .j, .j, .j, .j, .j, .j, .j, .j, .j, .j, .j, .j, .j, .j, .j, .j, .j], [[]], [.box false (.agg [.own 2 (.int .i64), .dat (.int .i64), .own 3 (.int .i64)]), .box false (.agg [.own 4 (.int .i64), .dat (.int .i64), .own 5 (.int .i64)]), .row false (.int .i64), .row false (.int .i64), .row false (.int .i64), .row false (.int .i64)], []⟩
noncomputable def qjb : List (Ex × Shape) := [(.exit 0, ⟨[.j, .loc 0 [], .loc 1 [], .j, .j, .j, .j, .j, .j, .j, .j, .j, .j, .j, .j, .j, .j, .j, .j, .j, .j, .j, .j, .j, .j, .j, .j, .j, .j, .j, .j, .j, .j, .j, .j, .j, .j, .j, .j, .j, .j, .j, .j, .j, .j, .j, .j, .j, .j, .j, .j, .j, .j, .j, .j, .j, .j, .j, .j, .j, .j, .j, .j, .j, .j, .j, .j, .j, .j, .j, .j, .j, .j, .j, .j, .j, .j, .j, .j, .j, .j, .j, .j, .j, .j, .j, .j, .j, .j, .j, .j, .j, .j, .j, .j, .j, .j, .j, .j, .j, .j, .j], [[]], [.box false (.agg [.own 2 (.int .i64), .dat (.int .i64), .own 3 (.int .i64)]), .box false (.agg [.own 4 (.int .i64), .dat (.int .i64), .own 5 (.int .i64)]), .row false (.int .i64), .row false (.int .i64), .row false (.int .i64), .row false (.int .i64)], []⟩)]
abbrev qkm : Type := Int × Int × Int × Int × (List Int) × (List Int) × (List Int) × (List Int) × Unit
abbrev qkn : Type := (Int × Int × (List Int) × (List Int) × (List Int) × (List Int) × Unit)
noncomputable def qr3 : Env := Env.mk' tyF fnF gl (lookT []) (lookL []) (fun f c => match Nat.beq f 17 && Nat.beq c 0 with | true => some qfl | false => none)
theorem qxh : EnvAll Tryz.prog qr3 := EnvAll.mk' tabs _ (qb trivial) (qa trivial)
noncomputable def qg3 : Env := (qr3).up 1000
theorem qzc : EnvAll Tryz.prog qg3 := EnvAll.up (qxh) 1000
noncomputable def qja : List Lp := []
noncomputable def qn4 (rec : qkm → Option qkn) (v : Int) (v1 : Int) (g : Int) (flat : Int) (g1 : (List Int)) (g2 : (List Int)) (flat1 : (List Int)) (flat2 : (List Int)) : Option qkn :=
  cond' ((decide (v1 < v))) (
    cond' (decide (0 ≤ v1 ∧ v1 < ((flat2.length : Nat) : Int))) (
    rec (v, (IntKind.i64.wrap (v1 + (1 : Int))), g, flat, g1, g2, flat1, (flat2.set v1.toNat (7 : Int)), ())) none) (
    some (g, flat, g1, g2, flat1, flat2, ()))
noncomputable def qof : Nat → qkm → Option qkn
  | 0, _ => none
  | n + 1, x => qn4 (qof n) x.1 x.2.1 x.2.2.1 x.2.2.2.1 x.2.2.2.2.1 x.2.2.2.2.2.1 x.2.2.2.2.2.2.1 x.2.2.2.2.2.2.2.1
theorem qxi (fu : Nat) (v : Int) (v1 : Int) (g : Int) (flat : Int) (g1 : (List Int)) (g2 : (List Int)) (flat1 : (List Int)) (flat2 : (List Int)) : ev qg3 (fu + 1) 17 0 (.loop (loopAt Tryz.f17 0)) (qfl.enc qja (v, v1, g, flat, g1, g2, flat1, flat2, ())) (exitD qjb) = qn4 (fun x => ev qg3 fu 17 0 (.loop (loopAt Tryz.f17 0)) (qfl.enc qja x) (exitD qjb)) v v1 g flat g1 g2 flat1 flat2 := by kernel_rfl
theorem q0n (n : Nat) (x : qkm) : ev qg3 n 17 0 (.loop (loopAt Tryz.f17 0)) (qfl.enc qja x) (exitD qjb) = qof n x :=
  fuel_eq (f := fun n x => ev qg3 n 17 0 (.loop (loopAt Tryz.f17 0)) (qfl.enc qja x) (exitD qjb)) (st := fun rec x => qn4 rec x.1 x.2.1 x.2.2.1 x.2.2.2.1 x.2.2.2.2.1 x.2.2.2.2.2.1 x.2.2.2.2.2.2.1 x.2.2.2.2.2.2.2.1) (fun _ => rfl) (fun n x => qxi n x.1 x.2.1 x.2.2.1 x.2.2.2.1 x.2.2.2.2.1 x.2.2.2.2.2.1 x.2.2.2.2.2.2.1 x.2.2.2.2.2.2.2.1) qof (fun _ => rfl) (fun _ _ => rfl) n x
def qm1 : qkm → Option qkn
  | (v, v1, g, flat, g1, g2, flat1, flat2, ()) => wh (v = 24 ∧ v1 = 0 ∧ flat2 = cubeD) (g, flat, g1, g2, flat1, List.replicate 24 7, ())
theorem q0o (x : qkm) (y : qkn) (h : qm1 x = some y) : ∃ n, qof n x = some y := by
  obtain ⟨v, v1, g, flat, g1, g2, flat1, flat2, ⟨⟩⟩ := x
  obtain ⟨⟨h1, h2, h3⟩, rfl⟩ := wh_some h
  subst h1; subst h2; subst h3
  exact ⟨25, by kernel_rfl⟩
noncomputable def qtn : LoopC := ⟨qfl, qjb, qm1⟩
theorem qyq : LoopSpec Tryz.prog gl 17 0 qtn := qd (canon := qja) .nil (fun c hc x y h => by
  obtain rfl := loopAt_eq (fn := Tryz.f17) Tryz.func17 (by kernel_rfl) hc
  obtain ⟨n, hn⟩ := q0o x y h
  exact ⟨qg3, n, rfl, qzc, (q0n n x).trans hn⟩)
noncomputable def qw3 : Env := Env.mk' tyF fnF gl (lookT [(14, ⟨[(false, (.prod (.slice (.int .i64)) (.prod (.int .i64) (.prod (.slice (.int .i64)) .unit)))), (false, (.slice (.int .i64)))], [(false, (.int .i64)), (false, (.int .i64))], qdj⟩), (12, ⟨[(false, (.prod (.slice (.int .i64)) (.prod (.int .i64) (.prod (.slice (.int .i64)) .unit)))), (false, (.slice (.int .i64)))], [(false, (.slice (.prod .str (.prod .str .unit)))), (false, (.int .i64)), (false, (.int .i64))], qm⟩), (19, ⟨[(false, (.prod (.slice (.int .i64)) (.prod (.int .i64) (.prod (.slice (.int .i64)) .unit)))), (false, (.arr 3 (.int .i64))), (false, (.int .i64)), (false, (.slice (.prod .str (.prod .str .unit))))], [(false, .bool)], qi⟩), (18, ⟨[(false, (.int .i64)), (false, (.int .i64))], [(false, (.prod .str (.prod .str .unit)))], qf⟩)]) (lookL [(20, 0, [qo1, qo0]), (17, 0, [qtn])]) (fun _ _ => none)
theorem q1n : EnvAll Tryz.prog qw3 := EnvAll.mk' tabs _ (qb ⟨spec_locate_Holds, ⟨spec_locate_Locate, ⟨spec_law22_finds, ⟨spec_law22_of, trivial⟩⟩⟩⟩) (qa ⟨⟨qqd, ⟨qqc, trivial⟩⟩, ⟨⟨qyq, trivial⟩, trivial⟩⟩)
noncomputable def qsy : Env := (qw3).up 1000
theorem q2k : EnvAll Tryz.prog qsy := EnvAll.up (q1n) 1000
noncomputable def law22_works  : Option (Bool × Unit) :=
  (qmz ((0 : Int), (0 : Int), (3 : Int), [(2 : Int), (2 : Int), (2 : Int)], ([] : List Int), ())).bind fun y1 =>
  (qm0 ((0 : Int), y1.2.1, (0 : Int), (3 : Int), y1.2.2.1, y1.2.2.2.1, [(2 : Int), (2 : Int), (2 : Int)], ([] : List Int), ())).bind fun y2 =>
  (qm1 (((y2.2.2.2.2.2.2.1.length : Nat) : Int), (0 : Int), y2.1, y2.2.2.1, y2.2.2.2.1, y2.2.2.2.2.1, y2.2.2.2.2.2.1, y2.2.2.2.2.2.2.1, ())).bind fun y3 =>
  (qm ((y3.2.2.2.2.1, y3.2.1, y3.2.2.2.2.2.1, ()), [(7 : Int), (7 : Int), (7 : Int)], ())).bind fun y4 =>
  (qm ((y3.2.2.1, y3.1, y3.2.2.2.1, ()), [(0 : Int), (0 : Int), (65536 : Int)], ())).bind fun y5 =>
  (qm ((y3.2.2.1, y3.1, y3.2.2.2.1, ()), [(0 : Int), (0 : Int)], ())).bind fun y6 =>
  (qdj ((y3.2.2.1, y3.1, y3.2.2.2.1, ()), [(0 : Int), (0 : Int), (0 : Int)], ())).bind fun y7 =>
  (qf ((1 : Int), (5 : Int), ())).bind fun y8 =>
  (qf ((2 : Int), (5 : Int), ())).bind fun y9 =>
  (qf ((3 : Int), (5 : Int), ())).bind fun y10 =>
  (qi ((y3.2.2.1, y3.1, y3.2.2.2.1, ()), [(13107 : Int), (26214 : Int), (39321 : Int)], (5 : Int), [y8.1, y9.1, y10.1], ())).bind fun y11 =>
  cond' (y11.1) (
    (qf ((0 : Int), (1 : Int), ())).bind fun y12 =>
    (qf ((0 : Int), (1 : Int), ())).bind fun y13 =>
    (qf ((0 : Int), (1 : Int), ())).bind fun y14 =>
    (qi ((y3.2.2.1, y3.1, y3.2.2.2.1, ()), [(0 : Int), (0 : Int), (0 : Int)], (0 : Int), [y12.1, y13.1, y14.1], ())).bind fun y15 =>
    cond' (y15.1) (
      (qf ((1 : Int), (1 : Int), ())).bind fun y16 =>
      (qf ((1 : Int), (65535 : Int), ())).bind fun y17 =>
      (qf ((0 : Int), (1 : Int), ())).bind fun y18 =>
      (qi ((y3.2.2.1, y3.1, y3.2.2.2.1, ()), [(65535 : Int), (1 : Int), (0 : Int)], (0 : Int), [y16.1, y17.1, y18.1], ())).bind fun y19 =>
      cond' (y19.1) (
        cond' ((y7.1 == (6 : Int))) (
          cond' ((y7.2.1 == (0 : Int))) (
            cond' ((y4.2.2.1 == (4 : Int))) (
              cond' ((y5.2.2.1 == (2 : Int))) (
                some ((y6.2.2.1 == (2 : Int)), ())) (
                some (false, ()))) (
              some (false, ()))) (
            some (false, ()))) (
          some (false, ()))) (
        some (false, ()))) (
      some (false, ()))) (
    some (false, ()))
theorem q25  : evFn qsy 50 17 [] [(false, .bool)] () = law22_works  := by kernel_rfl
abbrev flatG : GridT := ([2, 2, 2], 3, List.replicate 24 7, ())
theorem of_val (n d : Int) (h : -1000000 ≤ n ∧ n ≤ 1000000 ∧ 0 < d ∧ d ≤ 1000000) : qf (n, d, ()) = some (fr n d, ()) := wh_pos (by simp only; omega)
theorem finds_val (g : GridT) (t : List Int) (at1 : Int) (want : List FracT) (h1 : g.1.length ≤ 1000000 ∧ g.2.2.1.length ≤ 1000000) (h : locV g t = (want, at1, 0, ())) : qi (g, t, at1, want, ()) = some (true, ()) := by
  have : findsV g t at1 want = true := by
    unfold findsV
    rw [h]
    simp [eqAll_refl]
  rw [← this]
  exact wh_pos h1
theorem loc_val (g : GridT) (t : List Int) {v : List FracT × Int × Int × Unit} (h1 : g.1.length ≤ 1000000 ∧ g.2.2.1.length ≤ 1000000) (h : locV g t = v) : qm (g, t, ()) = some v := by
  rw [← h]
  exact wh_pos h1
theorem holds_val (g : GridT) (t : List Int) {v : Int × Int × Unit} (h1 : g.1.length ≤ 1000000 ∧ g.2.2.1.length ≤ 1000000) (h : holdsV g t = v) : qdj (g, t, ()) = some v := by
  rw [← h]
  exact wh_pos h1
theorem ex1 : locV cubeG [13107, 26214, 39321] = ([fr 1 5, fr 2 5, fr 3 5], 5, 0, ()) := by kernel_rfl
theorem ex2 : locV cubeG [0, 0, 0] = ([fr 0 1, fr 0 1, fr 0 1], 0, 0, ()) := by kernel_rfl
theorem ex3 : locV cubeG [65535, 1, 0] = ([fr 1 1, fr 1 65535, fr 0 1], 0, 0, ()) := by kernel_rfl
theorem ex4 : locV flatG [7, 7, 7] = ([], 0, 4, ()) := by kernel_rfl
theorem ex5 : locV cubeG [0, 0, 65536] = ([], 0, 2, ()) := by kernel_rfl
theorem ex6 : locV cubeG [0, 0] = ([], 0, 2, ()) := by kernel_rfl
theorem ex7 : holdsV cubeG [0, 0, 0] = (6, 0, ()) := by kernel_rfl
def qmg (x : Unit) : Option (Bool × Unit) := some (true, ())
theorem q26 (x : Unit) (y : Bool × Unit) (h : qmg x = some y) : law22_works = some y := by
  rw [← h]
  have s : cubeG.1.length ≤ 1000000 ∧ cubeG.2.2.1.length ≤ 1000000 := by decide
  have s' : flatG.1.length ≤ 1000000 ∧ flatG.2.2.1.length ≤ 1000000 := by decide
  have a0 : qmz ((0 : Int), (0 : Int), (3 : Int), [(2 : Int), (2 : Int), (2 : Int)], ([] : List Int), ()) = some ((0 : Int), (3 : Int), [(2 : Int), (2 : Int), (2 : Int)], cubeD, ()) := wh_pos ⟨rfl, rfl⟩
  have a1 : qm0 ((0 : Int), (3 : Int), (0 : Int), (3 : Int), [(2 : Int), (2 : Int), (2 : Int)], cubeD, [(2 : Int), (2 : Int), (2 : Int)], ([] : List Int), ()) = some ((3 : Int), (0 : Int), (3 : Int), [(2 : Int), (2 : Int), (2 : Int)], cubeD, [(2 : Int), (2 : Int), (2 : Int)], cubeD, ()) := wh_pos ⟨rfl, rfl⟩
  have a2 : qm1 (((cubeD.length : Nat) : Int), (0 : Int), (3 : Int), (3 : Int), [(2 : Int), (2 : Int), (2 : Int)], cubeD, [(2 : Int), (2 : Int), (2 : Int)], cubeD, ()) = some ((3 : Int), (3 : Int), [(2 : Int), (2 : Int), (2 : Int)], cubeD, [(2 : Int), (2 : Int), (2 : Int)], List.replicate 24 7, ()) := wh_pos ⟨rfl, rfl, rfl⟩
  simp only [law22_works, a0, Option.bind_some, a1, a2, qmg]
  rw [loc_val flatG _ s' ex4, loc_val cubeG _ s ex5, loc_val cubeG _ s ex6, holds_val cubeG _ s ex7]
  simp only [Option.bind_some]
  rw [of_val 1 5 (by omega), of_val 2 5 (by omega), of_val 3 5 (by omega)]
  simp only [Option.bind_some]
  rw [finds_val cubeG _ 5 _ s ex1]
  simp only [Option.bind_some, cond'_true]
  rw [of_val 0 1 (by omega)]
  simp only [Option.bind_some]
  rw [finds_val cubeG _ 0 _ s ex2]
  simp only [Option.bind_some, cond'_true]
  rw [of_val 1 1 (by omega), of_val 1 65535 (by omega)]
  simp only [Option.bind_some]
  rw [finds_val cubeG _ 0 _ s ex3]
  rfl
theorem spec_law22_works : FnSpec Tryz.prog gl 17 ⟨[], [(false, .bool)], qmg⟩ := qe fun x y h => ⟨qsy, 50, rfl, q2k, (q25 ).trans (q26 x y h)⟩
end
end Go.AV
end
