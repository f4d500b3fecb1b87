/- Part 7 of what the laws of this seat lean on: C17, C18, C19, C20, C21, C22. -/
import Derived.Test.YtobpnmljijeadaaDoorK6
/- Contracts: Echo. -/
set_option linter.unusedVariables false
set_option linter.unusedSimpArgs false
namespace Go.Proofs.YtobpnmljijeadaaDoor.A
open Go

def eS : List Int → Int
  | [] => 0
  | x :: l => x * x + eS l
theorem eS_append : ∀ (a b : List Int), eS (a ++ b) = eS a + eS b
  | [], b => by simp [eS]
  | x :: a, b => by simp only [List.cons_append, eS, eS_append a b]; omega
theorem eS_nonneg : ∀ l, 0 ≤ eS l
  | [] => by simp [eS]
  | x :: l => by have := eS_nonneg l; have := sq_nonneg x; simp only [eS]; omega
theorem eS_take {l : List Int} (k : Nat) : eS (l.take k) ≤ eS l := by
  have h : eS (l.take k ++ l.drop k) = eS l := by rw [List.take_append_drop]
  rw [eS_append] at h
  have := eS_nonneg (l.drop k)
  omega
theorem eS_bound {B : Int} (hB : 0 ≤ B) : ∀ {l : List Int}, (∀ x ∈ l, -B ≤ x ∧ x ≤ B) → eS l ≤ B * B * l.length
  | [], _ => by simp [eS]
  | x :: l, h => by
    have h1 := h x (by simp)
    have h2 := eS_bound hB (l := l) (fun q hq => h q (by simp [hq]))
    have h3 := mul_bound (a := x) (b := x) (A := B) (B := B) h1.1 h1.2 h1.1 h1.2
    simp only [eS, List.length_cons, Int.natCast_add, Int.mul_add, Int.natCast_one, Int.mul_one]
    omega
theorem woL_bound {l : List Int} {p q : Int} (hl : NumB l) (hq : -64 ≤ q ∧ q ≤ 64) : ∀ x ∈ woL l p q, -131073 ≤ x ∧ x ≤ 131073 := fun x hx => by
  simp only [woL, List.mem_map, List.mem_range] at hx
  obtain ⟨i, hi, rfl⟩ := hx
  have hb1 := hl.2 i
  have hb2 := hl.2 ((i : Int) - p).toNat
  have hb3 := q_bound hq hb2
  have hb4 := ediv_bound (a := q * l.getD ((i : Int) - p).toNat 0) (b := 64) (A := 4194304) (by omega) (by omega) (by omega)
  have hb5 : -65536 ≤ q * l.getD ((i : Int) - p).toNat 0 / 64 ∧ q * l.getD ((i : Int) - p).toNat 0 / 64 ≤ 65536 := by omega
  unfold woAt
  split <;> omega

abbrev St3 := Int × Int × Int
def stepE (p r n : Int) (s : St3) : St3 := bif bif decide (s.1 > 0) then decide (n ≥ s.2.2) else false then s else (p, r, n)
def echoP (l : List Int) (p : Int) (parts : List Int) (s : St3) : St3 := parts.foldl (fun s r => stepE p r (eS (woL l p r)) s) s
def echoF (l : List Int) (parts : List Int) : Nat → St3
  | 0 => (0, 0, 0)
  | k + 1 => echoP l ((k : Int) + 1) parts (echoF l parts k)
def echoOk (longest : Int) (parts : List Int) : Bool := within longest 1 63 && (within parts.length 1 16 && parts.all fun r => within r (-64) 64)
def EchoS (l : List Int) (longest : Int) (parts : List Int) : St3 × Int := bif numbersB l then (bif echoOk longest parts then (echoF l parts longest.toNat, 0) else ((0, 0, 0), 95)) else ((0, 0, 0), 3)
theorem echo1_ok (n : Int) : Pure Tryd.prog GG 83 [I n] (Bo (!within n (-64) 64)) := by
  refine Pure.fn tys_ok Tryd.func83 (by kernel_rfl) rfl rfl fun O => ?_
  repeat refine W_seq ?_
  refine' W_run tys_ok EE_ok false false [] rfl ?ap2 ?k2
  case ap2 => repeat' (first | exact True.intro | exact ACoeL.refl _ | assumption | omega | rfl | (dsimp only; omega) | (refine ⟨?_, ?_⟩) | intro (_ : _ = true) | exact fun _ _ => rfl | fail)
  repeat refine W_seq ?_
  refine' W_run tys_ok EE_ok false false [Hint.of (repeats_ok _)] rfl ?ap3 ?k3
  case ap3 => repeat' (first | exact True.intro | exact ACoeL.refl _ | assumption | omega | rfl | (dsimp only; omega) | (refine ⟨?_, ?_⟩) | intro (_ : _ = true) | exact fun _ _ => rfl | fail)
  refine W_ret ⟨_, _, rfl, ?_, ACoe.refl _⟩
  · repeat' (first | exact True.intro | exact ACoeL.refl _ | assumption | omega | rfl | (dsimp only; omega) | (refine ⟨?_, ?_⟩) | intro (_ : _ = true) | exact fun _ _ => rfl | fail)

theorem Echo_ok (l : List Int) (longest : Int) (parts : List Int) (hl : l.length < 1152921504606846976) (hpl : parts.length < 1152921504606846976) :
    Pure Tryd.prog GG 39 [aL l, I longest, aL parts] (.tup [I (EchoS l longest parts).1.1, I (EchoS l longest parts).1.2.1, I (EchoS l longest parts).1.2.2, I (EchoS l longest parts).2]) := by
  have hc : ∀ a b c : Bool, (bif (bif !a then true else !b) then true else c) = !(a && (b && !c)) := by decide
  refine Pure.fn tys_ok Tryd.func39 (by kernel_rfl) rfl rfl fun O => ?_
  repeat refine W_seq ?_
  refine' W_run tys_ok EE_ok false false [] rfl ?ap6 ?k6
  case ap6 => repeat' (first | exact True.intro | exact ACoeL.refl _ | assumption | omega | rfl | (dsimp only; omega) | (refine ⟨?_, ?_⟩) | intro (_ : _ = true) | exact fun _ _ => rfl | fail)
  repeat refine W_seq ?_
  refine' W_run tys_ok EE_ok false false [Hint.of (numbers_ok l hl)] rfl ?ap7 ?k7
  case ap7 => repeat' (first | exact True.intro | exact ACoeL.refl _ | assumption | omega | rfl | (dsimp only; omega) | (refine ⟨?_, ?_⟩) | intro (_ : _ = true) | exact fun _ _ => rfl | fail)
  repeat refine W_seq ?_
  refine W_if rfl True.intro (fun h1 => ?_) (fun h1 => ?_)
  · simp only [Bool.not_eq_true'] at h1
    repeat refine W_seq ?_
    refine' W_run tys_ok EE_ok false false [] rfl ?ap9 ?k9
    case ap9 => repeat' (first | exact True.intro | exact ACoeL.refl _ | assumption | omega | rfl | (dsimp only; omega) | (refine ⟨?_, ?_⟩) | intro (_ : _ = true) | exact fun _ _ => rfl | fail)
    refine W_ret ⟨_, _, rfl, ?_, (by simp only [EchoS, h1, cond_false]; exact ACoe.refl _)⟩
    · repeat' (first | exact True.intro | exact ACoeL.refl _ | assumption | omega | rfl | (dsimp only; omega) | (refine ⟨?_, ?_⟩) | intro (_ : _ = true) | exact fun _ _ => rfl | fail)
  simp only [Bool.not_eq_false'] at h1
  obtain ⟨hnb, hl1⟩ := NumB.of h1
  refine W_skip ?_
  repeat refine W_seq ?_
  refine' W_run tys_ok EE_ok false false [Hint.of (within_ok longest 1 63), Hint.of (within_ok parts.length 1 16), Hint.of (ContainsFunc_ok parts hpl 83 _ (fun n _ => echo1_ok n))] rfl ?ap11 ?k11
  case ap11 => repeat' (first | exact True.intro | exact ACoeL.refl _ | assumption | omega | rfl | (dsimp only; omega) | (refine ⟨?_, ?_⟩) | intro (_ : _ = true) | exact fun _ _ => rfl | fail)
  repeat refine W_seq ?_
  refine W_if rfl True.intro (fun h2 => ?_) (fun h2 => ?_)
  · have h3 : echoOk longest parts = false := by rw [← Bool.not_eq_true', echoOk, ← any_not, ← hc]; exact h2
    repeat refine W_seq ?_
    refine' W_run tys_ok EE_ok false false [] rfl ?ap13 ?k13
    case ap13 => repeat' (first | exact True.intro | exact ACoeL.refl _ | assumption | omega | rfl | (dsimp only; omega) | (refine ⟨?_, ?_⟩) | intro (_ : _ = true) | exact fun _ _ => rfl | fail)
    refine W_ret ⟨_, _, rfl, ?_, (by simp only [EchoS, h1, h3, cond_true, cond_false]; exact ACoe.refl _)⟩
    · repeat' (first | exact True.intro | exact ACoeL.refl _ | assumption | omega | rfl | (dsimp only; omega) | (refine ⟨?_, ?_⟩) | intro (_ : _ = true) | exact fun _ _ => rfl | fail)
  have h3 : echoOk longest parts = true := by rw [← Bool.not_eq_false', echoOk, ← any_not, ← hc]; exact h2
  have h4 := h3
  simp only [echoOk, Bool.and_eq_true, within_iff] at h4
  obtain ⟨hlo, hpn, hall⟩ := h4
  refine W_skip ?_
  repeat refine W_seq ?_
  refine' W_run tys_ok EE_ok false false [] rfl ?ap15 ?k15
  case ap15 => repeat' (first | exact True.intro | exact ACoeL.refl _ | assumption | omega | rfl | (dsimp only; omega) | (refine ⟨?_, ?_⟩) | intro (_ : _ = true) | exact fun _ _ => rfl | fail)
  repeat refine W_seq ?_
  refine W_block ?_
  refine W_loop (X := Nat) (fun k => ⟨[(0, aL l), (1, I longest), (2, aL parts), (6, I (echoF l parts k).1), (7, I (echoF l parts k).2.1), (8, I (echoF l parts k).2.2), (10, I ((k : Int) + 1))], ⟨0, []⟩⟩)
    (fun k => (k : Int) ≤ longest) (fun k => 64 - k) 0 (by simp; omega) ?_ ?_ ?_
  · exact Le_mk ⟨ACoe.refl _, rfl, ACoe.refl _, rfl, ACoe.refl _, rfl, ACoe.refl _, rfl, ACoe.refl _, rfl, ACoe.refl _, rfl, ACoe.refl _, rfl, trivial⟩ trivial
  · exact fun x => Sub_of rfl
  · intro k hk
    repeat refine W_seq ?_
    refine' W_run tys_ok EE_ok false false [] rfl ?ap16 ?k16
    case ap16 => repeat' (first | exact True.intro | exact ACoeL.refl _ | assumption | omega | rfl | (dsimp only; omega) | (refine ⟨?_, ?_⟩) | intro (_ : _ = true) | exact fun _ _ => rfl | fail)
    repeat refine W_seq ?_
    refine W_if rfl True.intro (fun h5 => ?_) (fun h5 => ?_)
    · refine W_skip ?_
      simp only [decide_eq_true_eq] at h5
      obtain ⟨s0, hs0⟩ : ∃ s0, echoF l parts k = s0 := ⟨_, rfl⟩
      repeat refine W_seq ?_
      refine W_block ?_
      refine W_scope ?_
      repeat refine W_seq ?_
      refine W_label ?_
      repeat refine W_seq ?_
      refine' W_run tys_ok EE_ok false false [] rfl ?ap18 ?k18
      case ap18 => repeat' (first | exact True.intro | exact ACoeL.refl _ | assumption | omega | rfl | (dsimp only; omega) | (refine ⟨?_, ?_⟩) | intro (_ : _ = true) | exact fun _ _ => rfl | fail)
      repeat refine W_seq ?_
      refine W_block ?_
      refine W_loop (X := Nat) (fun i => ⟨[(0, aL l), (1, I longest), (2, aL parts), (6, I (echoP l ((k : Int) + 1) (parts.take i) s0).1), (7, I (echoP l ((k : Int) + 1) (parts.take i) s0).2.1), (8, I (echoP l ((k : Int) + 1) (parts.take i) s0).2.2), (10, I ((k : Int) + 1)), (37, aL parts), (38, I parts.length), (39, I i)], ⟨0, []⟩⟩)
        (fun i => i ≤ parts.length) (fun i => parts.length - i) 0 (by omega) ?_ ?_ ?_
      · rw [hs0]
        exact Le_mk ⟨ACoe.refl _, rfl, ACoe.refl _, rfl, ACoe.refl _, rfl, ACoe.refl _, rfl, ACoe.refl _, rfl, ACoe.refl _, rfl, ACoe.refl _, rfl, ACoe.refl _, rfl, ACoe.refl _, rfl, ACoe.refl _, rfl, trivial⟩ trivial
      · exact fun x => Sub_of rfl
      · intro i hi
        repeat refine W_seq ?_
        refine' W_run tys_ok EE_ok false false [] rfl ?ap19 ?k19
        case ap19 => repeat' (first | exact True.intro | exact ACoeL.refl _ | assumption | omega | rfl | (dsimp only; omega) | (refine ⟨?_, ?_⟩) | intro (_ : _ = true) | exact fun _ _ => rfl | fail)
        repeat refine W_seq ?_
        refine W_if rfl True.intro (fun h6 => ?_) (fun h6 => ?_)
        · refine W_skip ?_
          simp only [decide_eq_true_eq] at h6
          have hlt : i < parts.length := by omega
          have hr := within_iff.1 (all_getD hall hlt)
          obtain ⟨s, hs⟩ : ∃ s, echoP l ((k : Int) + 1) (parts.take i) s0 = s := ⟨_, rfl⟩
          have hsn : echoP l ((k : Int) + 1) (parts.take (i + 1)) s0 = stepE ((k : Int) + 1) (parts.getD i 0) (eS (woL l ((k : Int) + 1) (parts.getD i 0))) s := by
            rw [take_snoc hlt 0, echoP, List.foldl_append]
            show stepE _ _ _ (echoP l ((k : Int) + 1) (parts.take i) s0) = _
            rw [hs]
          obtain ⟨w, hw⟩ : ∃ w, woL l ((k : Int) + 1) (parts.getD i 0) = w := ⟨_, rfl⟩
          have hwl : w.length = l.length := by rw [← hw, woL_len]
          have hwb : ∀ x ∈ w, -131073 ≤ x ∧ x ≤ 131073 := by rw [← hw]; exact woL_bound hnb hr
          have hlen := hnb.1
          rw [hw] at hsn
          rw [hs]
          repeat refine W_seq ?_
          refine W_block ?_
          repeat refine W_seq ?_
          refine' W_run tys_ok EE_ok false false [] rfl ?ap21 ?k21
          case ap21 => repeat' (first | exact True.intro | exact ACoeL.refl _ | assumption | omega | rfl | (dsimp only; omega) | (refine ⟨?_, ?_⟩) | intro (_ : _ = true) | exact fun _ _ => rfl | fail)
          repeat refine W_seq ?_
          refine' W_run tys_ok EE_ok false false [] rfl ?ap22 ?k22
          case ap22 => repeat' (first | exact True.intro | exact ACoeL.refl _ | assumption | omega | rfl | (dsimp only; omega) | (refine ⟨?_, ?_⟩) | intro (_ : _ = true) | exact fun _ _ => rfl | fail)
          repeat refine W_seq ?_
          refine' W_run tys_ok EE_ok false false [Hint.of (without_ok l ((k : Int) + 1) (parts.getD i 0) hnb ⟨by omega, by omega⟩ hr)] rfl ?ap23 ?k23
          case ap23 => repeat' (first | exact True.intro | exact ACoeL.refl _ | assumption | omega | rfl | (dsimp only; omega) | (refine ⟨?_, ?_⟩) | intro (_ : _ = true) | exact fun _ _ => rfl | fail)
          refine W_le (σ' := ⟨[(0, aL l), (1, I longest), (2, aL parts), (6, I s.1), (7, I s.2.1), (8, I s.2.2), (10, I ((k : Int) + 1)), (12, I (parts.getD i 0)), (13, I 0), (37, aL parts), (38, I parts.length), (39, I i), (46, aL w), (47, I w.length), (48, I 0)], ⟨0, []⟩⟩) ?_ (Sub.refl _) ?_
          · rw [← hw]
            exact Le_mk ⟨ACoe.refl _, rfl, ACoe.refl _, rfl, ACoe.refl _, rfl, ACoe.refl _, rfl, ACoe.refl _, rfl, ACoe.refl _, rfl, ACoe.refl _, rfl, ACoe.refl _, rfl, ACoe.refl _, rfl, ACoe.refl _, rfl, ACoe.refl _, rfl, ACoe.refl _, rfl, ACoe.refl _, rfl, ACoe.refl _, rfl, ACoe.refl _, rfl, trivial⟩ trivial
          repeat refine W_seq ?_
          refine W_block ?_
          refine W_loop (X := Nat) (fun j => ⟨[(0, aL l), (1, I longest), (2, aL parts), (6, I s.1), (7, I s.2.1), (8, I s.2.2), (10, I ((k : Int) + 1)), (12, I (parts.getD i 0)), (13, I (eS (w.take j))), (37, aL parts), (38, I parts.length), (39, I i), (46, aL w), (47, I w.length), (48, I j)], ⟨0, []⟩⟩)
            (fun j => j ≤ w.length ∧ (0 < j → (bif decide (s.1 > 0) then decide (eS (w.take j) ≥ s.2.2) else false) = false)) (fun j => w.length - j) 0 ⟨by omega, by omega⟩ ?_ ?_ ?_
          · exact Le_mk ⟨ACoe.refl _, rfl, ACoe.refl _, rfl, ACoe.refl _, rfl, ACoe.refl _, rfl, ACoe.refl _, rfl, ACoe.refl _, rfl, ACoe.refl _, rfl, ACoe.refl _, rfl, ACoe.refl _, rfl, ACoe.refl _, rfl, ACoe.refl _, rfl, ACoe.refl _, rfl, ACoe.refl _, rfl, ACoe.refl _, rfl, ACoe.refl _, rfl, trivial⟩ trivial
          · exact fun x => Sub_of rfl
          · rintro j ⟨hj, hjp⟩
            repeat refine W_seq ?_
            refine' W_run tys_ok EE_ok false false [] rfl ?ap24 ?k24
            case ap24 => repeat' (first | exact True.intro | exact ACoeL.refl _ | assumption | omega | rfl | (dsimp only; omega) | (refine ⟨?_, ?_⟩) | intro (_ : _ = true) | exact fun _ _ => rfl | fail)
            repeat refine W_seq ?_
            refine W_if rfl True.intro (fun h7 => ?_) (fun h7 => ?_)
            · refine W_skip ?_
              simp only [decide_eq_true_eq] at h7
              have hjl : j < w.length := by omega
              have hjs : eS (w.take (j + 1)) = eS (w.take j) + w.getD j 0 * w.getD j 0 := by
                rw [take_snoc hjl 0, eS_append]; simp [eS]
              have hb1 := hwb _ (getD_mem hjl 0)
              have hb2 := mul_bound (a := w.getD j 0) (b := w.getD j 0) (A := 131073) (B := 131073) hb1.1 hb1.2 hb1.1 hb1.2
              have hb3 := eS_bound (B := 131073) (by omega) hwb
              have hb4 := eS_take (l := w) j
              have hb5 := eS_nonneg (w.take j)
              have hb6 := eS_take (l := w) (j + 1)
              repeat refine W_seq ?_
              refine W_block ?_
              repeat refine W_seq ?_
              refine' W_run tys_ok EE_ok false false [] rfl ?ap26 ?k26
              case ap26 => (repeat' (first | exact True.intro | exact ACoeL.refl _ | assumption | omega | rfl | (dsimp only; omega) | (refine ⟨?_, ?_⟩) | intro (_ : _ = true) | exact fun _ _ => rfl | fail)); all_goals ((simp only [Int.toNat_natCast]; omega))
              repeat refine W_seq ?_
              refine' W_run tys_ok EE_ok false false [] rfl ?ap27 ?k27
              case ap27 => (repeat' (first | exact True.intro | exact ACoeL.refl _ | assumption | omega | rfl | (dsimp only; omega) | (refine ⟨?_, ?_⟩) | intro (_ : _ = true) | exact fun _ _ => rfl | fail)); all_goals ((simp only [Int.toNat_natCast]; omega))
              repeat refine W_seq ?_
              refine' W_run tys_ok EE_ok false false [] rfl ?ap28 ?k28
              case ap28 => (repeat' (first | exact True.intro | exact ACoeL.refl _ | assumption | omega | rfl | (dsimp only; omega) | (refine ⟨?_, ?_⟩) | intro (_ : _ = true) | exact fun _ _ => rfl | fail)); all_goals ((simp only [Int.toNat_natCast]; omega))
              repeat refine W_seq ?_
              refine W_if rfl True.intro (fun h8 => ?_) (fun h8 => ?_)
              · have h8' : (bif decide (s.1 > 0) then decide (eS (w.take j) + w.getD j 0 * w.getD j 0 ≥ s.2.2) else false) = true := h8
                refine W_exit ?_
                repeat refine W_seq ?_
                refine' W_run tys_ok EE_ok false false [] rfl ?ap30 ?k30
                case ap30 => repeat' (first | exact True.intro | exact ACoeL.refl _ | assumption | omega | rfl | (dsimp only; omega) | (refine ⟨?_, ?_⟩) | intro (_ : _ = true) | exact fun _ _ => rfl | fail)
                have hst : stepE ((k : Int) + 1) (parts.getD i 0) (eS w) s = s := by
                  have : (bif decide (s.1 > 0) then decide (eS w ≥ s.2.2) else false) = true := by
                    cases hd : decide (s.1 > 0) with
                    | false => rw [hd] at h8'; simp at h8'
                    | true =>
                      rw [hd, cond_true, decide_eq_true_eq] at h8'
                      rw [cond_true, decide_eq_true_eq]; omega
                  rw [stepE, this]; rfl
                refine ⟨i + 1, by omega, by omega, ?_⟩
                rw [hsn, hst]
                exact Le_mk ⟨ACoe.refl _, rfl, ACoe.refl _, rfl, ACoe.refl _, rfl, ACoe.refl _, rfl, ACoe.refl _, rfl, ACoe.refl _, rfl, ACoe.refl _, rfl, ACoe.refl _, rfl, ACoe.refl _, rfl, ACoe.refl _, rfl, trivial⟩ trivial
              · refine W_skip ?_
                repeat refine W_seq ?_
                refine' W_run tys_ok EE_ok false false [] rfl ?ap31 ?k31
                case ap31 => repeat' (first | exact True.intro | exact ACoeL.refl _ | assumption | omega | rfl | (dsimp only; omega) | (refine ⟨?_, ?_⟩) | intro (_ : _ = true) | exact fun _ _ => rfl | fail)
                refine ⟨j + 1, ⟨by omega, fun _ => by rw [hjs]; exact h8⟩, by omega, ?_⟩
                rw [hjs]
                exact Le_mk ⟨ACoe.refl _, rfl, ACoe.refl _, rfl, ACoe.refl _, rfl, ACoe.refl _, rfl, ACoe.refl _, rfl, ACoe.refl _, rfl, ACoe.refl _, rfl, ACoe.refl _, rfl, ACoe.refl _, rfl, ACoe.refl _, rfl, ACoe.refl _, rfl, ACoe.refl _, rfl, ACoe.refl _, rfl, ACoe.refl _, rfl, ACoe.refl _, rfl, trivial⟩ trivial
            · refine W_exit ?_
              simp only [decide_eq_false_iff_not] at h7
              have hje : j = w.length := by omega
              have hj0 := hjp (by omega)
              subst hje
              rw [List.take_length] at hj0
              have hst : stepE ((k : Int) + 1) (parts.getD i 0) (eS w) s = ((k : Int) + 1, parts.getD i 0, eS w) := by
                rw [stepE, hj0]; rfl
              rw [List.take_length]
              repeat refine W_seq ?_
              refine' W_run tys_ok EE_ok false false [] rfl ?ap32 ?k32
              case ap32 => repeat' (first | exact True.intro | exact ACoeL.refl _ | assumption | omega | rfl | (dsimp only; omega) | (refine ⟨?_, ?_⟩) | intro (_ : _ = true) | exact fun _ _ => rfl | fail)
              repeat refine W_seq ?_
              refine' W_run tys_ok EE_ok false false [] rfl ?ap33 ?k33
              case ap33 => repeat' (first | exact True.intro | exact ACoeL.refl _ | assumption | omega | rfl | (dsimp only; omega) | (refine ⟨?_, ?_⟩) | intro (_ : _ = true) | exact fun _ _ => rfl | fail)
              refine ⟨i + 1, by omega, by omega, ?_⟩
              rw [hsn, hst]
              exact Le_mk ⟨ACoe.refl _, rfl, ACoe.refl _, rfl, ACoe.refl _, rfl, ACoe.refl _, rfl, ACoe.refl _, rfl, ACoe.refl _, rfl, ACoe.refl _, rfl, ACoe.refl _, rfl, ACoe.refl _, rfl, ACoe.refl _, rfl, trivial⟩ trivial
        · refine W_exit ?_
          simp only [decide_eq_false_iff_not] at h6
          have hie : i = parts.length := by omega
          subst hie
          rw [List.take_length]
          have hnx : echoF l parts (k + 1) = echoP l ((k : Int) + 1) parts s0 := by rw [echoF, hs0]
          repeat refine W_seq ?_
          refine' W_run tys_ok EE_ok false false [] rfl ?ap34 ?k34
          case ap34 => repeat' (first | exact True.intro | exact ACoeL.refl _ | assumption | omega | rfl | (dsimp only; omega) | (refine ⟨?_, ?_⟩) | intro (_ : _ = true) | exact fun _ _ => rfl | fail)
          refine ⟨k + 1, by omega, by omega, ?_⟩
          rw [hnx]
          exact Le_mk ⟨ACoe.refl _, rfl, ACoe.refl _, rfl, ACoe.refl _, rfl, ACoe.refl _, rfl, ACoe.refl _, rfl, ACoe.refl _, rfl, I_eq (by omega), rfl, trivial⟩ trivial
    · refine W_exit ?_
      simp only [decide_eq_false_iff_not] at h5
      have hke : k = longest.toNat := by omega
      subst hke
      repeat refine W_seq ?_
      refine' W_run tys_ok EE_ok false false [] rfl ?ap35 ?k35
      case ap35 => repeat' (first | exact True.intro | exact ACoeL.refl _ | assumption | omega | rfl | (dsimp only; omega) | (refine ⟨?_, ?_⟩) | intro (_ : _ = true) | exact fun _ _ => rfl | fail)
      refine W_ret ⟨_, _, rfl, ?_, (by simp only [EchoS, h1, h3, cond_true]; exact ACoe.refl _)⟩
      · repeat' (first | exact True.intro | exact ACoeL.refl _ | assumption | omega | rfl | (dsimp only; omega) | (refine ⟨?_, ?_⟩) | intro (_ : _ = true) | exact fun _ _ => rfl | fail)
end Go.Proofs.YtobpnmljijeadaaDoor.A

/- Contracts: Shift. -/
set_option linter.unusedVariables false
set_option linter.unusedSimpArgs false
namespace Go.Proofs.YtobpnmljijeadaaDoor.A
open Go

abbrev okn (n : Int) : Bool := within n (-32767) 32767
def shT (a b : List Int) (s : Int) (i : Nat) : Int :=
  bif bif bif within ((i : Int) + s) 0 ((b.length : Int) - 1) then okn (a.getD i 0) else false then okn (b.getD ((i : Int) + s).toNat 0) else false then a.getD i 0 * b.getD ((i : Int) + s).toNat 0 else 0
def shG (a b : List Int) (s : Int) : Nat → Int
  | 0 => 0
  | k + 1 => shG a b s k + shT a b s k
def shD (a b : List Int) (s : Int) : Int := shG a b s a.length
theorem shT_bound {a b : List Int} {s : Int} {i : Nat} : -(32767 * 32767) ≤ shT a b s i ∧ shT a b s i ≤ 32767 * 32767 := by
  unfold shT
  cases h1 : within ((i : Int) + s) 0 ((b.length : Int) - 1) <;> simp only [cond_true, cond_false]
  · omega
  cases h2 : okn (a.getD i 0) <;> simp only [cond_true, cond_false]
  · omega
  cases h3 : okn (b.getD ((i : Int) + s).toNat 0) <;> simp only [cond_true, cond_false]
  · omega
  have h4 := within_iff.1 h2
  have h5 := within_iff.1 h3
  have := mul_bound (a := a.getD i 0) (b := b.getD ((i : Int) + s).toNat 0) (A := 32767) (B := 32767) h4.1 h4.2 h5.1 h5.2
  omega
theorem shG_bound {a b : List Int} {s : Int} : ∀ k : Nat, -(32767 * 32767 * (k : Int)) ≤ shG a b s k ∧ shG a b s k ≤ 32767 * 32767 * k
  | 0 => by simp [shG]
  | k + 1 => by
    have h1 := shG_bound (a := a) (b := b) (s := s) k
    have h2 := shT_bound (a := a) (b := b) (s := s) (i := k)
    simp only [shG]
    omega
/-- The shift of turn j: 0, -1, 1, -2, 2 .. -/
def shAt (j : Nat) : Int := bif decide (j % 2 = 1) then -(((j : Int) + 1) / 2) else ((j : Int) + 1) / 2
abbrev St2 := Int × Int
def shF (a b : List Int) : Nat → St2
  | 0 => (0, 0)
  | j + 1 => bif bif decide ((j : Int) = 0) then true else decide (shD a b (shAt j) > (shF a b j).2) then (shAt j, shD a b (shAt j)) else shF a b j
def pst (a b : List Int) (k i : Nat) : St2 := if k = 0 then shF a b (if i = 0 then 0 else 1) else shF a b (2 * k - 1 + i)
def psome (k i : Nat) : Bool := decide (0 < k + i)
def sg (k i : Nat) : Int := if i = 0 then -(k : Int) else k
theorem sg_at {k i : Nat} (hk : k ≠ 0) (hi : i < 2) : shAt (2 * k - 1 + i) = sg k i := by
  unfold shAt sg
  rcases i with _ | _ | i
  · have : decide ((2 * k - 1 + 0) % 2 = 1) = true := by simp; omega
    rw [this, if_pos rfl, cond_true]; omega
  · have : decide ((2 * k - 1 + 1) % 2 = 1) = false := by simp; omega
    rw [this, if_neg (by omega), cond_false]; omega
  · omega
theorem pst_step {a b : List Int} {k i : Nat} (hi : i < 2) :
    pst a b k (i + 1) = bif bif !psome k i then true else decide (shD a b (sg k i) > (pst a b k i).2) then (sg k i, shD a b (sg k i)) else pst a b k i := by
  by_cases hk : k = 0
  · subst hk
    rcases i with _ | _ | i
    · simp [pst, psome, sg, shF, shAt]
    · simp [pst, psome, sg, shF, shAt]
    · omega
  · have h1 : psome k i = true := by simp [psome]; omega
    have h2 : pst a b k (i + 1) = shF a b ((2 * k - 1 + i) + 1) := by simp only [pst, if_neg hk]; rfl
    have h3 : pst a b k i = shF a b (2 * k - 1 + i) := by simp only [pst, if_neg hk]
    have h4 : decide (((2 * k - 1 + i : Nat) : Int) = 0) = false := by simp; omega
    rw [h2, shF, h3, h1, sg_at hk hi, h4]
    rfl
theorem pst_next {a b : List Int} {k : Nat} : pst a b (k + 1) 0 = pst a b k 2 := by
  by_cases hk : k = 0
  · subst hk; rfl
  · simp only [pst, if_neg hk, if_neg (show k + 1 ≠ 0 by omega)]
    congr 1; omega
def shOk (a b : List Int) : Bool := sampledB a && sampledB b
def ShiftS (a b : List Int) (most : Int) : St2 × Int := bif shOk a b then (bif within most 0 16 then (shF a b (2 * most.toNat + 1), 0) else ((0, 0), 7)) else ((0, 0), 3)
theorem pst_last {a b : List Int} {m : Nat} : pst a b (m + 1) 0 = shF a b (2 * m + 1) := by
  simp only [pst, if_neg (show m + 1 ≠ 0 by omega)]
  congr 1
theorem sampledB_len {l : List Int} (h : sampledB l = true) : 1 ≤ l.length ∧ l.length ≤ 64 := by
  unfold sampledB at h
  cases hw : within l.length 1 64 with
  | false => rw [hw] at h; simp at h
  | true => have := within_iff.1 hw; omega

theorem Shift_ok (a b : List Int) (most : Int) (hl : a.length < 1152921504606846976) (hl2 : b.length < 1152921504606846976) :
    Pure Tryd.prog GG 28 [aL a, aL b, I most] (.tup [I (ShiftS a b most).1.1, I (ShiftS a b most).1.2, I (ShiftS a b most).2]) := by
  have hc : ∀ a b : Bool, (bif !a then true else !b) = !(a && b) := by decide
  refine Pure.fn tys_ok Tryd.func28 (by kernel_rfl) rfl rfl fun O => ?_
  repeat refine W_seq ?_
  refine' W_run tys_ok EE_ok false false [] rfl ?ap2 ?k2
  case ap2 => repeat' (first | exact True.intro | exact ACoeL.refl _ | assumption | omega | rfl | (dsimp only; omega) | (refine ⟨?_, ?_⟩) | intro (_ : _ = true) | exact fun _ _ => rfl | fail)
  repeat refine W_seq ?_
  refine' W_run tys_ok EE_ok false false [Hint.of (sampled_ok a hl), Hint.of (sampled_ok b hl2)] rfl ?ap3 ?k3
  case ap3 => repeat' (first | exact True.intro | exact ACoeL.refl _ | assumption | omega | rfl | (dsimp only; omega) | (refine ⟨?_, ?_⟩) | intro (_ : _ = true) | exact fun _ _ => rfl | fail)
  repeat refine W_seq ?_
  refine W_if rfl True.intro (fun h1 => ?_) (fun h1 => ?_)
  · have h3 : shOk a b = false := by rw [← Bool.not_eq_true', shOk, ← hc]; exact h1
    repeat refine W_seq ?_
    refine' W_run tys_ok EE_ok false false [] rfl ?ap5 ?k5
    case ap5 => repeat' (first | exact True.intro | exact ACoeL.refl _ | assumption | omega | rfl | (dsimp only; omega) | (refine ⟨?_, ?_⟩) | intro (_ : _ = true) | exact fun _ _ => rfl | fail)
    refine W_ret ⟨_, _, rfl, ?_, (by simp only [ShiftS, h3, cond_false]; exact ACoe.refl _)⟩
    · repeat' (first | exact True.intro | exact ACoeL.refl _ | assumption | omega | rfl | (dsimp only; omega) | (refine ⟨?_, ?_⟩) | intro (_ : _ = true) | exact fun _ _ => rfl | fail)
  have h3 : shOk a b = true := by rw [← Bool.not_eq_false', shOk, ← hc]; exact h1
  have h4 := h3
  simp only [shOk, Bool.and_eq_true] at h4
  have hla := sampledB_len h4.1
  have hlb := sampledB_len h4.2
  refine W_skip ?_
  repeat refine W_seq ?_
  refine' W_run tys_ok EE_ok false false [Hint.of (within_ok most 0 16)] rfl ?ap7 ?k7
  case ap7 => repeat' (first | exact True.intro | exact ACoeL.refl _ | assumption | omega | rfl | (dsimp only; omega) | (refine ⟨?_, ?_⟩) | intro (_ : _ = true) | exact fun _ _ => rfl | fail)
  repeat refine W_seq ?_
  refine W_if rfl True.intro (fun h2 => ?_) (fun h2 => ?_)
  · simp only [Bool.not_eq_true'] at h2
    repeat refine W_seq ?_
    refine' W_run tys_ok EE_ok false false [] rfl ?ap9 ?k9
    case ap9 => repeat' (first | exact True.intro | exact ACoeL.refl _ | assumption | omega | rfl | (dsimp only; omega) | (refine ⟨?_, ?_⟩) | intro (_ : _ = true) | exact fun _ _ => rfl | fail)
    refine W_ret ⟨_, _, rfl, ?_, (by simp only [ShiftS, h3, h2, cond_true, cond_false]; exact ACoe.refl _)⟩
    · repeat' (first | exact True.intro | exact ACoeL.refl _ | assumption | omega | rfl | (dsimp only; omega) | (refine ⟨?_, ?_⟩) | intro (_ : _ = true) | exact fun _ _ => rfl | fail)
  simp only [Bool.not_eq_false'] at h2
  have hm := within_iff.1 h2
  refine W_skip ?_
  repeat refine W_seq ?_
  refine' W_run tys_ok EE_ok false false [] rfl ?ap11 ?k11
  case ap11 => repeat' (first | exact True.intro | exact ACoeL.refl _ | assumption | omega | rfl | (dsimp only; omega) | (refine ⟨?_, ?_⟩) | intro (_ : _ = true) | exact fun _ _ => rfl | fail)
  repeat refine W_seq ?_
  refine' W_run tys_ok EE_ok false false [] rfl ?ap12 ?k12
  case ap12 => repeat' (first | exact True.intro | exact ACoeL.refl _ | assumption | omega | rfl | (dsimp only; omega) | (refine ⟨?_, ?_⟩) | intro (_ : _ = true) | exact fun _ _ => rfl | fail)
  repeat refine W_seq ?_
  refine W_block ?_
  refine W_loop (X := Nat) (fun k => ⟨[(0, aL a), (1, aL b), (2, I most), (6, I (pst a b k 0).1), (7, I (pst a b k 0).2), (9, Bo (psome k 0)), (10, I k)], ⟨0, []⟩⟩)
    (fun k => k ≤ most + 1) (fun k => 64 - k) 0 (by omega) ?_ ?_ ?_
  · exact Le_mk ⟨ACoe.refl _, rfl, ACoe.refl _, rfl, ACoe.refl _, rfl, ACoe.refl _, rfl, ACoe.refl _, rfl, ACoe.refl _, rfl, ACoe.refl _, rfl, trivial⟩ trivial
  · exact fun x => Sub_of rfl
  · intro k hk
    repeat refine W_seq ?_
    refine' W_run tys_ok EE_ok false false [] rfl ?ap13 ?k13
    case ap13 => repeat' (first | exact True.intro | exact ACoeL.refl _ | assumption | omega | rfl | (dsimp only; omega) | (refine ⟨?_, ?_⟩) | intro (_ : _ = true) | exact fun _ _ => rfl | fail)
    repeat refine W_seq ?_
    refine W_if rfl True.intro (fun h5 => ?_) (fun h5 => ?_)
    · refine W_skip ?_
      simp only [decide_eq_true_eq] at h5
      repeat refine W_seq ?_
      refine W_block ?_
      repeat refine W_seq ?_
      refine' W_run tys_ok EE_ok false false [] rfl ?ap15 ?k15
      case ap15 => repeat' (first | exact True.intro | exact ACoeL.refl _ | assumption | omega | rfl | (dsimp only; omega) | (refine ⟨?_, ?_⟩) | intro (_ : _ = true) | exact fun _ _ => rfl | fail)
      repeat refine W_seq ?_
      refine W_block ?_
      refine W_loop (X := Nat) (fun i => ⟨[(0, aL a), (1, aL b), (2, I most), (6, I (pst a b k i).1), (7, I (pst a b k i).2), (9, Bo (psome k i)), (10, I k), (35, .agg [I (-(k : Int)), I k]), (36, I i)], ⟨0, []⟩⟩)
        (fun i => i ≤ 2) (fun i => 2 - i) 0 (by omega) ?_ ?_ ?_
      · exact Le_mk ⟨ACoe.refl _, rfl, ACoe.refl _, rfl, ACoe.refl _, rfl, ACoe.refl _, rfl, ACoe.refl _, rfl, ACoe.refl _, rfl, ACoe.refl _, rfl, ACoe.refl _, rfl, ACoe.refl _, rfl, trivial⟩ trivial
      · exact fun x => Sub_of rfl
      · intro i hi
        repeat refine W_seq ?_
        refine' W_run tys_ok EE_ok false false [] rfl ?ap16 ?k16
        case ap16 => repeat' (first | exact True.intro | exact ACoeL.refl _ | assumption | omega | rfl | (dsimp only; omega) | (refine ⟨?_, ?_⟩) | intro (_ : _ = true) | exact fun _ _ => rfl | fail)
        repeat refine W_seq ?_
        refine W_if rfl True.intro (fun h6 => ?_) (fun h6 => ?_)
        · refine W_skip ?_
          simp only [decide_eq_true_eq] at h6
          have hi2 : i < 2 := by omega
          obtain ⟨s, hs⟩ : ∃ s, sg k i = s := ⟨_, rfl⟩
          have hsb : -16 ≤ s ∧ s ≤ 16 := by rw [← hs]; unfold sg; split <;> omega
          have hstep := pst_step (a := a) (b := b) (k := k) hi2
          rw [hs] at hstep
          repeat refine W_seq ?_
          refine W_block ?_
          repeat refine W_seq ?_
          refine W_pieces ?_
          refine WL_op (v := I s) (S' := ⟨0, []⟩) (OpW.r ?_ rfl) rfl id ?_
          · rw [← hs]
            rcases i with _ | _ | i
            · exact stepX_ok (wr := false) (hs := []) (hs' := []) tys_ok EE_ok rfl ⟨by omega, trivial⟩
            · exact stepX_ok (wr := false) (hs := []) (hs' := []) tys_ok EE_ok rfl ⟨by omega, trivial⟩
            · omega
          refine WL_run tys_ok EE_ok false false 1 [] rfl True.intro (WL_nil ?_)
          repeat refine W_seq ?_
          refine' W_run tys_ok EE_ok false false [] rfl ?ap18 ?k18
          case ap18 => repeat' (first | exact True.intro | exact ACoeL.refl _ | assumption | omega | rfl | (dsimp only; omega) | (refine ⟨?_, ?_⟩) | intro (_ : _ = true) | exact fun _ _ => rfl | fail)
          repeat refine W_seq ?_
          refine' W_run tys_ok EE_ok false false [] rfl ?ap19 ?k19
          case ap19 => repeat' (first | exact True.intro | exact ACoeL.refl _ | assumption | omega | rfl | (dsimp only; omega) | (refine ⟨?_, ?_⟩) | intro (_ : _ = true) | exact fun _ _ => rfl | fail)
          repeat refine W_seq ?_
          refine W_block ?_
          obtain ⟨q, hq⟩ : ∃ q, pst a b k i = q := ⟨_, rfl⟩
          rw [hq] at hstep
          rw [hq]
          refine W_loop (X := Nat) (fun j => ⟨[(0, aL a), (1, aL b), (2, I most), (6, I q.1), (7, I q.2), (9, Bo (psome k i)), (10, I k), (12, I s), (13, I (shG a b s j)), (35, .agg [I (-(k : Int)), I k]), (36, I i), (39, aL a), (40, I a.length), (41, I j)], ⟨0, []⟩⟩)
            (fun j => j ≤ a.length) (fun j => a.length - j) 0 (by omega) ?_ ?_ ?_
          · exact Le_mk ⟨ACoe.refl _, rfl, ACoe.refl _, rfl, ACoe.refl _, rfl, ACoe.refl _, rfl, ACoe.refl _, rfl, ACoe.refl _, rfl, ACoe.refl _, rfl, ACoe.refl _, rfl, ACoe.refl _, rfl, ACoe.refl _, rfl, ACoe.refl _, rfl, ACoe.refl _, rfl, ACoe.refl _, rfl, ACoe.refl _, rfl, trivial⟩ trivial
          · exact fun x => Sub_of rfl
          · intro j hj
            repeat refine W_seq ?_
            refine' W_run tys_ok EE_ok false false [] rfl ?ap20 ?k20
            case ap20 => repeat' (first | exact True.intro | exact ACoeL.refl _ | assumption | omega | rfl | (dsimp only; omega) | (refine ⟨?_, ?_⟩) | intro (_ : _ = true) | exact fun _ _ => rfl | fail)
            repeat refine W_seq ?_
            refine W_if rfl True.intro (fun h7 => ?_) (fun h7 => ?_)
            · refine W_skip ?_
              simp only [decide_eq_true_eq] at h7
              have hjl : j < a.length := by omega
              have hb1 := shG_bound (a := a) (b := b) (s := s) j
              have hb2 := shT_bound (a := a) (b := b) (s := s) (i := j)
              have hjs : shG a b s (j + 1) = shG a b s j + shT a b s j := rfl
              repeat refine W_seq ?_
              refine W_block ?_
              repeat refine W_seq ?_
              refine' W_run tys_ok EE_ok false false [] rfl ?ap22 ?k22
              case ap22 => repeat' (first | exact True.intro | exact ACoeL.refl _ | assumption | omega | rfl | (dsimp only; omega) | (refine ⟨?_, ?_⟩) | intro (_ : _ = true) | exact fun _ _ => rfl | fail)
              repeat refine W_seq ?_
              refine' W_run tys_ok EE_ok false false [Hint.of (within_ok ((j : Int) + s) 0 ((b.length : Int) - 1)), Hint.of (known_ok (a.getD (j : Int).toNat 0)), Hint.of (known_ok (b.getD ((j : Int) + s).toNat 0))] rfl ?ap23 ?k23
              case ap23 => (repeat' (first | exact True.intro | exact ACoeL.refl _ | assumption | omega | rfl | (dsimp only; omega) | (refine ⟨?_, ?_⟩) | intro (_ : _ = true) | exact fun _ _ => rfl | fail)); all_goals ((first | (intro hx; have := within_iff.1 hx; omega) | grind [within_iff]))
              repeat refine W_seq ?_
              refine W_if rfl True.intro (fun h8 => ?_) (fun h8 => ?_)
              · have h8' : shT a b s j = a.getD j 0 * b.getD ((j : Int) + s).toNat 0 := by
                  unfold shT; rw [show (bif bif within ((j : Int) + s) 0 ((b.length : Int) - 1) then okn (a.getD j 0) else false then okn (b.getD ((j : Int) + s).toNat 0) else false) = true from h8]; rfl
                have hin : 0 ≤ (j : Int) + s ∧ (j : Int) + s ≤ (b.length : Int) - 1 := by
                  cases hw : within ((j : Int) + s) 0 ((b.length : Int) - 1) with
                  | true => exact within_iff.1 hw
                  | false => rw [hw] at h8; simp at h8
                repeat refine W_seq ?_
                refine' W_run tys_ok EE_ok false false [] rfl ?ap25 ?k25
                case ap25 => (repeat' (first | exact True.intro | exact ACoeL.refl _ | assumption | omega | rfl | (dsimp only; omega) | (refine ⟨?_, ?_⟩) | intro (_ : _ = true) | exact fun _ _ => rfl | fail)); all_goals ((simp only [Int.toNat_natCast]; omega))
                repeat refine W_seq ?_
                refine' W_run tys_ok EE_ok false false [] rfl ?ap26 ?k26
                case ap26 => repeat' (first | exact True.intro | exact ACoeL.refl _ | assumption | omega | rfl | (dsimp only; omega) | (refine ⟨?_, ?_⟩) | intro (_ : _ = true) | exact fun _ _ => rfl | fail)
                refine ⟨j + 1, by omega, by omega, ?_⟩
                rw [hjs, h8']
                exact Le_mk ⟨ACoe.refl _, rfl, ACoe.refl _, rfl, ACoe.refl _, rfl, ACoe.refl _, rfl, ACoe.refl _, rfl, ACoe.refl _, rfl, ACoe.refl _, rfl, ACoe.refl _, rfl, ACoe.refl _, rfl, ACoe.refl _, rfl, ACoe.refl _, rfl, ACoe.refl _, rfl, ACoe.refl _, rfl, ACoe.refl _, rfl, trivial⟩ trivial
              · have h8' : shT a b s j = 0 := by
                  unfold shT; rw [show (bif bif within ((j : Int) + s) 0 ((b.length : Int) - 1) then okn (a.getD j 0) else false then okn (b.getD ((j : Int) + s).toNat 0) else false) = false from h8]; rfl
                refine W_skip ?_
                repeat refine W_seq ?_
                refine' W_run tys_ok EE_ok false false [] rfl ?ap27 ?k27
                case ap27 => repeat' (first | exact True.intro | exact ACoeL.refl _ | assumption | omega | rfl | (dsimp only; omega) | (refine ⟨?_, ?_⟩) | intro (_ : _ = true) | exact fun _ _ => rfl | fail)
                refine ⟨j + 1, by omega, by omega, ?_⟩
                rw [hjs, h8', Int.add_zero]
                exact Le_mk ⟨ACoe.refl _, rfl, ACoe.refl _, rfl, ACoe.refl _, rfl, ACoe.refl _, rfl, ACoe.refl _, rfl, ACoe.refl _, rfl, ACoe.refl _, rfl, ACoe.refl _, rfl, ACoe.refl _, rfl, ACoe.refl _, rfl, ACoe.refl _, rfl, ACoe.refl _, rfl, ACoe.refl _, rfl, ACoe.refl _, rfl, trivial⟩ trivial
            · refine W_exit ?_
              simp only [decide_eq_false_iff_not] at h7
              have hje : j = a.length := by omega
              subst hje
              repeat refine W_seq ?_
              refine' W_run tys_ok EE_ok false false [] rfl ?ap28 ?k28
              case ap28 => repeat' (first | exact True.intro | exact ACoeL.refl _ | assumption | omega | rfl | (dsimp only; omega) | (refine ⟨?_, ?_⟩) | intro (_ : _ = true) | exact fun _ _ => rfl | fail)
              repeat refine W_seq ?_
              refine W_if rfl True.intro (fun h9 => ?_) (fun h9 => ?_)
              · have hst : pst a b k (i + 1) = (s, shD a b s) := by
                  rw [hstep, show (bif !psome k i then true else decide (shD a b s > q.2)) = true from h9]; rfl
                have hps : psome k (i + 1) = true := by simp only [psome, decide_eq_true_eq]; omega
                repeat refine W_seq ?_
                refine' W_run tys_ok EE_ok false false [] rfl ?ap30 ?k30
                case ap30 => repeat' (first | exact True.intro | exact ACoeL.refl _ | assumption | omega | rfl | (dsimp only; omega) | (refine ⟨?_, ?_⟩) | intro (_ : _ = true) | exact fun _ _ => rfl | fail)
                repeat refine W_seq ?_
                refine' W_run tys_ok EE_ok false false [] rfl ?ap31 ?k31
                case ap31 => repeat' (first | exact True.intro | exact ACoeL.refl _ | assumption | omega | rfl | (dsimp only; omega) | (refine ⟨?_, ?_⟩) | intro (_ : _ = true) | exact fun _ _ => rfl | fail)
                refine ⟨i + 1, by omega, by omega, ?_⟩
                rw [hst, hps]
                exact Le_mk ⟨ACoe.refl _, rfl, ACoe.refl _, rfl, ACoe.refl _, rfl, ACoe.refl _, rfl, ACoe.refl _, rfl, ACoe.refl _, rfl, ACoe.refl _, rfl, ACoe.refl _, rfl, ACoe.refl _, rfl, trivial⟩ trivial
              · have h9' : (bif !psome k i then true else decide (shD a b s > q.2)) = false := h9
                have hst : pst a b k (i + 1) = q := by rw [hstep, h9']; rfl
                have hps : psome k (i + 1) = psome k i := by
                  cases hp : psome k i with
                  | true => simp only [psome, decide_eq_true_eq]; omega
                  | false => rw [hp] at h9'; simp at h9'
                refine W_skip ?_
                repeat refine W_seq ?_
                refine' W_run tys_ok EE_ok false false [] rfl ?ap32 ?k32
                case ap32 => repeat' (first | exact True.intro | exact ACoeL.refl _ | assumption | omega | rfl | (dsimp only; omega) | (refine ⟨?_, ?_⟩) | intro (_ : _ = true) | exact fun _ _ => rfl | fail)
                refine ⟨i + 1, by omega, by omega, ?_⟩
                rw [hst, hps]
                exact Le_mk ⟨ACoe.refl _, rfl, ACoe.refl _, rfl, ACoe.refl _, rfl, ACoe.refl _, rfl, ACoe.refl _, rfl, ACoe.refl _, rfl, ACoe.refl _, rfl, ACoe.refl _, rfl, ACoe.refl _, rfl, trivial⟩ trivial
        · refine W_exit ?_
          simp only [decide_eq_false_iff_not] at h6
          have hie : i = 2 := by omega
          subst hie
          repeat refine W_seq ?_
          refine' W_run tys_ok EE_ok false false [] rfl ?ap33 ?k33
          case ap33 => repeat' (first | exact True.intro | exact ACoeL.refl _ | assumption | omega | rfl | (dsimp only; omega) | (refine ⟨?_, ?_⟩) | intro (_ : _ = true) | exact fun _ _ => rfl | fail)
          refine ⟨k + 1, by omega, by omega, ?_⟩
          rw [pst_next, show psome (k + 1) 0 = psome k 2 by simp [psome]]
          exact Le_mk ⟨ACoe.refl _, rfl, ACoe.refl _, rfl, ACoe.refl _, rfl, ACoe.refl _, rfl, ACoe.refl _, rfl, ACoe.refl _, rfl, ACoe.refl _, rfl, trivial⟩ trivial
    · refine W_exit ?_
      simp only [decide_eq_false_iff_not] at h5
      have hke : k = most.toNat + 1 := by omega
      subst hke
      rw [pst_last]
      repeat refine W_seq ?_
      refine' W_run tys_ok EE_ok false false [] rfl ?ap34 ?k34
      case ap34 => repeat' (first | exact True.intro | exact ACoeL.refl _ | assumption | omega | rfl | (dsimp only; omega) | (refine ⟨?_, ?_⟩) | intro (_ : _ = true) | exact fun _ _ => rfl | fail)
      refine W_ret ⟨_, _, rfl, ?_, (by simp only [ShiftS, h3, h2, cond_true]; exact ACoe.refl _)⟩
      · repeat' (first | exact True.intro | exact ACoeL.refl _ | assumption | omega | rfl | (dsimp only; omega) | (refine ⟨?_, ?_⟩) | intro (_ : _ = true) | exact fun _ _ => rfl | fail)
end Go.Proofs.YtobpnmljijeadaaDoor.A

/- Contracts: Honest. -/
set_option linter.unusedVariables false
set_option linter.unusedSimpArgs false
namespace Go.Proofs.YtobpnmljijeadaaDoor.A
open Go

abbrev NmL := List (Int × Int)
def nAt (l : NmL) (i : Nat) : Int × Int := l.getD i (0, 0)
def pNN (l : NmL) : PV := .ro 2 l.length (fun i => [pI (nAt l i).1, pI (nAt l i).2])
def nameOk (g : List Strip) (p : Int × Int) : Bool := within p.1 0 ((g.length : Int) - 1) && within p.2 0 (len0 g - 1)
def smpN (g : List Strip) (p : Int × Int) : Int := (stripAt g p.1.toNat).sam.getD p.2.toNat 0
abbrev wr (n : Int) : Int := IntKind.i64.wrap n
def honK (g : List Strip) : NmL → List Int → Int → Int → Bool
  | [], _, s, want => s == want
  | p :: r, seen, s, want => okn (smpN g p) && (!hasI seen p.1 && honK g r (seen ++ [p.1]) (wr (s + smpN g p)) want)
def HonestS (g : List Strip) (sum : Int) (ns : NmL) : Bool × Int :=
  bif gatherB g then (bif ns.all (nameOk g) then (honK g ns [] 0 sum, 0) else (false, 96)) else (false, 90)
theorem allP_getD {α : Type} {l : List α} {p : α → Bool} (h : l.all p = true) {k : Nat} (hk : k < l.length) (d : α) : p (l.getD k d) = true :=
  List.all_eq_true.1 h _ (getD_mem hk d)
def seenN (ns : NmL) (k : Nat) : List Int := (ns.take k).map (·.1)
theorem seenN_succ {ns : NmL} {k : Nat} (h : k < ns.length) : seenN ns (k + 1) = seenN ns k ++ [(nAt ns k).1] := by
  unfold seenN nAt
  rw [take_snoc h (0, 0), List.map_append]; rfl

theorem nameOk_iff {g : List Strip} {p : Int × Int} (h : nameOk g p = true) : (0 ≤ p.1 ∧ p.1 ≤ (g.length : Int) - 1) ∧ (0 ≤ p.2 ∧ p.2 ≤ len0 g - 1) := by
  simpa only [nameOk, Bool.and_eq_true, within_iff] using h

theorem Honest_ok (g : List Strip) (sum : Int) (ns : NmL) (hg : GB g) (hn : ns.length < 1152921504606846976) :
    Pure Tryd.prog GG 42 [aG g, .agg [I sum, .p (pNN ns)]] (.tup [Bo (HonestS g sum ns).1, I (HonestS g sum ns).2]) := by
  have hc : ∀ a b : Bool, (bif !a then true else !b) = !(a && b) := by decide
  have hglen := hg.len
  refine Pure.fn tys_ok Tryd.func42 (by kernel_rfl) rfl rfl fun O => ?_
  repeat refine W_seq ?_
  refine' W_run tys_ok EE_ok false false [] rfl ?ap2 ?k2
  case ap2 => repeat' (first | exact True.intro | exact ACoeL.refl _ | assumption | omega | rfl | (dsimp only; omega) | (refine ⟨?_, ?_⟩) | intro (_ : _ = true) | exact fun _ _ => rfl | fail)
  cases hgb : gatherB g with
  | false =>
    have hgc : Pure Tryd.prog GG 53 [aG g] (I 90) := by
      have := gathered_ok g hg
      rwa [gatheredS, hgb, cond_false] at this
    repeat refine W_seq ?_
    refine' W_run tys_ok EE_ok false false [Hint.of hgc] rfl ?ap3 ?k3
    case ap3 => repeat' (first | exact True.intro | exact ACoeL.refl _ | assumption | omega | rfl | (dsimp only; omega) | (refine ⟨?_, ?_⟩) | intro (_ : _ = true) | exact fun _ _ => rfl | fail)
    repeat refine W_seq ?_
    refine' W_run tys_ok EE_ok false false [] rfl ?ap4 ?k4
    case ap4 => repeat' (first | exact True.intro | exact ACoeL.refl _ | assumption | omega | rfl | (dsimp only; omega) | (refine ⟨?_, ?_⟩) | intro (_ : _ = true) | exact fun _ _ => rfl | fail)
    repeat refine W_seq ?_
    refine W_if rfl True.intro (fun h1 => ?_) (fun h1 => ?_)
    · repeat refine W_seq ?_
      refine' W_run tys_ok EE_ok false false [] rfl ?ap6 ?k6
      case ap6 => repeat' (first | exact True.intro | exact ACoeL.refl _ | assumption | omega | rfl | (dsimp only; omega) | (refine ⟨?_, ?_⟩) | intro (_ : _ = true) | exact fun _ _ => rfl | fail)
      refine W_ret ⟨_, _, rfl, ?_, (by simp only [HonestS, hgb, cond_false]; exact ACoe.refl _)⟩
      · repeat' (first | exact True.intro | exact ACoeL.refl _ | assumption | omega | rfl | (dsimp only; omega) | (refine ⟨?_, ?_⟩) | intro (_ : _ = true) | exact fun _ _ => rfl | fail)
    · exact absurd h1 (by decide)
  | true =>
  have hgc : Pure Tryd.prog GG 53 [aG g] (I 0) := by
    have := gathered_ok g hg
    rwa [gatheredS, hgb, cond_true] at this
  have hgo := GOk.of hgb
  repeat refine W_seq ?_
  refine' W_run tys_ok EE_ok false false [Hint.of hgc] rfl ?ap8 ?k8
  case ap8 => repeat' (first | exact True.intro | exact ACoeL.refl _ | assumption | omega | rfl | (dsimp only; omega) | (refine ⟨?_, ?_⟩) | intro (_ : _ = true) | exact fun _ _ => rfl | fail)
  repeat refine W_seq ?_
  refine' W_run tys_ok EE_ok false false [] rfl ?ap9 ?k9
  case ap9 => repeat' (first | exact True.intro | exact ACoeL.refl _ | assumption | omega | rfl | (dsimp only; omega) | (refine ⟨?_, ?_⟩) | intro (_ : _ = true) | exact fun _ _ => rfl | fail)
  repeat refine W_seq ?_
  refine W_if rfl True.intro (fun h1 => ?_) (fun h1 => ?_)
  · exact absurd h1 (by decide)
  refine W_skip ?_
  repeat refine W_seq ?_
  refine' W_run tys_ok EE_ok false false [] rfl ?ap11 ?k11
  case ap11 => repeat' (first | exact True.intro | exact ACoeL.refl _ | assumption | omega | rfl | (dsimp only; omega) | (refine ⟨?_, ?_⟩) | intro (_ : _ = true) | exact fun _ _ => rfl | fail)
  repeat refine W_seq ?_
  refine W_block ?_
  refine W_loop (X := Nat) (fun k => ⟨[(0, aG g), (3, .bp 0 0), (20, .p (pNN ns)), (21, I ns.length), (22, I k)], ⟨1, [(0, .box [I sum, .p (pNN ns)])]⟩⟩)
    (fun k => k ≤ ns.length ∧ ns.all (nameOk g) = (ns.drop k).all (nameOk g)) (fun k => ns.length - k) 0 ⟨by omega, rfl⟩ ?_ ?_ ?_
  · exact Le_mk ⟨ACoe.refl _, rfl, ACoe.refl _, rfl, ACoe.refl _, rfl, ACoe.refl _, rfl, ACoe.refl _, rfl, trivial⟩ ⟨⟨ACoeL.refl _, rfl, rfl⟩, rfl, trivial⟩
  · exact fun x => Sub_of rfl
  · rintro k ⟨hk, hi⟩
    repeat refine W_seq ?_
    refine' W_run tys_ok EE_ok false false [] rfl ?ap12 ?k12
    case ap12 => repeat' (first | exact True.intro | exact ACoeL.refl _ | assumption | omega | rfl | (dsimp only; omega) | (refine ⟨?_, ?_⟩) | intro (_ : _ = true) | exact fun _ _ => rfl | fail)
    repeat refine W_seq ?_
    refine W_if rfl True.intro (fun h2 => ?_) (fun h2 => ?_)
    · refine W_skip ?_
      simp only [decide_eq_true_eq] at h2
      have hlt : k < ns.length := by omega
      rw [drop_getD hlt (0, 0), List.all_cons] at hi
      have hi' : ns.all (nameOk g) = (nameOk g (nAt ns k) && (ns.drop (k + 1)).all (nameOk g)) := hi
      have hsl : (stripAt g (nAt ns k).1.toNat).sam.length < 1152921504606846976 := by
        by_cases hx : (nAt ns k).1.toNat < g.length
        · exact hg.sam _ hx
        · rw [stripAt, List.getD_eq_getElem?_getD, List.getElem?_eq_none (by omega)]; decide
      repeat refine W_seq ?_
      refine W_block ?_
      repeat refine W_seq ?_
      refine' W_run tys_ok EE_ok false false [] rfl ?ap14 ?k14
      case ap14 => repeat' (first | exact True.intro | exact ACoeL.refl _ | assumption | omega | rfl | (dsimp only; omega) | (refine ⟨?_, ?_⟩) | intro (_ : _ = true) | exact fun _ _ => rfl | fail)
      repeat refine W_seq ?_
      refine' W_any tys_ok EE_ok mixed false [Hint.of (within_ok (nAt ns k).1 0 ((g.length : Int) - 1)), Hint.of (within_ok (nAt ns k).2 0 (((stripAt g (nAt ns k).1.toNat).sam.length : Int) - 1))] rfl (fun te ts => by kernel_rfl) (by kernel_rfl) ?ap15 ?k15
      case ap15 => (repeat' (first | exact True.intro | exact ACoeL.refl _ | assumption | omega | rfl | (dsimp only; omega) | (refine ⟨?_, ?_⟩) | intro (_ : _ = true) | exact fun _ _ => rfl | fail)); all_goals ((simp only [Int.toNat_natCast]; grind [within_iff]))
      have hv : (bif !within (nAt ns k).1 0 ((g.length : Int) - 1) then true else !within (nAt ns k).2 0 (((stripAt g (nAt ns k).1.toNat).sam.length : Int) - 1)) = !nameOk g (nAt ns k) := by
        rw [hc, nameOk]
        cases hw : within (nAt ns k).1 0 ((g.length : Int) - 1) with
        | false => rfl
        | true =>
          have := within_iff.1 hw
          rw [hgo.len _ (by omega)]; rfl
      repeat refine W_seq ?_
      refine W_if rfl True.intro (fun h3 => ?_) (fun h3 => ?_)
      · have h4 : nameOk g (nAt ns k) = false := by rw [← Bool.not_eq_true', ← hv]; exact h3
        rw [h4, Bool.false_and] at hi'
        repeat refine W_seq ?_
        refine' W_run tys_ok EE_ok false false [] rfl ?ap17 ?k17
        case ap17 => repeat' (first | exact True.intro | exact ACoeL.refl _ | assumption | omega | rfl | (dsimp only; omega) | (refine ⟨?_, ?_⟩) | intro (_ : _ = true) | exact fun _ _ => rfl | fail)
        refine W_ret ⟨_, _, rfl, ?_, (by simp only [HonestS, hgb, hi', cond_true, cond_false]; exact ACoe.refl _)⟩
        · repeat' (first | exact True.intro | exact ACoeL.refl _ | assumption | omega | rfl | (dsimp only; omega) | (refine ⟨?_, ?_⟩) | intro (_ : _ = true) | exact fun _ _ => rfl | fail)
      · have h4 : nameOk g (nAt ns k) = true := by rw [← Bool.not_eq_false', ← hv]; exact h3
        rw [h4, Bool.true_and] at hi'
        refine W_skip ?_
        repeat refine W_seq ?_
        refine' W_run tys_ok EE_ok false false [] rfl ?ap19 ?k19
        case ap19 => repeat' (first | exact True.intro | exact ACoeL.refl _ | assumption | omega | rfl | (dsimp only; omega) | (refine ⟨?_, ?_⟩) | intro (_ : _ = true) | exact fun _ _ => rfl | fail)
        exact ⟨k + 1, ⟨by omega, hi'⟩, by omega, Le_mk ⟨ACoe.refl _, rfl, ACoe.refl _, rfl, ACoe.refl _, rfl, ACoe.refl _, rfl, ACoe.refl _, rfl, trivial⟩ ⟨⟨ACoeL.refl _, rfl, rfl⟩, rfl, trivial⟩⟩
    · refine W_exit ?_
      simp only [decide_eq_false_iff_not] at h2
      have hke : k = ns.length := by omega
      subst hke
      rw [List.drop_length, List.all_nil] at hi
      repeat refine W_seq ?_
      refine' W_run tys_ok EE_ok false false [] rfl ?ap20 ?k20
      case ap20 => repeat' (first | exact True.intro | exact ACoeL.refl _ | assumption | omega | rfl | (dsimp only; omega) | (refine ⟨?_, ?_⟩) | intro (_ : _ = true) | exact fun _ _ => rfl | fail)
      repeat refine W_seq ?_
      refine' W_run tys_ok EE_ok false false [] rfl ?ap21 ?k21
      case ap21 => repeat' (first | exact True.intro | exact ACoeL.refl _ | assumption | omega | rfl | (dsimp only; omega) | (refine ⟨?_, ?_⟩) | intro (_ : _ = true) | exact fun _ _ => rfl | fail)
      repeat refine W_seq ?_
      refine' W_run tys_ok EE_ok false false [] rfl ?ap22 ?k22
      case ap22 => repeat' (first | exact True.intro | exact ACoeL.refl _ | assumption | omega | rfl | (dsimp only; omega) | (refine ⟨?_, ?_⟩) | intro (_ : _ = true) | exact fun _ _ => rfl | fail)
      repeat refine W_seq ?_
      refine W_block ?_
      refine W_loop (X := Nat × Int) (fun x => ⟨[(0, aG g), (3, .bp 0 0), (9, I x.2), (10, .mp 1), (50, .p (pNN ns)), (51, I ns.length), (52, I x.1)], ⟨2, [(0, .box [I sum, .p (pNN ns)]), (1, .map 3 4 (seenN ns x.1))]⟩⟩)
        (fun x => x.1 ≤ ns.length ∧ honK g ns [] 0 sum = honK g (ns.drop x.1) (seenN ns x.1) x.2 sum) (fun x => ns.length - x.1) (0, 0) ⟨by simp, rfl⟩ ?_ ?_ ?_
      · exact Le_mk ⟨ACoe.refl _, rfl, ACoe.refl _, rfl, ACoe.refl _, rfl, ACoe.refl _, rfl, ACoe.refl _, rfl, ACoe.refl _, rfl, ACoe.refl _, rfl, trivial⟩ ⟨⟨ACoeL.refl _, rfl, rfl⟩, rfl, ⟨rfl, rfl, rfl⟩, rfl, trivial⟩
      · exact fun x => Sub_of rfl
      · rintro ⟨k, s⟩ ⟨hk, hh⟩
        simp only at hk hh
        repeat refine W_seq ?_
        refine' W_run tys_ok EE_ok false false [] rfl ?ap23 ?k23
        case ap23 => repeat' (first | exact True.intro | exact ACoeL.refl _ | assumption | omega | rfl | (dsimp only; omega) | (refine ⟨?_, ?_⟩) | intro (_ : _ = true) | exact fun _ _ => rfl | fail)
        repeat refine W_seq ?_
        refine W_if rfl True.intro (fun h5 => ?_) (fun h5 => ?_)
        · refine W_skip ?_
          simp only [decide_eq_true_eq] at h5
          have hlt : k < ns.length := by omega
          have hnm := nameOk_iff (allP_getD hi hlt (0, 0))
          have hnm1 : 0 ≤ (nAt ns k).1 ∧ (nAt ns k).1 ≤ (g.length : Int) - 1 := hnm.1
          have hnm2 : 0 ≤ (nAt ns k).2 ∧ (nAt ns k).2 ≤ ((stripAt g (nAt ns k).1.toNat).sam.length : Int) - 1 := by
            rw [hgo.len _ (by omega)]; exact hnm.2
          rw [drop_getD hlt (0, 0)] at hh
          have hh' : honK g ns [] 0 sum = (okn (smpN g (nAt ns k)) && (!hasI (seenN ns k) (nAt ns k).1 && honK g (ns.drop (k + 1)) (seenN ns k ++ [(nAt ns k).1]) (wr (s + smpN g (nAt ns k))) sum)) := hh
          repeat refine W_seq ?_
          refine W_block ?_
          dsimp only
          repeat refine W_seq ?_
          refine' W_run tys_ok EE_ok false false [] rfl ?ap25 ?k25
          case ap25 => repeat' (first | exact True.intro | exact ACoeL.refl _ | assumption | omega | rfl | (dsimp only; omega) | (refine ⟨?_, ?_⟩) | intro (_ : _ = true) | exact fun _ _ => rfl | fail)
          repeat refine W_seq ?_
          refine' W_any tys_ok EE_ok mixed false [] rfl (fun te ts => by kernel_rfl) (by kernel_rfl) ?ap26 ?k26
          case ap26 => (repeat' (first | exact True.intro | exact ACoeL.refl _ | assumption | omega | rfl | (dsimp only; omega) | (refine ⟨?_, ?_⟩) | intro (_ : _ = true) | exact fun _ _ => rfl | fail)); all_goals ((simp only [Int.toNat_natCast]; omega))
          repeat refine W_seq ?_
          refine' W_run tys_ok EE_ok false false [Hint.of (known_ok (smpN g (nAt ns k)))] rfl ?ap27 ?k27
          case ap27 => repeat' (first | exact True.intro | exact ACoeL.refl _ | assumption | omega | rfl | (dsimp only; omega) | (refine ⟨?_, ?_⟩) | intro (_ : _ = true) | exact fun _ _ => rfl | fail)
          have hv : (bif !okn (smpN g (nAt ns k)) then true else hasI (seenN ns k) (nAt ns k).1) = !(okn (smpN g (nAt ns k)) && !hasI (seenN ns k) (nAt ns k).1) := by
            cases okn (smpN g (nAt ns k)) <;> simp
          repeat refine W_seq ?_
          refine W_if rfl True.intro (fun h6 => ?_) (fun h6 => ?_)
          · have h7 : (okn (smpN g (nAt ns k)) && !hasI (seenN ns k) (nAt ns k).1) = false := by rw [← Bool.not_eq_true', ← hv]; exact h6
            have h8 : honK g ns [] 0 sum = false := by rw [hh', ← Bool.and_assoc, h7, Bool.false_and]
            repeat refine W_seq ?_
            refine' W_run tys_ok EE_ok false false [] rfl ?ap29 ?k29
            case ap29 => repeat' (first | exact True.intro | exact ACoeL.refl _ | assumption | omega | rfl | (dsimp only; omega) | (refine ⟨?_, ?_⟩) | intro (_ : _ = true) | exact fun _ _ => rfl | fail)
            refine W_ret ⟨_, _, rfl, ?_, (by simp only [HonestS, hgb, hi, h8, cond_true]; exact ACoe.refl _)⟩
            · repeat' (first | exact True.intro | exact ACoeL.refl _ | assumption | omega | rfl | (dsimp only; omega) | (refine ⟨?_, ?_⟩) | intro (_ : _ = true) | exact fun _ _ => rfl | fail)
          · have h7 : (okn (smpN g (nAt ns k)) && !hasI (seenN ns k) (nAt ns k).1) = true := by rw [← Bool.not_eq_false', ← hv]; exact h6
            rw [← Bool.and_assoc, h7, Bool.true_and, ← seenN_succ hlt] at hh'
            have hno : hasI (seenN ns k) (nAt ns k).1 = false := by
              simp only [Bool.and_eq_true, Bool.not_eq_true'] at h7
              exact h7.2
            refine W_skip ?_
            repeat refine W_seq ?_
            refine' W_run tys_ok EE_ok false true [] rfl ?ap31 ?k31
            case ap31 => repeat' (first | exact True.intro | exact ACoeL.refl _ | assumption | omega | rfl | (dsimp only; omega) | (refine ⟨?_, ?_⟩) | intro (_ : _ = true) | exact fun _ _ => rfl | fail)
            repeat refine W_seq ?_
            refine' W_run tys_ok EE_ok false false [] rfl ?ap32 ?k32
            case ap32 => repeat' (first | exact True.intro | exact ACoeL.refl _ | assumption | omega | rfl | (dsimp only; omega) | (refine ⟨?_, ?_⟩) | intro (_ : _ = true) | exact fun _ _ => rfl | fail)
            refine ⟨(k + 1, wr (s + smpN g (nAt ns k))), ⟨by dsimp only; omega, hh'⟩, by dsimp only; omega, Le_mk ⟨ACoe.refl _, rfl, ACoe.refl _, rfl, ACoe.refl _, rfl, ACoe.refl _, rfl, ACoe.refl _, rfl, ACoe.refl _, rfl, ACoe.refl _, rfl, trivial⟩ ⟨⟨ACoeL.refl _, rfl, rfl⟩, rfl, ⟨rfl, rfl, by rw [seenN_succ hlt]; show addI (seenN ns k) (nAt ns k).1 = _; simp only [addI, hno, cond_false]⟩, rfl, trivial⟩⟩
        · refine W_exit ?_
          simp only [decide_eq_false_iff_not] at h5
          have hke : k = ns.length := by omega
          subst hke
          rw [List.drop_length] at hh
          repeat refine W_seq ?_
          refine' W_run tys_ok EE_ok false false [] rfl ?ap33 ?k33
          case ap33 => repeat' (first | exact True.intro | exact ACoeL.refl _ | assumption | omega | rfl | (dsimp only; omega) | (refine ⟨?_, ?_⟩) | intro (_ : _ = true) | exact fun _ _ => rfl | fail)
          refine W_ret ⟨_, _, rfl, ?_, (by simp only [HonestS, hgb, hi, hh, cond_true]; exact ACoe.refl _)⟩
          · repeat' (first | exact True.intro | exact ACoeL.refl _ | assumption | omega | rfl | (dsimp only; omega) | (refine ⟨?_, ?_⟩) | intro (_ : _ = true) | exact fun _ _ => rfl | fail)
end Go.Proofs.YtobpnmljijeadaaDoor.A

/- Contracts: the reference's Honest and Shift. -/
set_option linter.unusedVariables false
set_option linter.unusedSimpArgs false
namespace Go.Proofs.YtobpnmljijeadaaDoor.A
open Go

theorem HonestR_ok (g : List Strip) (sum : Int) (ns : NmL) (hg : GB g) (hn : ns.length < 1152921504606846976) :
    Pure Tryd.prog GG 43 [aG g, .agg [I sum, .p (pNN ns)]] (.tup [Bo (HonestS g sum ns).1, I (HonestS g sum ns).2]) := by
  have hc : ∀ a b : Bool, (bif !a then true else !b) = !(a && b) := by decide
  have hglen := hg.len
  refine Pure.fn tys_ok Tryd.func43 (by kernel_rfl) rfl rfl fun O => ?_
  repeat refine W_seq ?_
  refine' W_run tys_ok EE_ok false false [] rfl ?ap2 ?k2
  case ap2 => (repeat' (first | exact True.intro | exact ACoeL.refl _ | assumption | omega | rfl | (dsimp only; omega) | (refine ⟨?_, ?_⟩) | intro (_ : _ = true) | exact fun _ _ => rfl | fail)); all_goals ((try simp only [Int.toNat_natCast]); omega)
  repeat refine W_seq ?_
  refine' W_run tys_ok EE_ok false false [Hint.of (gatherR_ok g hg)] rfl ?ap3 ?k3
  case ap3 => (repeat' (first | exact True.intro | exact ACoeL.refl _ | assumption | omega | rfl | (dsimp only; omega) | (refine ⟨?_, ?_⟩) | intro (_ : _ = true) | exact fun _ _ => rfl | fail)); all_goals ((try simp only [Int.toNat_natCast]); omega)
  repeat refine W_seq ?_
  refine W_if rfl True.intro (fun h1 => ?_) (fun h1 => ?_)
  · have hgb : gatherB g = false := by simpa using h1
    repeat refine W_seq ?_
    refine' W_run tys_ok EE_ok false false [] rfl ?ap5 ?k5
    case ap5 => (repeat' (first | exact True.intro | exact ACoeL.refl _ | assumption | omega | rfl | (dsimp only; omega) | (refine ⟨?_, ?_⟩) | intro (_ : _ = true) | exact fun _ _ => rfl | fail)); all_goals ((try simp only [Int.toNat_natCast]); omega)
    refine W_ret ⟨_, _, rfl, ?_, (by simp only [HonestS, hgb, cond_false]; exact ACoe.refl _)⟩
    · repeat' (first | exact True.intro | exact ACoeL.refl _ | assumption | omega | rfl | (dsimp only; omega) | (refine ⟨?_, ?_⟩) | intro (_ : _ = true) | exact fun _ _ => rfl | fail)
  have hgb : gatherB g = true := by simpa using h1
  have hgo := GOk.of hgb
  have hgo0 := hgo.n0
  have hgo1 := hgo.n1
  have hgl1 := hgo.l1
  refine W_skip ?_
  repeat refine W_seq ?_
  refine' W_run tys_ok EE_ok false false [] rfl ?ap7 ?k7
  case ap7 => (repeat' (first | exact True.intro | exact ACoeL.refl _ | assumption | omega | rfl | (dsimp only; omega) | (refine ⟨?_, ?_⟩) | intro (_ : _ = true) | exact fun _ _ => rfl | fail)); all_goals ((try simp only [Int.toNat_natCast]); omega)
  repeat refine W_seq ?_
  refine W_block ?_
  refine W_loop (X := Nat) (fun k => ⟨[(0, aG g), (3, .bp 0 0), (6, I k)], ⟨1, [(0, .box [I sum, .p (pNN ns)])]⟩⟩)
    (fun k => k ≤ ns.length ∧ ns.all (nameOk g) = (ns.drop k).all (nameOk g)) (fun k => ns.length - k) 0 ⟨by omega, rfl⟩ ?_ ?_ ?_
  · exact Le_mk ⟨ACoe.refl _, rfl, ACoe.refl _, rfl, ACoe.refl _, rfl, trivial⟩ ⟨⟨ACoeL.refl _, rfl, rfl⟩, rfl, trivial⟩
  · exact fun x => Sub_of rfl
  · rintro k ⟨hk, hi⟩
    repeat refine W_seq ?_
    refine' W_run tys_ok EE_ok false false [] rfl ?ap8 ?k8
    case ap8 => (repeat' (first | exact True.intro | exact ACoeL.refl _ | assumption | omega | rfl | (dsimp only; omega) | (refine ⟨?_, ?_⟩) | intro (_ : _ = true) | exact fun _ _ => rfl | fail)); all_goals ((try simp only [Int.toNat_natCast]); omega)
    repeat refine W_seq ?_
    refine W_if rfl True.intro (fun h2 => ?_) (fun h2 => ?_)
    · refine W_skip ?_
      simp only [decide_eq_true_eq] at h2
      have hlt : k < ns.length := by omega
      rw [drop_getD hlt (0, 0), List.all_cons] at hi
      have hi' : ns.all (nameOk g) = (nameOk g (nAt ns k) && (ns.drop (k + 1)).all (nameOk g)) := hi
      repeat refine W_seq ?_
      refine W_block ?_
      repeat refine W_seq ?_
      refine' W_any tys_ok EE_ok mixed false [Hint.of (Between_ok (nAt ns k).1 0 ((g.length : Int) - 1)), Hint.of (Between_ok (nAt ns k).2 0 (((stripAt g 0).sam.length : Int) - 1))] rfl (fun te ts => by kernel_rfl) (by kernel_rfl) ?ap10 ?k10
      case ap10 => (repeat' (first | exact True.intro | exact ACoeL.refl _ | assumption | omega | rfl | (dsimp only; omega) | (refine ⟨?_, ?_⟩) | intro (_ : _ = true) | exact fun _ _ => rfl | fail)); all_goals (((try simp only [Int.toNat_natCast]); grind [within_iff]))
      have hv : (bif !within (nAt ns k).1 0 ((g.length : Int) - 1) then true else !within (nAt ns k).2 0 (((stripAt g 0).sam.length : Int) - 1)) = !nameOk g (nAt ns k) := by
        rw [hc, nameOk]; rfl
      repeat refine W_seq ?_
      refine W_if rfl True.intro (fun h3 => ?_) (fun h3 => ?_)
      · have h4 : nameOk g (nAt ns k) = false := by rw [← Bool.not_eq_true', ← hv]; exact h3
        rw [h4, Bool.false_and] at hi'
        repeat refine W_seq ?_
        refine' W_run tys_ok EE_ok false false [] rfl ?ap12 ?k12
        case ap12 => (repeat' (first | exact True.intro | exact ACoeL.refl _ | assumption | omega | rfl | (dsimp only; omega) | (refine ⟨?_, ?_⟩) | intro (_ : _ = true) | exact fun _ _ => rfl | fail)); all_goals ((try simp only [Int.toNat_natCast]); omega)
        refine W_ret ⟨_, _, rfl, ?_, (by simp only [HonestS, hgb, hi', cond_true, cond_false]; exact ACoe.refl _)⟩
        · repeat' (first | exact True.intro | exact ACoeL.refl _ | assumption | omega | rfl | (dsimp only; omega) | (refine ⟨?_, ?_⟩) | intro (_ : _ = true) | exact fun _ _ => rfl | fail)
      · have h4 : nameOk g (nAt ns k) = true := by rw [← Bool.not_eq_false', ← hv]; exact h3
        rw [h4, Bool.true_and] at hi'
        refine W_skip ?_
        repeat refine W_seq ?_
        refine' W_run tys_ok EE_ok false false [] rfl ?ap14 ?k14
        case ap14 => (repeat' (first | exact True.intro | exact ACoeL.refl _ | assumption | omega | rfl | (dsimp only; omega) | (refine ⟨?_, ?_⟩) | intro (_ : _ = true) | exact fun _ _ => rfl | fail)); all_goals ((try simp only [Int.toNat_natCast]); omega)
        exact ⟨k + 1, ⟨by omega, hi'⟩, by omega, Le_mk ⟨ACoe.refl _, rfl, ACoe.refl _, rfl, ACoe.refl _, rfl, trivial⟩ ⟨⟨ACoeL.refl _, rfl, rfl⟩, rfl, trivial⟩⟩
    · refine W_exit ?_
      simp only [decide_eq_false_iff_not] at h2
      have hke : k = ns.length := by omega
      subst hke
      rw [List.drop_length, List.all_nil] at hi
      repeat refine W_seq ?_
      refine' W_run tys_ok EE_ok false false [] rfl ?ap15 ?k15
      case ap15 => (repeat' (first | exact True.intro | exact ACoeL.refl _ | assumption | omega | rfl | (dsimp only; omega) | (refine ⟨?_, ?_⟩) | intro (_ : _ = true) | exact fun _ _ => rfl | fail)); all_goals ((try simp only [Int.toNat_natCast]); omega)
      repeat refine W_seq ?_
      refine' W_run tys_ok EE_ok false false [] rfl ?ap16 ?k16
      case ap16 => (repeat' (first | exact True.intro | exact ACoeL.refl _ | assumption | omega | rfl | (dsimp only; omega) | (refine ⟨?_, ?_⟩) | intro (_ : _ = true) | exact fun _ _ => rfl | fail)); all_goals ((try simp only [Int.toNat_natCast]); omega)
      repeat refine W_seq ?_
      refine' W_run tys_ok EE_ok false false [] rfl ?ap17 ?k17
      case ap17 => (repeat' (first | exact True.intro | exact ACoeL.refl _ | assumption | omega | rfl | (dsimp only; omega) | (refine ⟨?_, ?_⟩) | intro (_ : _ = true) | exact fun _ _ => rfl | fail)); all_goals ((try simp only [Int.toNat_natCast]); omega)
      repeat refine W_seq ?_
      refine W_block ?_
      refine W_loop (X := Nat × Int × Bool) (fun x => ⟨[(0, aG g), (3, .bp 0 0), (7, I x.2.1), (8, Bo x.2.2), (9, .row 1 1 g.length), (10, I x.1)], ⟨2, [(0, .box [I sum, .p (pNN ns)]), (1, .row 4 1 g.length (fun i => [Bo (hasI (seenN ns x.1) (i : Int))]))]⟩⟩)
        (fun x => x.1 ≤ ns.length ∧ honK g ns [] 0 sum = (x.2.2 && honK g (ns.drop x.1) (seenN ns x.1) x.2.1 sum)) (fun x => ns.length - x.1) (0, 0, true) ⟨by simp, by simp [seenN]⟩ ?_ ?_ ?_
      · exact Le_mk ⟨ACoe.refl _, rfl, ACoe.refl _, rfl, ACoe.refl _, rfl, ACoe.refl _, rfl, ACoe.refl _, rfl, ACoe.refl _, rfl, trivial⟩ ⟨⟨ACoeL.refl _, rfl, rfl⟩, rfl, ⟨rfl, rfl, rfl, fun i hi => ⟨ACoeL.refl _, rfl, rfl⟩⟩, rfl, trivial⟩
      · exact fun x => Sub_of rfl
      · rintro ⟨k, s, ok⟩ ⟨hk, hh⟩
        simp only at hk hh
        repeat refine W_seq ?_
        refine' W_run tys_ok EE_ok false false [] rfl ?ap18 ?k18
        case ap18 => (repeat' (first | exact True.intro | exact ACoeL.refl _ | assumption | omega | rfl | (dsimp only; omega) | (refine ⟨?_, ?_⟩) | intro (_ : _ = true) | exact fun _ _ => rfl | fail)); all_goals ((try simp only [Int.toNat_natCast]); omega)
        repeat refine W_seq ?_
        refine W_if rfl True.intro (fun h5 => ?_) (fun h5 => ?_)
        · refine W_skip ?_
          simp only [decide_eq_true_eq] at h5
          have hlt : k < ns.length := by omega
          have hnm := nameOk_iff (allP_getD hi hlt (0, 0))
          have hnm1 : 0 ≤ (nAt ns k).1 ∧ (nAt ns k).1 ≤ (g.length : Int) - 1 := hnm.1
          have hnm2 : 0 ≤ (nAt ns k).2 ∧ (nAt ns k).2 ≤ ((stripAt g (nAt ns k).1.toNat).sam.length : Int) - 1 := by
            rw [hgo.len _ (by omega)]; exact hnm.2
          rw [drop_getD hlt (0, 0)] at hh
          have hh' : honK g ns [] 0 sum = (ok && (okn (smpN g (nAt ns k)) && (!hasI (seenN ns k) (nAt ns k).1 && honK g (ns.drop (k + 1)) (seenN ns k ++ [(nAt ns k).1]) (wr (s + smpN g (nAt ns k))) sum))) := hh
          repeat refine W_seq ?_
          refine W_block ?_
          dsimp only
          repeat refine W_seq ?_
          refine' W_run tys_ok EE_ok false false [] rfl ?ap20 ?k20
          case ap20 => (repeat' (first | exact True.intro | exact ACoeL.refl _ | assumption | omega | rfl | (dsimp only; omega) | (refine ⟨?_, ?_⟩) | intro (_ : _ = true) | exact fun _ _ => rfl | fail)); all_goals ((try simp only [Int.toNat_natCast]); omega)
          repeat refine W_seq ?_
          refine' W_any tys_ok EE_ok mixed false [] rfl (fun te ts => by kernel_rfl) (by kernel_rfl) ?ap21 ?k21
          case ap21 => (repeat' (first | exact True.intro | exact ACoeL.refl _ | assumption | omega | rfl | (dsimp only; omega) | (refine ⟨?_, ?_⟩) | intro (_ : _ = true) | exact fun _ _ => rfl | fail)); all_goals ((simp only [Int.toNat_natCast]; omega))
          repeat refine W_seq ?_
          refine' W_run tys_ok EE_ok false false [Hint.of (knownR_ok (smpN g (nAt ns k)))] rfl ?ap22 ?k22
          case ap22 => (repeat' (first | exact True.intro | exact ACoeL.refl _ | assumption | omega | rfl | (dsimp only; omega) | (refine ⟨?_, ?_⟩) | intro (_ : _ = true) | exact fun _ _ => rfl | fail)); all_goals ((try simp only [Int.toNat_natCast]); omega)
          repeat refine W_seq ?_
          refine' W_run tys_ok EE_ok false false [] rfl ?ap23 ?k23
          case ap23 => (repeat' (first | exact True.intro | exact ACoeL.refl _ | assumption | omega | rfl | (dsimp only; omega) | (refine ⟨?_, ?_⟩) | intro (_ : _ = true) | exact fun _ _ => rfl | fail)); all_goals ((try simp only [Int.toNat_natCast]); omega)
          repeat refine W_seq ?_
          refine' W_run tys_ok EE_ok false true [] rfl ?ap24 ?k24
          case ap24 => (repeat' (first | exact True.intro | exact ACoeL.refl _ | assumption | omega | rfl | (dsimp only; omega) | (refine ⟨?_, ?_⟩) | intro (_ : _ = true) | exact fun _ _ => rfl | fail)); all_goals ((try simp only [Int.toNat_natCast]); omega)
          repeat refine W_seq ?_
          refine' W_run tys_ok EE_ok false false [] rfl ?ap25 ?k25
          case ap25 => (repeat' (first | exact True.intro | exact ACoeL.refl _ | assumption | omega | rfl | (dsimp only; omega) | (refine ⟨?_, ?_⟩) | intro (_ : _ = true) | exact fun _ _ => rfl | fail)); all_goals ((try simp only [Int.toNat_natCast]); omega)
          have hcast : (((nAt ns k).1.toNat : Nat) : Int) = (nAt ns k).1 := by omega
          refine ⟨(k + 1, wr (s + smpN g (nAt ns k)), ok && (okn (smpN g (nAt ns k)) && !hasI (seenN ns k) (nAt ns k).1)), ⟨by dsimp only; omega, ?_⟩, by dsimp only; omega, Le_mk ⟨ACoe.refl _, rfl, ACoe.refl _, rfl, ACoe.refl _, rfl, Bo_eq ?_, rfl, ACoe.refl _, rfl, ACoe.refl _, rfl, trivial⟩ ⟨⟨ACoeL.refl _, rfl, rfl⟩, rfl, ?_, rfl, trivial⟩⟩
          · dsimp only
            rw [hh', seenN_succ hlt]
            cases ok <;> cases okn (smpN g (nAt ns k)) <;> cases hasI (seenN ns k) (nAt ns k).1 <;> simp
          · show (bif (bif ok then okn (smpN g (nAt ns k)) else false) then !hasI (seenN ns k) (((nAt ns k).1.toNat : Nat) : Int) else false) = _
            rw [hcast]
            cases ok <;> cases okn (smpN g (nAt ns k)) <;> simp
          · dsimp only
            refine ⟨rfl, rfl, rfl, fun i hi => ?_⟩
            show ACoeL (if i = (nAt ns k).1.toNat then splice [Bo (hasI (seenN ns k) (((nAt ns k).1.toNat : Nat) : Int))] 0 [Bo true] else [Bo (hasI (seenN ns k) (i : Int))]) [Bo (hasI (seenN ns (k + 1)) (i : Int))] ∧ _ = (if i = (nAt ns k).1.toNat then splice [Bo (hasI (seenN ns k) (((nAt ns k).1.toNat : Nat) : Int))] 0 [Bo true] else [Bo (hasI (seenN ns k) (i : Int))]).length ∧ _
            rw [seenN_succ hlt, hasI_snoc]
            by_cases hik : i = (nAt ns k).1.toNat
            · rw [if_pos hik]
              refine ⟨ACoeL.cons (Bo_eq ?_) ACoeL.nil, rfl, rfl⟩
              rw [hik, hcast]; simp
            · rw [if_neg hik]
              refine ⟨ACoeL.cons (Bo_eq ?_) ACoeL.nil, rfl, rfl⟩
              have : ((i : Int) == (nAt ns k).1) = false := by simp; omega
              rw [this, Bool.or_false]
        · refine W_exit ?_
          simp only [decide_eq_false_iff_not] at h5
          have hke : k = ns.length := by omega
          subst hke
          rw [List.drop_length] at hh
          repeat refine W_seq ?_
          refine' W_run tys_ok EE_ok false false [] rfl ?ap26 ?k26
          case ap26 => (repeat' (first | exact True.intro | exact ACoeL.refl _ | assumption | omega | rfl | (dsimp only; omega) | (refine ⟨?_, ?_⟩) | intro (_ : _ = true) | exact fun _ _ => rfl | fail)); all_goals ((try simp only [Int.toNat_natCast]); omega)
          refine W_ret ⟨_, _, rfl, ?_, (by simp only [HonestS, hgb, hi, hh, cond_true]; cases ok <;> exact ACoe.refl _)⟩
          · repeat' (first | exact True.intro | exact ACoeL.refl _ | assumption | omega | rfl | (dsimp only; omega) | (refine ⟨?_, ?_⟩) | intro (_ : _ = true) | exact fun _ _ => rfl | fail)
end Go.Proofs.YtobpnmljijeadaaDoor.A

/- Contracts: the reference's Shift. -/
set_option linter.unusedVariables false
set_option linter.unusedSimpArgs false
namespace Go.Proofs.YtobpnmljijeadaaDoor.A
open Go

/-- What is wanted of a piece: an account, from which the rest goes on. -/
theorem W_cut {P : Program} {O : Nat → Prop} {Γ : Ctx} {N : Nat} {r : Option Nat} {Q : Exit → Env → Prop} {σ : Env} {x y : Code} (σ' : Env)
    (h : W P O Γ N r x (andThen (fun σ1 => Le σ1 σ' ∧ Sub σ1.S σ'.S) Q) σ) (hk : W P O Γ N r y Q σ') : W P O Γ N r x (andThen (W P O Γ N r y Q) Q) σ :=
  h.mono fun e σ1 hq => by
    cases e with
    | normal => exact W_le hq.1 hq.2 hk
    | _ => exact hq

theorem ShiftR_ok (a b : List Int) (most : Int) (hl : a.length < 1152921504606846976) (hl2 : b.length < 1152921504606846976) :
    Pure Tryd.prog GG 29 [aL a, aL b, I most] (.tup [I (ShiftS a b most).1.1, I (ShiftS a b most).1.2, I (ShiftS a b most).2]) := by
  have hc : ∀ x y z w : Bool, (bif bif bif !x then true else !y then true else !z then true else !w) = !((bif x then z else false) && (bif y then w else false)) := by decide
  refine Pure.fn tys_ok Tryd.func29 (by kernel_rfl) rfl rfl fun O => ?_
  repeat refine W_seq ?_
  refine' W_run tys_ok EE_ok false false [] rfl ?ap2 ?k2
  case ap2 => (repeat' (first | exact True.intro | exact ACoeL.refl _ | assumption | omega | rfl | (dsimp only; omega) | (refine ⟨?_, ?_⟩) | intro (_ : _ = true) | exact fun _ _ => rfl | fail)); all_goals ((try simp only [Int.toNat_natCast]); omega)
  repeat refine W_seq ?_
  refine' W_run tys_ok EE_ok false false [Hint.of (Between_ok a.length 1 64), Hint.of (Between_ok b.length 1 64), Hint.of (samplesR_ok a hl), Hint.of (samplesR_ok b hl2)] rfl ?ap3 ?k3
  case ap3 => (repeat' (first | exact True.intro | exact ACoeL.refl _ | assumption | omega | rfl | (dsimp only; omega) | (refine ⟨?_, ?_⟩) | intro (_ : _ = true) | exact fun _ _ => rfl | fail)); all_goals ((try simp only [Int.toNat_natCast]); omega)
  repeat refine W_seq ?_
  refine W_if rfl True.intro (fun h1 => ?_) (fun h1 => ?_)
  · have h3 : shOk a b = false := by rw [← Bool.not_eq_true', shOk, sampledB, sampledB, ← hc]; exact h1
    repeat refine W_seq ?_
    refine' W_run tys_ok EE_ok false false [] rfl ?ap5 ?k5
    case ap5 => (repeat' (first | exact True.intro | exact ACoeL.refl _ | assumption | omega | rfl | (dsimp only; omega) | (refine ⟨?_, ?_⟩) | intro (_ : _ = true) | exact fun _ _ => rfl | fail)); all_goals ((try simp only [Int.toNat_natCast]); omega)
    refine W_ret ⟨_, _, rfl, ?_, (by simp only [ShiftS, h3, cond_false]; exact ACoe.refl _)⟩
    · repeat' (first | exact True.intro | exact ACoeL.refl _ | assumption | omega | rfl | (dsimp only; omega) | (refine ⟨?_, ?_⟩) | intro (_ : _ = true) | exact fun _ _ => rfl | fail)
  have h3 : shOk a b = true := by rw [← Bool.not_eq_false', shOk, sampledB, sampledB, ← hc]; exact h1
  have h4 := h3
  simp only [shOk, Bool.and_eq_true] at h4
  have hla := sampledB_len h4.1
  have hlb := sampledB_len h4.2
  refine W_skip ?_
  repeat refine W_seq ?_
  refine' W_run tys_ok EE_ok false false [Hint.of (Between_ok most 0 16)] rfl ?ap7 ?k7
  case ap7 => (repeat' (first | exact True.intro | exact ACoeL.refl _ | assumption | omega | rfl | (dsimp only; omega) | (refine ⟨?_, ?_⟩) | intro (_ : _ = true) | exact fun _ _ => rfl | fail)); all_goals ((try simp only [Int.toNat_natCast]); omega)
  repeat refine W_seq ?_
  refine W_if rfl True.intro (fun h2 => ?_) (fun h2 => ?_)
  · simp only [Bool.not_eq_true'] at h2
    repeat refine W_seq ?_
    refine' W_run tys_ok EE_ok false false [] rfl ?ap9 ?k9
    case ap9 => (repeat' (first | exact True.intro | exact ACoeL.refl _ | assumption | omega | rfl | (dsimp only; omega) | (refine ⟨?_, ?_⟩) | intro (_ : _ = true) | exact fun _ _ => rfl | fail)); all_goals ((try simp only [Int.toNat_natCast]); omega)
    refine W_ret ⟨_, _, rfl, ?_, (by simp only [ShiftS, h3, h2, cond_true, cond_false]; exact ACoe.refl _)⟩
    · repeat' (first | exact True.intro | exact ACoeL.refl _ | assumption | omega | rfl | (dsimp only; omega) | (refine ⟨?_, ?_⟩) | intro (_ : _ = true) | exact fun _ _ => rfl | fail)
  simp only [Bool.not_eq_false'] at h2
  have hm := within_iff.1 h2
  refine W_skip ?_
  repeat refine W_seq ?_
  refine' W_run tys_ok EE_ok false false [] rfl ?ap11 ?k11
  case ap11 => (repeat' (first | exact True.intro | exact ACoeL.refl _ | assumption | omega | rfl | (dsimp only; omega) | (refine ⟨?_, ?_⟩) | intro (_ : _ = true) | exact fun _ _ => rfl | fail)); all_goals ((try simp only [Int.toNat_natCast]); omega)
  repeat refine W_seq ?_
  refine' W_run tys_ok EE_ok false false [] rfl ?ap12 ?k12
  case ap12 => (repeat' (first | exact True.intro | exact ACoeL.refl _ | assumption | omega | rfl | (dsimp only; omega) | (refine ⟨?_, ?_⟩) | intro (_ : _ = true) | exact fun _ _ => rfl | fail)); all_goals ((try simp only [Int.toNat_natCast]); omega)
  repeat refine W_seq ?_
  refine W_block ?_
  refine W_loop (X := Nat) (fun k => ⟨[(0, aL a), (1, aL b), (2, I most), (9, I (shF a b k).1), (10, I (shF a b k).2), (11, I k)], ⟨0, []⟩⟩)
    (fun k => k ≤ 2 * most + 1) (fun k => 64 - k) 0 (by omega) ?_ ?_ ?_
  · exact Le_mk ⟨ACoe.refl _, rfl, ACoe.refl _, rfl, ACoe.refl _, rfl, ACoe.refl _, rfl, ACoe.refl _, rfl, ACoe.refl _, rfl, trivial⟩ trivial
  · exact fun x => Sub_of rfl
  · intro k hk
    repeat refine W_seq ?_
    refine' W_run tys_ok EE_ok false false [] rfl ?ap13 ?k13
    case ap13 => (repeat' (first | exact True.intro | exact ACoeL.refl _ | assumption | omega | rfl | (dsimp only; omega) | (refine ⟨?_, ?_⟩) | intro (_ : _ = true) | exact fun _ _ => rfl | fail)); all_goals ((try simp only [Int.toNat_natCast]); omega)
    repeat refine W_seq ?_
    refine W_if rfl True.intro (fun h5 => ?_) (fun h5 => ?_)
    · refine W_skip ?_
      simp only [decide_eq_true_eq] at h5
      obtain ⟨s, hs⟩ : ∃ s, shAt k = s := ⟨_, rfl⟩
      have hsb : -16 ≤ s ∧ s ≤ 16 := by
        rw [← hs]; unfold shAt; cases decide (k % 2 = 1) <;> simp only [cond_true, cond_false] <;> omega
      have hdiv : ((k : Int) + 1).tdiv 2 = ((k : Int) + 1) / 2 := Int.tdiv_eq_ediv_of_nonneg (by omega)
      have hmod : (k : Int).tmod 2 = (k : Int) % 2 := Int.tmod_eq_emod_of_nonneg (by omega)
      have hstep : shF a b (k + 1) = bif bif decide ((k : Int) = 0) then true else decide (shD a b s > (shF a b k).2) then (s, shD a b s) else shF a b k := by rw [shF, hs]
      obtain ⟨q, hq⟩ : ∃ q, shF a b k = q := ⟨_, rfl⟩
      rw [hq] at hstep
      rw [hq]
      repeat refine W_seq ?_
      refine W_block ?_
      repeat refine W_seq ?_
      refine' W_run tys_ok EE_ok false false [] rfl ?ap15 ?k15
      case ap15 => (repeat' (first | exact True.intro | exact ACoeL.refl _ | assumption | omega | rfl | (dsimp only; omega) | (refine ⟨?_, ?_⟩) | intro (_ : _ = true) | exact fun _ _ => rfl | fail)); all_goals (omega)
      refine W_le (σ' := ⟨[(0, aL a), (1, aL b), (2, I most), (9, I q.1), (10, I q.2), (11, I k), (12, I (((k : Int) + 1) / 2))], ⟨0, []⟩⟩) (Le_mk ⟨ACoe.refl _, rfl, ACoe.refl _, rfl, ACoe.refl _, rfl, ACoe.refl _, rfl, ACoe.refl _, rfl, ACoe.refl _, rfl, I_eq hdiv, rfl, trivial⟩ trivial) (Sub.refl _) ?_
      repeat refine W_seq ?_
      refine' W_run tys_ok EE_ok false false [] rfl ?ap16 ?k16
      case ap16 => (repeat' (first | exact True.intro | exact ACoeL.refl _ | assumption | omega | rfl | (dsimp only; omega) | (refine ⟨?_, ?_⟩) | intro (_ : _ = true) | exact fun _ _ => rfl | fail)); all_goals (omega)
      repeat refine W_seq ?_
      refine W_cut ⟨[(0, aL a), (1, aL b), (2, I most), (9, I q.1), (10, I q.2), (11, I k), (12, I s)], ⟨0, []⟩⟩ ?_ ?_
      · repeat refine W_seq ?_
        refine W_if rfl True.intro (fun h6 => ?_) (fun h6 => ?_)
        · have h7 : (k : Int) % 2 = 1 := by rw [← hmod]; simpa using h6
          have hse : s = -(((k : Int) + 1) / 2) := by
            rw [← hs, shAt, show decide (k % 2 = 1) = true by simp; omega]; rfl
          repeat refine W_seq ?_
          refine' W_run tys_ok EE_ok false false [] rfl ?ap18 ?k18
          case ap18 => (repeat' (first | exact True.intro | exact ACoeL.refl _ | assumption | omega | rfl | (dsimp only; omega) | (refine ⟨?_, ?_⟩) | intro (_ : _ = true) | exact fun _ _ => rfl | fail)); all_goals ((try simp only [Int.toNat_natCast]); omega)
          exact ⟨Le_mk ⟨ACoe.refl _, rfl, ACoe.refl _, rfl, ACoe.refl _, rfl, ACoe.refl _, rfl, ACoe.refl _, rfl, ACoe.refl _, rfl, I_eq hse.symm, rfl, trivial⟩ trivial, Sub_of rfl⟩
        · have h7 : ¬ (k : Int) % 2 = 1 := by rw [← hmod]; simpa using h6
          have hse : s = ((k : Int) + 1) / 2 := by
            rw [← hs, shAt, show decide (k % 2 = 1) = false by simp; omega]; rfl
          refine W_skip ?_
          exact ⟨Le_mk ⟨ACoe.refl _, rfl, ACoe.refl _, rfl, ACoe.refl _, rfl, ACoe.refl _, rfl, ACoe.refl _, rfl, ACoe.refl _, rfl, I_eq hse.symm, rfl, trivial⟩ trivial, Sub_of rfl⟩
      repeat refine W_seq ?_
      refine' W_run tys_ok EE_ok false false [] rfl ?ap19 ?k19
      case ap19 => (repeat' (first | exact True.intro | exact ACoeL.refl _ | assumption | omega | rfl | (dsimp only; omega) | (refine ⟨?_, ?_⟩) | intro (_ : _ = true) | exact fun _ _ => rfl | fail)); all_goals ((try simp only [Int.toNat_natCast]); omega)
      repeat refine W_seq ?_
      refine' W_run tys_ok EE_ok false false [] rfl ?ap20 ?k20
      case ap20 => (repeat' (first | exact True.intro | exact ACoeL.refl _ | assumption | omega | rfl | (dsimp only; omega) | (refine ⟨?_, ?_⟩) | intro (_ : _ = true) | exact fun _ _ => rfl | fail)); all_goals ((try simp only [Int.toNat_natCast]); omega)
      repeat refine W_seq ?_
      refine W_block ?_
      refine W_loop (X := Nat) (fun j => ⟨[(0, aL a), (1, aL b), (2, I most), (9, I q.1), (10, I q.2), (11, I k), (12, I s), (13, I (shG a b s j)), (14, I j)], ⟨0, []⟩⟩)
        (fun j => j ≤ a.length) (fun j => a.length - j) 0 (by omega) ?_ ?_ ?_
      · exact Le_mk ⟨ACoe.refl _, rfl, ACoe.refl _, rfl, ACoe.refl _, rfl, ACoe.refl _, rfl, ACoe.refl _, rfl, ACoe.refl _, rfl, ACoe.refl _, rfl, ACoe.refl _, rfl, ACoe.refl _, rfl, trivial⟩ trivial
      · exact fun x => Sub_of rfl
      · intro j hj
        repeat refine W_seq ?_
        refine' W_run tys_ok EE_ok false false [] rfl ?ap21 ?k21
        case ap21 => (repeat' (first | exact True.intro | exact ACoeL.refl _ | assumption | omega | rfl | (dsimp only; omega) | (refine ⟨?_, ?_⟩) | intro (_ : _ = true) | exact fun _ _ => rfl | fail)); all_goals ((try simp only [Int.toNat_natCast]); omega)
        repeat refine W_seq ?_
        refine W_if rfl True.intro (fun h7 => ?_) (fun h7 => ?_)
        · refine W_skip ?_
          simp only [decide_eq_true_eq] at h7
          have hjl : j < a.length := by omega
          have hb1 := shG_bound (a := a) (b := b) (s := s) j
          have hb2 := shT_bound (a := a) (b := b) (s := s) (i := j)
          have hjs : shG a b s (j + 1) = shG a b s j + shT a b s j := rfl
          repeat refine W_seq ?_
          refine W_block ?_
          repeat refine W_seq ?_
          refine' W_run tys_ok EE_ok false false [Hint.of (Between_ok ((j : Int) + s) 0 ((b.length : Int) - 1)), Hint.of (knownR_ok (a.getD (j : Int).toNat 0)), Hint.of (knownR_ok (b.getD ((j : Int) + s).toNat 0))] rfl ?ap23 ?k23
          case ap23 => (repeat' (first | exact True.intro | exact ACoeL.refl _ | assumption | omega | rfl | (dsimp only; omega) | (refine ⟨?_, ?_⟩) | intro (_ : _ = true) | exact fun _ _ => rfl | fail)); all_goals ((first | omega | (intro hx; have := within_iff.1 hx; omega) | grind [within_iff]))
          repeat refine W_seq ?_
          refine W_if rfl True.intro (fun h8 => ?_) (fun h8 => ?_)
          · have h8' : shT a b s j = a.getD j 0 * b.getD ((j : Int) + s).toNat 0 := by
              unfold shT; rw [show (bif bif within ((j : Int) + s) 0 ((b.length : Int) - 1) then okn (a.getD j 0) else false then okn (b.getD ((j : Int) + s).toNat 0) else false) = true from h8]; rfl
            have hin : 0 ≤ (j : Int) + s ∧ (j : Int) + s ≤ (b.length : Int) - 1 := by
              cases hw : within ((j : Int) + s) 0 ((b.length : Int) - 1) with
              | true => exact within_iff.1 hw
              | false => rw [hw] at h8; simp at h8
            repeat refine W_seq ?_
            refine' W_any tys_ok EE_ok mixed false [] rfl (fun te ts => by kernel_rfl) (by kernel_rfl) ?ap25 ?k25
            case ap25 => (repeat' (first | exact True.intro | exact ACoeL.refl _ | assumption | omega | rfl | (dsimp only; omega) | (refine ⟨?_, ?_⟩) | intro (_ : _ = true) | exact fun _ _ => rfl | fail)); all_goals ((try simp only [Int.toNat_natCast]); omega)
            repeat refine W_seq ?_
            refine' W_run tys_ok EE_ok false false [] rfl ?ap26 ?k26
            case ap26 => (repeat' (first | exact True.intro | exact ACoeL.refl _ | assumption | omega | rfl | (dsimp only; omega) | (refine ⟨?_, ?_⟩) | intro (_ : _ = true) | exact fun _ _ => rfl | fail)); all_goals ((try simp only [Int.toNat_natCast]); omega)
            refine ⟨j + 1, by omega, by omega, ?_⟩
            rw [hjs, h8']
            exact Le_mk ⟨ACoe.refl _, rfl, ACoe.refl _, rfl, ACoe.refl _, rfl, ACoe.refl _, rfl, ACoe.refl _, rfl, ACoe.refl _, rfl, ACoe.refl _, rfl, ACoe.refl _, rfl, ACoe.refl _, rfl, trivial⟩ trivial
          · have h8' : shT a b s j = 0 := by
              unfold shT; rw [show (bif bif within ((j : Int) + s) 0 ((b.length : Int) - 1) then okn (a.getD j 0) else false then okn (b.getD ((j : Int) + s).toNat 0) else false) = false from h8]; rfl
            refine W_skip ?_
            repeat refine W_seq ?_
            refine' W_run tys_ok EE_ok false false [] rfl ?ap27 ?k27
            case ap27 => (repeat' (first | exact True.intro | exact ACoeL.refl _ | assumption | omega | rfl | (dsimp only; omega) | (refine ⟨?_, ?_⟩) | intro (_ : _ = true) | exact fun _ _ => rfl | fail)); all_goals ((try simp only [Int.toNat_natCast]); omega)
            refine ⟨j + 1, by omega, by omega, ?_⟩
            rw [hjs, h8', Int.add_zero]
            exact Le_mk ⟨ACoe.refl _, rfl, ACoe.refl _, rfl, ACoe.refl _, rfl, ACoe.refl _, rfl, ACoe.refl _, rfl, ACoe.refl _, rfl, ACoe.refl _, rfl, ACoe.refl _, rfl, ACoe.refl _, rfl, trivial⟩ trivial
        · refine W_exit ?_
          simp only [decide_eq_false_iff_not] at h7
          have hje : j = a.length := by omega
          subst hje
          repeat refine W_seq ?_
          refine' W_run tys_ok EE_ok false false [] rfl ?ap28 ?k28
          case ap28 => (repeat' (first | exact True.intro | exact ACoeL.refl _ | assumption | omega | rfl | (dsimp only; omega) | (refine ⟨?_, ?_⟩) | intro (_ : _ = true) | exact fun _ _ => rfl | fail)); all_goals ((try simp only [Int.toNat_natCast]); omega)
          repeat refine W_seq ?_
          refine W_if rfl True.intro (fun h9 => ?_) (fun h9 => ?_)
          · have hst : shF a b (k + 1) = (s, shD a b s) := by
              rw [hstep, show (bif decide ((k : Int) = 0) then true else decide (shD a b s > q.2)) = true from h9]; rfl
            repeat refine W_seq ?_
            refine' W_run tys_ok EE_ok false false [] rfl ?ap30 ?k30
            case ap30 => (repeat' (first | exact True.intro | exact ACoeL.refl _ | assumption | omega | rfl | (dsimp only; omega) | (refine ⟨?_, ?_⟩) | intro (_ : _ = true) | exact fun _ _ => rfl | fail)); all_goals ((try simp only [Int.toNat_natCast]); omega)
            repeat refine W_seq ?_
            refine' W_run tys_ok EE_ok false false [] rfl ?ap31 ?k31
            case ap31 => (repeat' (first | exact True.intro | exact ACoeL.refl _ | assumption | omega | rfl | (dsimp only; omega) | (refine ⟨?_, ?_⟩) | intro (_ : _ = true) | exact fun _ _ => rfl | fail)); all_goals ((try simp only [Int.toNat_natCast]); omega)
            refine ⟨k + 1, by omega, by omega, ?_⟩
            rw [hst]
            exact Le_mk ⟨ACoe.refl _, rfl, ACoe.refl _, rfl, ACoe.refl _, rfl, ACoe.refl _, rfl, ACoe.refl _, rfl, ACoe.refl _, rfl, trivial⟩ trivial
          · have hst : shF a b (k + 1) = q := by
              rw [hstep, show (bif decide ((k : Int) = 0) then true else decide (shD a b s > q.2)) = false from h9]; rfl
            refine W_skip ?_
            repeat refine W_seq ?_
            refine' W_run tys_ok EE_ok false false [] rfl ?ap32 ?k32
            case ap32 => (repeat' (first | exact True.intro | exact ACoeL.refl _ | assumption | omega | rfl | (dsimp only; omega) | (refine ⟨?_, ?_⟩) | intro (_ : _ = true) | exact fun _ _ => rfl | fail)); all_goals ((try simp only [Int.toNat_natCast]); omega)
            refine ⟨k + 1, by omega, by omega, ?_⟩
            rw [hst]
            exact Le_mk ⟨ACoe.refl _, rfl, ACoe.refl _, rfl, ACoe.refl _, rfl, ACoe.refl _, rfl, ACoe.refl _, rfl, ACoe.refl _, rfl, trivial⟩ trivial
    · refine W_exit ?_
      simp only [decide_eq_false_iff_not] at h5
      have hke : k = 2 * most.toNat + 1 := by omega
      subst hke
      repeat refine W_seq ?_
      refine' W_run tys_ok EE_ok false false [] rfl ?ap33 ?k33
      case ap33 => (repeat' (first | exact True.intro | exact ACoeL.refl _ | assumption | omega | rfl | (dsimp only; omega) | (refine ⟨?_, ?_⟩) | intro (_ : _ = true) | exact fun _ _ => rfl | fail)); all_goals ((try simp only [Int.toNat_natCast]); omega)
      refine W_ret ⟨_, _, rfl, ?_, (by simp only [ShiftS, h3, h2, cond_true]; exact ACoe.refl _)⟩
      · repeat' (first | exact True.intro | exact ACoeL.refl _ | assumption | omega | rfl | (dsimp only; omega) | (refine ⟨?_, ?_⟩) | intro (_ : _ = true) | exact fun _ _ => rfl | fail)
end Go.Proofs.YtobpnmljijeadaaDoor.A

/- Contracts: the reference's without, Without, With. -/
set_option linter.unusedVariables false
set_option linter.unusedSimpArgs false
namespace Go.Proofs.YtobpnmljijeadaaDoor.A
open Go

theorem withoutR_ok (l : List Int) (p q : Int) (hl : NumB l) (hp : 1 ≤ p ∧ p ≤ 63) (hq : -64 ≤ q ∧ q ≤ 64) : Pure Tryd.prog GG 81 [aL l, I p, I q] (aL (woL l p q)) := by
  have hlen := hl.1
  refine Pure.fn tys_ok Tryd.func81 (by kernel_rfl) rfl rfl fun O => ?_
  repeat refine W_seq ?_
  refine' W_run tys_ok EE_ok false false [] rfl ?ap2 ?k2
  case ap2 => (repeat' (first | exact True.intro | exact ACoeL.refl _ | assumption | omega | rfl | (dsimp only; omega) | (refine ⟨?_, ?_⟩) | intro (_ : _ = true) | exact fun _ _ => rfl | fail)); all_goals ((try simp only [Int.toNat_natCast]); omega)
  repeat refine W_seq ?_
  refine' W_run tys_ok EE_ok false false [] rfl ?ap3 ?k3
  case ap3 => (repeat' (first | exact True.intro | exact ACoeL.refl _ | assumption | omega | rfl | (dsimp only; omega) | (refine ⟨?_, ?_⟩) | intro (_ : _ = true) | exact fun _ _ => rfl | fail)); all_goals ((try simp only [Int.toNat_natCast]); omega)
  repeat refine W_seq ?_
  refine' W_run tys_ok EE_ok false false [] rfl ?ap4 ?k4
  case ap4 => (repeat' (first | exact True.intro | exact ACoeL.refl _ | assumption | omega | rfl | (dsimp only; omega) | (refine ⟨?_, ?_⟩) | intro (_ : _ = true) | exact fun _ _ => rfl | fail)); all_goals ((try simp only [Int.toNat_natCast]); omega)
  repeat refine W_seq ?_
  refine W_block ?_
  refine W_le (Le_nil 7 3 1 (numA (woL l p q)) rfl) (Sub_of rfl) ?_
  refine W_loop (X := Nat) (fun k => ⟨[(0, aL l), (1, I p), (2, I q), (7, .row 0 1 k), (8, I k)], ⟨1, [(0, .row 3 1 k (numA (woL l p q)))]⟩⟩)
    (fun k => k ≤ l.length) (fun k => l.length - k) 0 (by omega) ?_ ?_ ?_
  · refine Le_mk ?_ ?_ <;> (repeat' (first | exact True.intro | refine ⟨ACoe.refl _, rfl, ?_⟩ | refine ⟨⟨ACoeL.refl _, rfl, rfl⟩, rfl, ?_⟩ | refine ⟨trivial, rfl, ?_⟩ | refine ⟨⟨rfl, rfl⟩, rfl, ?_⟩ | refine ⟨⟨rfl, rfl, rfl, fun i hi => ⟨ACoeL.refl _, rfl, rfl⟩⟩, rfl, ?_⟩ | refine ⟨⟨rfl, rfl, rfl, fun i hi => absurd hi (Nat.not_lt_zero i)⟩, rfl, ?_⟩ | refine ⟨⟨rfl, rfl, rfl⟩, rfl, ?_⟩ | fail))
  · exact fun x => Sub_of rfl
  · intro k hk
    repeat refine W_seq ?_
    refine' W_run tys_ok EE_ok false false [] rfl ?ap6 ?k6
    case ap6 => (repeat' (first | exact True.intro | exact ACoeL.refl _ | assumption | omega | rfl | (dsimp only; omega) | (refine ⟨?_, ?_⟩) | intro (_ : _ = true) | exact fun _ _ => rfl | fail)); all_goals ((try simp only [Int.toNat_natCast]); omega)
    repeat refine W_seq ?_
    refine W_if rfl True.intro (fun h1 => ?_) (fun h1 => ?_)
    · refine W_skip ?_
      simp only [decide_eq_true_eq] at h1
      have hlt : k < l.length := by omega
      have hb1 := hl.2 k
      have hb2 := hl.2 ((k : Int) - p).toNat
      have hb3 := q_bound hq hb2
      have hb4 := ediv_bound (a := q * l.getD ((k : Int) - p).toNat 0) (b := 64) (A := 4194304) (by omega) (by omega) (by omega)
      have hat : (woL l p q).getD k 0 = woAt l p q k := woL_at hlt
      repeat refine W_seq ?_
      refine W_block ?_
      repeat refine W_seq ?_
      refine' W_run tys_ok EE_ok false false [] rfl ?ap8 ?k8
      case ap8 => (repeat' (first | exact True.intro | exact ACoeL.refl _ | assumption | omega | rfl | (dsimp only; omega) | (refine ⟨?_, ?_⟩) | intro (_ : _ = true) | exact fun _ _ => rfl | fail)); all_goals ((try simp only [Int.toNat_natCast]); omega)
      repeat refine W_seq ?_
      refine' W_run tys_ok EE_ok false false [] rfl ?ap9 ?k9
      case ap9 => (repeat' (first | exact True.intro | exact ACoeL.refl _ | assumption | omega | rfl | (dsimp only; omega) | (refine ⟨?_, ?_⟩) | intro (_ : _ = true) | exact fun _ _ => rfl | fail)); all_goals ((try simp only [Int.toNat_natCast]); omega)
      repeat refine W_seq ?_
      refine W_cut ⟨[(0, aL l), (1, I p), (2, I q), (7, .row 0 1 k), (8, I k), (9, I ((woL l p q).getD k 0))], ⟨1, [(0, .row 3 1 k (numA (woL l p q)))]⟩⟩ ?_ ?_
      · repeat refine W_seq ?_
        refine W_if rfl True.intro (fun h2 => ?_) (fun h2 => ?_)
        · simp only [decide_eq_true_eq] at h2
          repeat refine W_seq ?_
          refine' W_run tys_ok EE_ok false false [Hint.of (Down_ok (q * l.getD ((k : Int) - p).toNat 0) 64 (by omega) (by omega) ⟨by omega, by omega⟩)] rfl ?ap11 ?k11
          case ap11 => (repeat' (first | exact True.intro | exact ACoeL.refl _ | assumption | omega | rfl | (dsimp only; omega) | (refine ⟨?_, ?_⟩) | intro (_ : _ = true) | exact fun _ _ => rfl | fail)); all_goals ((try simp only [Int.toNat_natCast]); omega)
          refine ⟨Le_mk ⟨ACoe.refl _, rfl, ACoe.refl _, rfl, ACoe.refl _, rfl, ACoe.refl _, rfl, ACoe.refl _, rfl, I_eq ?_, rfl, trivial⟩ ⟨⟨rfl, rfl, rfl, fun i hi => ⟨ACoeL.refl _, rfl, rfl⟩⟩, rfl, trivial⟩, Sub_of rfl⟩
          rw [hat, woAt, if_neg (by omega)]; rfl
        · simp only [decide_eq_false_iff_not] at h2
          refine W_skip ?_
          refine ⟨Le_mk ⟨ACoe.refl _, rfl, ACoe.refl _, rfl, ACoe.refl _, rfl, ACoe.refl _, rfl, ACoe.refl _, rfl, I_eq ?_, rfl, trivial⟩ ⟨⟨rfl, rfl, rfl, fun i hi => ⟨ACoeL.refl _, rfl, rfl⟩⟩, rfl, trivial⟩, Sub_of rfl⟩
          rw [hat, woAt, if_pos (by omega)]; rfl
      repeat refine W_seq ?_
      refine' W_run tys_ok EE_ok false false [] rfl ?ap12 ?k12
      case ap12 => (repeat' (first | exact True.intro | exact ACoeL.refl _ | assumption | omega | rfl | (dsimp only; omega) | (refine ⟨?_, ?_⟩) | intro (_ : _ = true) | exact fun _ _ => rfl | fail)); all_goals ((try simp only [Int.toNat_natCast]); omega)
      repeat refine W_seq ?_
      refine' W_run tys_ok EE_ok false false [] rfl ?ap13 ?k13
      case ap13 => (repeat' (first | exact True.intro | exact ACoeL.refl _ | assumption | omega | rfl | (dsimp only; omega) | (refine ⟨?_, ?_⟩) | intro (_ : _ = true) | exact fun _ _ => rfl | fail)); all_goals ((try simp only [Int.toNat_natCast]); omega)
      have hrow : ∀ D, OCoe D (.row 3 1 (k + 1) (fun j => if j < k then numA (woL l p q) j else (fun q' => List.take 1 (List.drop (q' * 1) [I ((woL l p q).getD k 0)])) (j - k))) (.row 3 1 (k + 1) (numA (woL l p q))) := fun D =>
        row_snoc (f2 := fun q' => List.take 1 (List.drop (q' * 1) [I ((woL l p q).getD k 0)])) rfl (fun i => rfl)
      exact ⟨k + 1, by omega, by omega, Le_mk (by (repeat' (first | exact True.intro | refine ⟨ACoe.refl _, rfl, ?_⟩ | refine ⟨⟨ACoeL.refl _, rfl, rfl⟩, rfl, ?_⟩ | refine ⟨trivial, rfl, ?_⟩ | refine ⟨⟨rfl, rfl⟩, rfl, ?_⟩ | refine ⟨⟨rfl, rfl, rfl, fun i hi => ⟨ACoeL.refl _, rfl, rfl⟩⟩, rfl, ?_⟩ | refine ⟨⟨rfl, rfl, rfl, fun i hi => absurd hi (Nat.not_lt_zero i)⟩, rfl, ?_⟩ | refine ⟨⟨rfl, rfl, rfl⟩, rfl, ?_⟩ | fail))) ⟨hrow _, rfl, trivial⟩⟩
    · refine W_exit ?_
      simp only [decide_eq_false_iff_not] at h1
      have hke : k = l.length := by omega
      subst hke
      repeat refine W_seq ?_
      refine' W_run tys_ok EE_ok false false [] rfl ?ap14 ?k14
      case ap14 => (repeat' (first | exact True.intro | exact ACoeL.refl _ | assumption | omega | rfl | (dsimp only; omega) | (refine ⟨?_, ?_⟩) | intro (_ : _ = true) | exact fun _ _ => rfl | fail)); all_goals ((try simp only [Int.toNat_natCast]); omega)
      refine W_ret ⟨_, _, rfl, ?_, ?_⟩
      · repeat' (first | exact True.intro | exact ACoeL.refl _ | assumption | omega | rfl | (dsimp only; omega) | (refine ⟨?_, ?_⟩) | intro (_ : _ = true) | exact fun _ _ => rfl | fail)
      exact ACoe_eq (by show AV.p (PV.ro 1 l.length _) = AV.p (PV.ro 1 (woL l p q).length _); rw [woL_len]; rfl)

theorem WithoutR_ok (l : List Int) (p q : Int) (hl : l.length < 1152921504606846976) : Pure Tryd.prog GG 38 [aL l, I p, I q] (.tup [aL (WithoutS l p q).1, I (WithoutS l p q).2]) := by
  refine Pure.fn tys_ok Tryd.func38 (by kernel_rfl) rfl rfl fun O => ?_
  repeat refine W_seq ?_
  refine' W_run tys_ok EE_ok false false [] rfl ?ap17 ?k17
  case ap17 => (repeat' (first | exact True.intro | exact ACoeL.refl _ | assumption | omega | rfl | (dsimp only; omega) | (refine ⟨?_, ?_⟩) | intro (_ : _ = true) | exact fun _ _ => rfl | fail)); all_goals ((try simp only [Int.toNat_natCast]); omega)
  repeat refine W_seq ?_
  refine' W_run tys_ok EE_ok false false [Hint.of (numbersR_ok l hl)] rfl ?ap18 ?k18
  case ap18 => (repeat' (first | exact True.intro | exact ACoeL.refl _ | assumption | omega | rfl | (dsimp only; omega) | (refine ⟨?_, ?_⟩) | intro (_ : _ = true) | exact fun _ _ => rfl | fail)); all_goals ((try simp only [Int.toNat_natCast]); omega)
  repeat refine W_seq ?_
  refine W_if rfl True.intro (fun h1 => ?_) (fun h1 => ?_)
  · simp only [Bool.not_eq_true'] at h1
    repeat refine W_seq ?_
    refine' W_run tys_ok EE_ok false false [] rfl ?ap20 ?k20
    case ap20 => (repeat' (first | exact True.intro | exact ACoeL.refl _ | assumption | omega | rfl | (dsimp only; omega) | (refine ⟨?_, ?_⟩) | intro (_ : _ = true) | exact fun _ _ => rfl | fail)); all_goals ((try simp only [Int.toNat_natCast]); omega)
    refine W_ret ⟨_, _, rfl, ?_, (by simp only [WithoutS, h1, cond_false]; exact ACoe_tup (ACoeL.cons ACoe_nilL (ACoeL.refl _)))⟩
    · repeat' (first | exact True.intro | exact ACoeL.refl _ | assumption | omega | rfl | (dsimp only; omega) | (refine ⟨?_, ?_⟩) | intro (_ : _ = true) | exact fun _ _ => rfl | fail)
  simp only [Bool.not_eq_false'] at h1
  refine W_skip ?_
  repeat refine W_seq ?_
  refine' W_run tys_ok EE_ok false false [Hint.of (repeat_ok p q)] rfl ?ap22 ?k22
  case ap22 => (repeat' (first | exact True.intro | exact ACoeL.refl _ | assumption | omega | rfl | (dsimp only; omega) | (refine ⟨?_, ?_⟩) | intro (_ : _ = true) | exact fun _ _ => rfl | fail)); all_goals ((try simp only [Int.toNat_natCast]); omega)
  repeat refine W_seq ?_
  refine W_if rfl True.intro (fun h2 => ?_) (fun h2 => ?_)
  · have h3 : repeatS p q = false := by simpa using h2
    repeat refine W_seq ?_
    refine' W_run tys_ok EE_ok false false [] rfl ?ap24 ?k24
    case ap24 => (repeat' (first | exact True.intro | exact ACoeL.refl _ | assumption | omega | rfl | (dsimp only; omega) | (refine ⟨?_, ?_⟩) | intro (_ : _ = true) | exact fun _ _ => rfl | fail)); all_goals ((try simp only [Int.toNat_natCast]); omega)
    refine W_ret ⟨_, _, rfl, ?_, (by simp only [WithoutS, h1, h3, cond_true, cond_false]; exact ACoe_tup (ACoeL.cons ACoe_nilL (ACoeL.refl _)))⟩
    · repeat' (first | exact True.intro | exact ACoeL.refl _ | assumption | omega | rfl | (dsimp only; omega) | (refine ⟨?_, ?_⟩) | intro (_ : _ = true) | exact fun _ _ => rfl | fail)
  have h3 : repeatS p q = true := by simpa using h2
  have h4 := repeatS_iff.1 h3
  refine W_skip ?_
  repeat refine W_seq ?_
  refine' W_run tys_ok EE_ok false false [Hint.of (withoutR_ok l p q (NumB.of h1).1 h4.1 h4.2)] rfl ?ap26 ?k26
  case ap26 => (repeat' (first | exact True.intro | exact ACoeL.refl _ | assumption | omega | rfl | (dsimp only; omega) | (refine ⟨?_, ?_⟩) | intro (_ : _ = true) | exact fun _ _ => rfl | fail)); all_goals ((try simp only [Int.toNat_natCast]); omega)
  refine W_ret ⟨_, _, rfl, ?_, (by simp only [WithoutS, h1, h3, cond_true]; exact ACoe.refl _)⟩
  · repeat' (first | exact True.intro | exact ACoeL.refl _ | assumption | omega | rfl | (dsimp only; omega) | (refine ⟨?_, ?_⟩) | intro (_ : _ = true) | exact fun _ _ => rfl | fail)

theorem WithR_ok (l : List Int) (p q : Int) (hl : l.length < 1152921504606846976) : Pure Tryd.prog GG 36 [aL l, I p, I q] (.tup [aL (WithS l p q).1, I (WithS l p q).2]) := by
  refine Pure.fn tys_ok Tryd.func36 (by kernel_rfl) rfl rfl fun O => ?_
  repeat refine W_seq ?_
  refine' W_run tys_ok EE_ok false false [] rfl ?ap29 ?k29
  case ap29 => (repeat' (first | exact True.intro | exact ACoeL.refl _ | assumption | omega | rfl | (dsimp only; omega) | (refine ⟨?_, ?_⟩) | intro (_ : _ = true) | exact fun _ _ => rfl | fail)); all_goals ((try simp only [Int.toNat_natCast]); omega)
  repeat refine W_seq ?_
  refine' W_run tys_ok EE_ok false false [Hint.of (numbersR_ok l hl)] rfl ?ap30 ?k30
  case ap30 => (repeat' (first | exact True.intro | exact ACoeL.refl _ | assumption | omega | rfl | (dsimp only; omega) | (refine ⟨?_, ?_⟩) | intro (_ : _ = true) | exact fun _ _ => rfl | fail)); all_goals ((try simp only [Int.toNat_natCast]); omega)
  repeat refine W_seq ?_
  refine W_if rfl True.intro (fun h1 => ?_) (fun h1 => ?_)
  · simp only [Bool.not_eq_true'] at h1
    repeat refine W_seq ?_
    refine' W_run tys_ok EE_ok false false [] rfl ?ap32 ?k32
    case ap32 => (repeat' (first | exact True.intro | exact ACoeL.refl _ | assumption | omega | rfl | (dsimp only; omega) | (refine ⟨?_, ?_⟩) | intro (_ : _ = true) | exact fun _ _ => rfl | fail)); all_goals ((try simp only [Int.toNat_natCast]); omega)
    refine W_ret ⟨_, _, rfl, ?_, (by simp only [WithS, h1, cond_false]; exact ACoe_tup (ACoeL.cons ACoe_nilL (ACoeL.refl _)))⟩
    · repeat' (first | exact True.intro | exact ACoeL.refl _ | assumption | omega | rfl | (dsimp only; omega) | (refine ⟨?_, ?_⟩) | intro (_ : _ = true) | exact fun _ _ => rfl | fail)
  simp only [Bool.not_eq_false'] at h1
  refine W_skip ?_
  repeat refine W_seq ?_
  refine' W_run tys_ok EE_ok false false [Hint.of (repeat_ok p q)] rfl ?ap34 ?k34
  case ap34 => (repeat' (first | exact True.intro | exact ACoeL.refl _ | assumption | omega | rfl | (dsimp only; omega) | (refine ⟨?_, ?_⟩) | intro (_ : _ = true) | exact fun _ _ => rfl | fail)); all_goals ((try simp only [Int.toNat_natCast]); omega)
  repeat refine W_seq ?_
  refine W_if rfl True.intro (fun h2 => ?_) (fun h2 => ?_)
  · have h3 : repeatS p q = false := by simpa using h2
    repeat refine W_seq ?_
    refine' W_run tys_ok EE_ok false false [] rfl ?ap36 ?k36
    case ap36 => (repeat' (first | exact True.intro | exact ACoeL.refl _ | assumption | omega | rfl | (dsimp only; omega) | (refine ⟨?_, ?_⟩) | intro (_ : _ = true) | exact fun _ _ => rfl | fail)); all_goals ((try simp only [Int.toNat_natCast]); omega)
    refine W_ret ⟨_, _, rfl, ?_, (by simp only [WithS, h1, h3, cond_true, cond_false]; exact ACoe_tup (ACoeL.cons ACoe_nilL (ACoeL.refl _)))⟩
    · repeat' (first | exact True.intro | exact ACoeL.refl _ | assumption | omega | rfl | (dsimp only; omega) | (refine ⟨?_, ?_⟩) | intro (_ : _ = true) | exact fun _ _ => rfl | fail)
  have h3 : repeatS p q = true := by simpa using h2
  obtain ⟨hp, hq⟩ := repeatS_iff.1 h3
  have hnb := (NumB.of h1).1
  have hlen := hnb.1
  refine W_skip ?_
  repeat refine W_seq ?_
  refine' W_run tys_ok EE_ok false false [] rfl ?ap38 ?k38
  case ap38 => (repeat' (first | exact True.intro | exact ACoeL.refl _ | assumption | omega | rfl | (dsimp only; omega) | (refine ⟨?_, ?_⟩) | intro (_ : _ = true) | exact fun _ _ => rfl | fail)); all_goals ((try simp only [Int.toNat_natCast]); omega)
  repeat refine W_seq ?_
  refine' W_run tys_ok EE_ok false false [] rfl ?ap39 ?k39
  case ap39 => (repeat' (first | exact True.intro | exact ACoeL.refl _ | assumption | omega | rfl | (dsimp only; omega) | (refine ⟨?_, ?_⟩) | intro (_ : _ = true) | exact fun _ _ => rfl | fail)); all_goals ((try simp only [Int.toNat_natCast]); omega)
  repeat refine W_seq ?_
  refine W_block ?_
  refine W_le (Le_nil 8 3 1 (numA (withL l p q)) rfl) (Sub_of rfl) ?_
  refine W_loop (X := Nat) (fun k => ⟨[(0, aL l), (1, I p), (2, I q), (8, .row 0 1 k), (9, I k)], ⟨1, [(0, .row 3 1 k (numA (withL l p q)))]⟩⟩)
    (fun k => k ≤ l.length ∧ ∀ i, i < k → enB (wAt l p q i) = true) (fun k => l.length - k) 0 ⟨by omega, fun i hi => by omega⟩ ?_ ?_ ?_
  · refine Le_mk ?_ ?_ <;> (repeat' (first | exact True.intro | refine ⟨ACoe.refl _, rfl, ?_⟩ | refine ⟨⟨ACoeL.refl _, rfl, rfl⟩, rfl, ?_⟩ | refine ⟨trivial, rfl, ?_⟩ | refine ⟨⟨rfl, rfl⟩, rfl, ?_⟩ | refine ⟨⟨rfl, rfl, rfl, fun i hi => ⟨ACoeL.refl _, rfl, rfl⟩⟩, rfl, ?_⟩ | refine ⟨⟨rfl, rfl, rfl, fun i hi => absurd hi (Nat.not_lt_zero i)⟩, rfl, ?_⟩ | refine ⟨⟨rfl, rfl, rfl⟩, rfl, ?_⟩ | fail))
  · exact fun x => Sub_of rfl
  · rintro k ⟨hk, hen⟩
    repeat refine W_seq ?_
    refine' W_run tys_ok EE_ok false false [] rfl ?ap41 ?k41
    case ap41 => (repeat' (first | exact True.intro | exact ACoeL.refl _ | assumption | omega | rfl | (dsimp only; omega) | (refine ⟨?_, ?_⟩) | intro (_ : _ = true) | exact fun _ _ => rfl | fail)); all_goals ((try simp only [Int.toNat_natCast]); omega)
    repeat refine W_seq ?_
    refine W_if rfl True.intro (fun h4 => ?_) (fun h4 => ?_)
    · refine W_skip ?_
      simp only [decide_eq_true_eq] at h4
      have hlt : k < l.length := by omega
      have hb1 := hnb.2 k
      have hwe := wAt_eq (l := l) (q := q) hp.1 k
      have hat : (withL l p q).getD k 0 = wAt l p q k := withL_at hlt
      repeat refine W_seq ?_
      refine W_block ?_
      repeat refine W_seq ?_
      refine' W_run tys_ok EE_ok false false [] rfl ?ap43 ?k43
      case ap43 => (repeat' (first | exact True.intro | exact ACoeL.refl _ | assumption | omega | rfl | (dsimp only; omega) | (refine ⟨?_, ?_⟩) | intro (_ : _ = true) | exact fun _ _ => rfl | fail)); all_goals ((try simp only [Int.toNat_natCast]); omega)
      repeat refine W_seq ?_
      refine' W_run tys_ok EE_ok false false [] rfl ?ap44 ?k44
      case ap44 => (repeat' (first | exact True.intro | exact ACoeL.refl _ | assumption | omega | rfl | (dsimp only; omega) | (refine ⟨?_, ?_⟩) | intro (_ : _ = true) | exact fun _ _ => rfl | fail)); all_goals ((try simp only [Int.toNat_natCast]); omega)
      repeat refine W_seq ?_
      refine W_cut ⟨[(0, aL l), (1, I p), (2, I q), (8, .row 0 1 k), (9, I k), (10, I (wAt l p q k))], ⟨1, [(0, .row 3 1 k (numA (withL l p q)))]⟩⟩ ?_ ?_
      · repeat refine W_seq ?_
        refine W_if rfl True.intro (fun h5 => ?_) (fun h5 => ?_)
        · simp only [decide_eq_true_eq] at h5
          rw [if_neg (by omega)] at hwe
          have hat2 : (withL l p q).getD ((k : Int) - p).toNat 0 = wAt l p q ((k : Int) - p).toNat := withL_at (by omega)
          have hb2 := within_iff.1 (hen ((k : Int) - p).toNat (by omega))
          rw [← hat2] at hb2
          have hb3 := q_bound hq hb2
          have hb4 := ediv_bound (a := q * (withL l p q).getD ((k : Int) - p).toNat 0) (b := 64) (A := 4194304) (by omega) (by omega) (by omega)
          repeat refine W_seq ?_
          refine' W_run tys_ok EE_ok false false [Hint.of (Down_ok (q * (withL l p q).getD ((k : Int) - p).toNat 0) 64 (by omega) (by omega) ⟨by omega, by omega⟩)] rfl ?ap46 ?k46
          case ap46 => (repeat' (first | exact True.intro | exact ACoeL.refl _ | assumption | omega | rfl | (dsimp only; omega) | (refine ⟨?_, ?_⟩) | intro (_ : _ = true) | exact fun _ _ => rfl | fail)); all_goals ((try simp only [Int.toNat_natCast]); omega)
          refine ⟨Le_mk ⟨ACoe.refl _, rfl, ACoe.refl _, rfl, ACoe.refl _, rfl, ACoe.refl _, rfl, ACoe.refl _, rfl, I_eq ?_, rfl, trivial⟩ ⟨⟨rfl, rfl, rfl, fun i hi => ⟨ACoeL.refl _, rfl, rfl⟩⟩, rfl, trivial⟩, Sub_of rfl⟩
          rw [hwe, ← hat2]; rfl
        · simp only [decide_eq_false_iff_not] at h5
          rw [if_pos (by omega)] at hwe
          refine W_skip ?_
          refine ⟨Le_mk ⟨ACoe.refl _, rfl, ACoe.refl _, rfl, ACoe.refl _, rfl, ACoe.refl _, rfl, ACoe.refl _, rfl, I_eq ?_, rfl, trivial⟩ ⟨⟨rfl, rfl, rfl, fun i hi => ⟨ACoeL.refl _, rfl, rfl⟩⟩, rfl, trivial⟩, Sub_of rfl⟩
          rw [hwe]; rfl
      repeat refine W_seq ?_
      refine' W_run tys_ok EE_ok false false [Hint.of (Between_ok (wAt l p q k) (-65536) 65536)] rfl ?ap47 ?k47
      case ap47 => (repeat' (first | exact True.intro | exact ACoeL.refl _ | assumption | omega | rfl | (dsimp only; omega) | (refine ⟨?_, ?_⟩) | intro (_ : _ = true) | exact fun _ _ => rfl | fail)); all_goals ((try simp only [Int.toNat_natCast]); omega)
      repeat refine W_seq ?_
      refine W_if rfl True.intro (fun h6 => ?_) (fun h6 => ?_)
      · have h7 : enB (wAt l p q k) = false := by simpa using h6
        repeat refine W_seq ?_
        refine' W_run tys_ok EE_ok false false [] rfl ?ap49 ?k49
        case ap49 => (repeat' (first | exact True.intro | exact ACoeL.refl _ | assumption | omega | rfl | (dsimp only; omega) | (refine ⟨?_, ?_⟩) | intro (_ : _ = true) | exact fun _ _ => rfl | fail)); all_goals ((try simp only [Int.toNat_natCast]); omega)
        refine W_ret ⟨_, _, rfl, ?_, (by simp only [WithS, h1, h3, cond_true, withL_bad hlt h7, cond_false]; exact ACoe_tup (ACoeL.cons ACoe_nilL (ACoeL.refl _)))⟩
        · repeat' (first | exact True.intro | exact ACoeL.refl _ | assumption | omega | rfl | (dsimp only; omega) | (refine ⟨?_, ?_⟩) | intro (_ : _ = true) | exact fun _ _ => rfl | fail)
      · have h7 : enB (wAt l p q k) = true := by simpa using h6
        refine W_skip ?_
        repeat refine W_seq ?_
        refine' W_run tys_ok EE_ok false false [] rfl ?ap51 ?k51
        case ap51 => (repeat' (first | exact True.intro | exact ACoeL.refl _ | assumption | omega | rfl | (dsimp only; omega) | (refine ⟨?_, ?_⟩) | intro (_ : _ = true) | exact fun _ _ => rfl | fail)); all_goals ((try simp only [Int.toNat_natCast]); omega)
        repeat refine W_seq ?_
        refine' W_run tys_ok EE_ok false false [] rfl ?ap52 ?k52
        case ap52 => (repeat' (first | exact True.intro | exact ACoeL.refl _ | assumption | omega | rfl | (dsimp only; omega) | (refine ⟨?_, ?_⟩) | intro (_ : _ = true) | exact fun _ _ => rfl | fail)); all_goals ((try simp only [Int.toNat_natCast]); omega)
        have hrow : ∀ D, OCoe D (.row 3 1 (k + 1) (fun j => if j < k then numA (withL l p q) j else (fun q' => List.take 1 (List.drop (q' * 1) [I (wAt l p q k)])) (j - k))) (.row 3 1 (k + 1) (numA (withL l p q))) := fun D =>
          row_snoc (f2 := fun q' => List.take 1 (List.drop (q' * 1) [I (wAt l p q k)])) (by rw [numA, hat]; rfl) (fun i => rfl)
        refine ⟨k + 1, ⟨by omega, fun i hi => ?_⟩, by omega, Le_mk (by (repeat' (first | exact True.intro | refine ⟨ACoe.refl _, rfl, ?_⟩ | refine ⟨⟨ACoeL.refl _, rfl, rfl⟩, rfl, ?_⟩ | refine ⟨trivial, rfl, ?_⟩ | refine ⟨⟨rfl, rfl⟩, rfl, ?_⟩ | refine ⟨⟨rfl, rfl, rfl, fun i hi => ⟨ACoeL.refl _, rfl, rfl⟩⟩, rfl, ?_⟩ | refine ⟨⟨rfl, rfl, rfl, fun i hi => absurd hi (Nat.not_lt_zero i)⟩, rfl, ?_⟩ | refine ⟨⟨rfl, rfl, rfl⟩, rfl, ?_⟩ | fail))) ⟨hrow _, rfl, trivial⟩⟩
        by_cases h9 : i = k
        · subst h9; exact h7
        · exact hen i (by omega)
    · refine W_exit ?_
      simp only [decide_eq_false_iff_not] at h4
      have hke : k = l.length := by omega
      subst hke
      have hgood := withL_good hen
      repeat refine W_seq ?_
      refine' W_run tys_ok EE_ok false false [] rfl ?ap53 ?k53
      case ap53 => (repeat' (first | exact True.intro | exact ACoeL.refl _ | assumption | omega | rfl | (dsimp only; omega) | (refine ⟨?_, ?_⟩) | intro (_ : _ = true) | exact fun _ _ => rfl | fail)); all_goals ((try simp only [Int.toNat_natCast]); omega)
      refine W_ret ⟨_, _, rfl, ?_, ?_⟩
      · repeat' (first | exact True.intro | exact ACoeL.refl _ | assumption | omega | rfl | (dsimp only; omega) | (refine ⟨?_, ?_⟩) | intro (_ : _ = true) | exact fun _ _ => rfl | fail)
      simp only [WithS, h1, h3, cond_true, hgood]
      exact ACoe_tup (ACoeL.cons (ACoe_eq (by show AV.p (PV.ro 1 l.length _) = AV.p (PV.ro 1 (withL l p q).length _); rw [withL_len]; rfl)) (ACoeL.refl _))
end Go.Proofs.YtobpnmljijeadaaDoor.A
